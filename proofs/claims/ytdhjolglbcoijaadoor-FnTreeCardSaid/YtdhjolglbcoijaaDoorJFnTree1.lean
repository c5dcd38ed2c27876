/- Contracts of functions of the program and of the reference, and plain lemmas on what they compute: a part of the proof of the law FnTree. No condition. -/
import Derived.Test.YtdhjolglbcoijaaDoorG7ebe2x0
import Derived.Test.YtdhjolglbcoijaaDoorG2bc1bx0
import Derived.Test.YtdhjolglbcoijaaDoorG7ebe2x1
import Derived.Test.YtdhjolglbcoijaaDoorGee5d4x0
import Derived.Test.YtdhjolglbcoijaaDoorGe8c03x0
import Derived.Test.YtdhjolglbcoijaaDoorWWords
import Derived.ChangeArms
import Derived.ChangeOld
import Derived.WideShapes
import Derived.OpenShut
import Derived.DataElems
import Derived.Test.YtdhjolglbcoijaaDoorWMore
import Derived.Test.YtdhjolglbcoijaaDoorG7ebe2x2
import Derived.Test.YtdhjolglbcoijaaDoorShort
namespace Go.Proofs.YtdhjolglbcoijaaDoor.PA
open Go.RowKit Go.Proofs.YtdhjolglbcoijaaDoor.Short Go.Proofs.YtdhjolglbcoijaaDoorW.PrintWords Go.Proofs.YtdhjolglbcoijaaDoorW.PrintLast Go.Proofs.YtdhjolglbcoijaaDoorW.PrintMore
attribute [local go_sem] max2_int min2_int max_two min_two max_three min_three max_four min_four   -- for this text's walks alone
set_option linter.unusedVariables false
set_option linter.unusedSimpArgs false

/-! ### impl_topOf: function 97 -/
def impl_topOf.f : Nat → ByteArray → Int → Int → List ByteArray → Option (ByteArray × Bool)
 | 0, _, _, _, _ => none
 | k + 1, a0, a1, a2, l3 => if a1 = 1 then (some (a0, ((l3.length : Int) == 0))) else (if (l3.length : Int) = 0 then (some ((⟨#[]⟩ : ByteArray), false)) else (if 0 ≤ (wrap64 ((l3.length : Int) - 1)) then (if (wrap64 ((l3.length : Int) - 1)) < (l3.length : Int) then (if (wrap64 ((l3.length : Int) - 1)) ≤ (l3.length : Int) then ((impl_firsts.f k a1).bind fun t991 => (if a2 < t991 then ((impl_topOf.f k a0 t991 a2 (l3.take ((wrap64 ((l3.length : Int) - 1)) : Int).toNat)).bind fun bt992 => ((impl_NodeOf.f k bt992.1 (rdOf ByteArray.empty l3 (wrap64 ((l3.length : Int) - 1)))).bind fun t994 => (some (t994, bt992.2)))) else ((impl_topOf.f k a0 (wrap64 (a1 - t991)) (wrap64 (a2 - t991)) (l3.take ((wrap64 ((l3.length : Int) - 1)) : Int).toNat)).bind fun bt995 => ((impl_NodeOf.f k (rdOf ByteArray.empty l3 (wrap64 ((l3.length : Int) - 1))) bt995.1).bind fun t997 => (some (t997, bt995.2)))))) else (none)) else (none)) else (none)))
theorem impl_topOf.mono_l : ∀ k, (∀ y0 y1 y2 y3, LeO (impl_topOf.f k y0 y1 y2 y3) (impl_topOf.f (k + 1) y0 y1 y2 y3))
 | 0 => fun _ _ _ _ r h => by simp [impl_topOf.f] at h
 | k + 1 => by
  have ih0 := impl_topOf.mono_l k
  ·intro y0 y1 y2 y3
   unfold impl_topOf.f
   repeat' first
   | (with_reducible exact ih0 _ _ _ _)
   | (with_reducible exact impl_NodeOf.mono _ _ _)
   | (with_reducible exact impl_firsts.mono _ _)
   | (with_reducible exact LeO.refl _)
   | (with_reducible exact LeO.none _)
   | (with_reducible refine LeO.ite ?_ ?_)
   | (with_reducible refine LeO.bind ?_ (fun _ => ?_))
   | exact ih0 _ _ _ _
   | exact impl_NodeOf.mono _ _ _
   | exact impl_firsts.mono _ _
   | exact LeO.none _
   | refine LeO.ite ?_ ?_
   | refine LeO.bind ?_ (fun _ => ?_)
theorem impl_topOf.mono : ∀ a0 a1 a2 a3 k, LeO (impl_topOf.f k a0 a1 a2 a3) (impl_topOf.f (k + 1) a0 a1 a2 a3) := by
 intro a0 a1 a2 a3 k
 have ih0 := impl_topOf.mono_l k
 exact ih0 a0 a1 a2 a3
set_option maxHeartbeats 8000000 in
set_option maxRecDepth 100000 in
theorem impl_topOf.calls (k : Nat) : ∀ (a0 : ByteArray) (a1 : Int) (a2 : Int) (A3 : Option Addr) (c3 : Nat) (l3 : List ByteArray) (r1 : ByteArray) (r2 : Bool) (w : World) (hr3 : Kd.C Kd.string w A3 l3.length l3) (hc3 : l3.length ≤ c3) (hT : Tab w) (h : impl_topOf.f k a0 a1 a2 l3 = some (r1, r2)),
 Calls Tryd.prog 97 #[.string a0, .int .i64 a1, .int .i64 a2, .slice A3 l3.length c3] w fun e w' => e = .returned (.tuple #[.string r1, .bool r2]) ∧ Below w.heap.size w w' := by
 induction k using Nat.strongRecOn with
 | _ k ih =>
 intro a0 a1 a2 A3 c3 l3 r1 r2 w hr3 hc3 hT h
 cases k with
 | zero => exact absurd h (by simp [impl_topOf.f])
 | succ k =>
 simp only [impl_topOf.f] at h
 have HR3 := Aside0.mk hr3
 have HC3 := Aside0.mk hc3
 clear hr3 hc3
 have HT := Aside0.mk hT
 clear hT
 have HB := Aside0.mk (Below.refl w.heap.size w)
 have H : (if a1 = 1 then (some (a0, ((l3.length : Int) == 0))) else (if (l3.length : Int) = 0 then (some ((⟨#[]⟩ : ByteArray), false)) else (if 0 ≤ (wrap64 ((l3.length : Int) - 1)) then (if (wrap64 ((l3.length : Int) - 1)) < (l3.length : Int) then (if (wrap64 ((l3.length : Int) - 1)) ≤ (l3.length : Int) then ((impl_firsts.f k a1).bind fun t991 => (if a2 < t991 then ((impl_topOf.f k a0 t991 a2 (l3.take ((wrap64 ((l3.length : Int) - 1)) : Int).toNat)).bind fun bt992 => ((impl_NodeOf.f k bt992.1 (rdOf ByteArray.empty l3 (wrap64 ((l3.length : Int) - 1)))).bind fun t994 => (some (t994, bt992.2)))) else ((impl_topOf.f k a0 (wrap64 (a1 - t991)) (wrap64 (a2 - t991)) (l3.take ((wrap64 ((l3.length : Int) - 1)) : Int).toNat)).bind fun bt995 => ((impl_NodeOf.f k (rdOf ByteArray.empty l3 (wrap64 ((l3.length : Int) - 1))) bt995.1).bind fun t997 => (some (t997, bt995.2)))))) else (none)) else (none)) else (none)))) = some (r1, r2) := h
 clear h
 by_cases c5 : a1 = 1
 ·rw [if_pos c5] at H
  have c5b0 : (a1 == 1) = true := beq_iff_eq.mpr c5
  have c5b1 : (a1 != 1) = false := bne_eq_false_iff_eq.mpr c5
  clear c5
  simp only [Option.some.injEq, Prod.mk.injEq] at H
  obtain ⟨rfl, rfl⟩ := H
  go_enter Tryd.func97, Tryd.ntmps97
  go_wp2
  go_ret2
  exact ⟨by first | rfl | (simp [errW_none, errW_some] <;> rfl) | (simp [*, errW_none, errW_some] <;> rfl), bl_⟩
 ·rw [if_neg c5] at H
  have c5b0 : (a1 == 1) = false := beq_eq_false_iff_ne.mpr c5
  have c5b1 : (a1 != 1) = true := bne_iff_ne.mpr c5
  by_cases c6 : (l3.length : Int) = 0
  ·rw [if_pos c6] at H
   have c6b0 : ((l3.length : Int) == 0) = true := beq_iff_eq.mpr c6
   have c6b1 : ((l3.length : Int) != 0) = false := bne_eq_false_iff_eq.mpr c6
   clear c6
   simp only [Option.some.injEq, Prod.mk.injEq] at H
   obtain ⟨rfl, rfl⟩ := H
   go_enter Tryd.func97, Tryd.ntmps97
   go_wp2
   go_ret2
   exact ⟨by first | rfl | (simp [errW_none, errW_some] <;> rfl) | (simp [*, errW_none, errW_some] <;> rfl), bl_⟩
  ·rw [if_neg c6] at H
   have c6b0 : ((l3.length : Int) == 0) = false := beq_eq_false_iff_ne.mpr c6
   have c6b1 : ((l3.length : Int) != 0) = true := bne_iff_ne.mpr c6
   have c6b2 : ¬ (l3 = []) := fun h_ => c6 (by rw [h_]; rfl)
   obtain ⟨ji7, hji7⟩ : ∃ j_ : Int, (wrap64 ((l3.length : Int) - 1)) = j_ := ⟨_, rfl⟩
   replace H : (if 0 ≤ (ji7) then (if (ji7) < (l3.length : Int) then (if (ji7) ≤ (l3.length : Int) then ((impl_firsts.f k a1).bind fun t991 => (if a2 < t991 then ((impl_topOf.f k a0 t991 a2 (l3.take ((ji7) : Int).toNat)).bind fun bt992 => ((impl_NodeOf.f k bt992.1 (rdOf ByteArray.empty l3 (ji7))).bind fun t994 => (some (t994, bt992.2)))) else ((impl_topOf.f k a0 (wrap64 (a1 - t991)) (wrap64 (a2 - t991)) (l3.take ((ji7) : Int).toNat)).bind fun bt995 => ((impl_NodeOf.f k (rdOf ByteArray.empty l3 (ji7)) bt995.1).bind fun t997 => (some (t997, bt995.2)))))) else (none)) else (none)) else (none)) = some (r1, r2) := by first | (rw [hji7] at H; exact H) | (simp only [hji7] at H ⊢; exact H)
   have hji7w : (IntKind.i64.wrap ((l3.length : Int) - 1)) = ji7 := (i64_w _).trans hji7
   by_cases c8 : 0 ≤ (ji7)
   ·rw [if_pos c8] at H
    have c8b0 : decide (0 ≤ (ji7)) = true := decide_eq_true c8
    clear c8
    by_cases c9 : (ji7) < (l3.length : Int)
    ·rw [if_pos c9] at H
     have c9b0 : decide ((ji7) < (l3.length : Int)) = true := decide_eq_true c9
     clear c9
     have c10b0 := eq_true (of_decide_eq_true as_ : 0 ≤ (ji7))
     by_cases c11 : (ji7) ≤ (l3.length : Int)
     ·rw [if_pos c11] at H
      have c11b0 := eq_true c11
      have c11b1 : decide ((ji7) ≤ (l3.length : Int)) = true := decide_eq_true c11
      clear c11
      replace H := Option.bind_eq_some_iff.mp H
      obtain ⟨t991, A120, H⟩ := H
      replace H : (if a2 < t991 then ((impl_topOf.f k a0 t991 a2 (l3.take ((ji7) : Int).toNat)).bind fun bt992 => ((impl_NodeOf.f k bt992.1 (rdOf ByteArray.empty l3 (ji7))).bind fun t994 => (some (t994, bt992.2)))) else ((impl_topOf.f k a0 (wrap64 (a1 - t991)) (wrap64 (a2 - t991)) (l3.take ((ji7) : Int).toNat)).bind fun bt995 => ((impl_NodeOf.f k (rdOf ByteArray.empty l3 (ji7)) bt995.1).bind fun t997 => (some (t997, bt995.2))))) = some (r1, r2) := H
      have A12 := Aside0.mk A120
      clear A120
      by_cases c13 : a2 < t991
      ·rw [if_pos c13] at H
       have c13b0 : decide (a2 < t991) = true := decide_eq_true c13
       clear c13
       replace H := Option.bind_eq_some_iff.mp H
       obtain ⟨⟨t992, t993⟩, A140, H⟩ := H
       replace H : ((impl_NodeOf.f k t992 (rdOf ByteArray.empty l3 (ji7))).bind fun t994 => (some (t994, t993))) = some (r1, r2) := H
       have A14 := Aside0.mk A140
       clear A140
       replace H := Option.bind_eq_some_iff.mp H
       obtain ⟨t994, A150, H⟩ := H
       replace H : (some (t994, t993)) = some (r1, r2) := H
       have A15 := Aside0.mk A150
       clear A150
       simp only [Option.some.injEq, Prod.mk.injEq] at H
       obtain ⟨rfl, rfl⟩ := H
       have p989 : 0 ≤ ((ji7) : Int) := of_decide_eq_true as_
       have q989 : (ji7) < (l3.length : Int) := of_decide_eq_true as_
       obtain ⟨ad989, e989, hx989_0⟩ := Kd.at_string HR3.out (ji7) p989 q989
       cases e989
       replace p989 := eq_true p989
       replace q989 := eq_true q989
       obtain ⟨i016, hi016, _, hsz16, _⟩ := info_parts info9
       obtain ⟨hcut16, hA16, hC16⟩ := print_take_of (P := Tryd.prog) Value.string (⟨#[]⟩ : ByteArray) 37 9 .i64 Tryd.underlying37 hi016 hsz16 (some ad989) c3 l3 (ji7) (of_decide_eq_true as_) (of_decide_eq_true as_) HC3.out
       have HR990 := Aside0.mk (Kd.C_of_reads (h1 := fun _ => rfl) (hA16 _ (Kd.reads_of_C HR3.out)))
       have HC990 := Aside0.mk hC16
       clear hA16 hC16 hi016 hsz16
       go_enter Tryd.func97, Tryd.ntmps97
       go_wp2_with (first | ((with_reducible refine gate_callee (f := 95) rfl ?_); refine goesL_ (some 38) rfl rfl Tryd.func95 (by kernel_rfl) rfl #[.int .i64 a1] rfl lm_ ?_; (with_reducible refine (impl_firsts.calls k a1 t991 _ A12.out).mono ?_); rintro e w' ⟨rfl, ⟨nd, rfl⟩⟩; refine ⟨_, rfl, ?_⟩) | ((with_reducible refine gate_callee (f := 97) rfl ?_); refine goesL_ (some 47) rfl rfl Tryd.func97 (by kernel_rfl) rfl #[.string a0, .int .i64 t991, .int .i64 a2, .slice (some ad989) (l3.take ((ji7) : Int).toNat).length c3] rfl (by (try simp only [List.map_toArray, List.map_cons, List.map_nil]); first | done | (rw [show (l3.take ((ji7) : Int).toNat).length = (ji7).toNat from (by rw [List.length_take]; have h_ : ((ji7) : Int) ≤ (l3.length : Int) := of_decide_eq_true as_; omega)] <;> rfl) | (simp only [hji7]; rfl) | rfl | (simp only [List.length_drop, List.length_take]; rfl)) ?_; (with_reducible refine (ih k (by omega) a0 t991 a2 _ _ (l3.take ((ji7) : Int).toNat) t992 t993 _ ?side1 ?side2 ?side3 A14.out).mono ?_); (case side1 => repeat (first | exact HR990.out | (with_reducible refine Kd.C_alloc ?_ _) | (with_reducible refine Kd.C_drewN ?_ _) | (with_reducible refine Kd.C_drew ?_))); (case side2 => exact HC990.out); (case side3 => exact tab_of HT.out bl_); rintro e w17 ⟨rfl, hb⟩; refine ⟨_, rfl, ?_⟩; have n0_ := Aside0.mk (below_step bl_ hb); clear HB; have HB := n0_; clear n0_; (try clear hb); (try clear hb2); (try clear hk); (try clear hi)) | ((with_reducible refine gate_callee (f := 51) rfl ?_); refine goesL_ (some 52) rfl rfl Tryd.func51 (by kernel_rfl) rfl #[.string t992, .string (rdOf ByteArray.empty l3 (ji7))] rfl (by (try simp only [List.map_toArray, List.map_cons, List.map_nil]); first | done | (simp only [hji7]; rfl) | rfl | (simp only [List.length_drop, List.length_take]; rfl)) ?_; (with_reducible refine (impl_NodeOf.calls k t992 (rdOf ByteArray.empty l3 (ji7)) t994 _ ?side1 A15.out).mono ?_); (case side1 => exact tab_of HT.out bl_); rintro e w18 ⟨rfl, hb⟩; refine ⟨_, rfl, ?_⟩; have n0_ := Aside0.mk (below_step bl_ hb); clear HB; have HB := n0_; clear n0_; (try clear hb); (try clear hb2); (try clear hk); (try clear hi)))
       go_ret2
       exact ⟨by first | rfl | (simp [errW_none, errW_some] <;> rfl) | (simp only [← hji7]; first | rfl | (simp [errW_none, errW_some] <;> rfl)) | (simp [*, errW_none, errW_some] <;> rfl), bl_⟩
      ·rw [if_neg c13] at H
       have c13b0 : decide (a2 < t991) = false := decide_eq_false c13
       clear c13
       replace H := Option.bind_eq_some_iff.mp H
       obtain ⟨⟨t995, t996⟩, A190, H⟩ := H
       replace H : ((impl_NodeOf.f k (rdOf ByteArray.empty l3 (ji7)) t995).bind fun t997 => (some (t997, t996))) = some (r1, r2) := H
       have A19 := Aside0.mk A190
       clear A190
       replace H := Option.bind_eq_some_iff.mp H
       obtain ⟨t997, A200, H⟩ := H
       replace H : (some (t997, t996)) = some (r1, r2) := H
       have A20 := Aside0.mk A200
       clear A200
       simp only [Option.some.injEq, Prod.mk.injEq] at H
       obtain ⟨rfl, rfl⟩ := H
       have p989 : 0 ≤ ((ji7) : Int) := of_decide_eq_true as_
       have q989 : (ji7) < (l3.length : Int) := of_decide_eq_true as_
       obtain ⟨ad989, e989, hx989_0⟩ := Kd.at_string HR3.out (ji7) p989 q989
       cases e989
       replace p989 := eq_true p989
       replace q989 := eq_true q989
       obtain ⟨i021, hi021, _, hsz21, _⟩ := info_parts info9
       obtain ⟨hcut21, hA21, hC21⟩ := print_take_of (P := Tryd.prog) Value.string (⟨#[]⟩ : ByteArray) 37 9 .i64 Tryd.underlying37 hi021 hsz21 (some ad989) c3 l3 (ji7) (of_decide_eq_true as_) (of_decide_eq_true as_) HC3.out
       have HR990 := Aside0.mk (Kd.C_of_reads (h1 := fun _ => rfl) (hA21 _ (Kd.reads_of_C HR3.out)))
       have HC990 := Aside0.mk hC21
       clear hA21 hC21 hi021 hsz21
       go_enter Tryd.func97, Tryd.ntmps97
       go_wp2_with (first | ((with_reducible refine gate_callee (f := 95) rfl ?_); refine goesL_ (some 38) rfl rfl Tryd.func95 (by kernel_rfl) rfl #[.int .i64 a1] rfl lm_ ?_; (with_reducible refine (impl_firsts.calls k a1 t991 _ A12.out).mono ?_); rintro e w' ⟨rfl, ⟨nd, rfl⟩⟩; refine ⟨_, rfl, ?_⟩) | ((with_reducible refine gate_callee (f := 97) rfl ?_); refine goesL_ (some 63) rfl rfl Tryd.func97 (by kernel_rfl) rfl #[.string a0, .int .i64 (wrap64 (a1 - t991)), .int .i64 (wrap64 (a2 - t991)), .slice (some ad989) (l3.take ((ji7) : Int).toNat).length c3] rfl (by (try simp only [List.map_toArray, List.map_cons, List.map_nil]); first | done | (rw [show (l3.take ((ji7) : Int).toNat).length = (ji7).toNat from (by rw [List.length_take]; have h_ : ((ji7) : Int) ≤ (l3.length : Int) := of_decide_eq_true as_; omega)] <;> rfl) | (simp only [hji7]; rfl) | rfl | (simp only [List.length_drop, List.length_take]; rfl)) ?_; (with_reducible refine (ih k (by omega) a0 (wrap64 (a1 - t991)) (wrap64 (a2 - t991)) _ _ (l3.take ((ji7) : Int).toNat) t995 t996 _ ?side1 ?side2 ?side3 A19.out).mono ?_); (case side1 => repeat (first | exact HR990.out | (with_reducible refine Kd.C_alloc ?_ _) | (with_reducible refine Kd.C_drewN ?_ _) | (with_reducible refine Kd.C_drew ?_))); (case side2 => exact HC990.out); (case side3 => exact tab_of HT.out bl_); rintro e w22 ⟨rfl, hb⟩; refine ⟨_, rfl, ?_⟩; have n0_ := Aside0.mk (below_step bl_ hb); clear HB; have HB := n0_; clear n0_; (try clear hb); (try clear hb2); (try clear hk); (try clear hi)) | ((with_reducible refine gate_callee (f := 51) rfl ?_); refine goesL_ (some 68) rfl rfl Tryd.func51 (by kernel_rfl) rfl #[.string (rdOf ByteArray.empty l3 (ji7)), .string t995] rfl (by (try simp only [List.map_toArray, List.map_cons, List.map_nil]); first | done | (simp only [hji7]; rfl) | rfl | (simp only [List.length_drop, List.length_take]; rfl)) ?_; (with_reducible refine (impl_NodeOf.calls k (rdOf ByteArray.empty l3 (ji7)) t995 t997 _ ?side1 A20.out).mono ?_); (case side1 => exact tab_of HT.out bl_); rintro e w23 ⟨rfl, hb⟩; refine ⟨_, rfl, ?_⟩; have n0_ := Aside0.mk (below_step bl_ hb); clear HB; have HB := n0_; clear n0_; (try clear hb); (try clear hb2); (try clear hk); (try clear hi)))
       go_ret2
       exact ⟨by first | rfl | (simp [errW_none, errW_some] <;> rfl) | (simp only [← hji7]; first | rfl | (simp [errW_none, errW_some] <;> rfl)) | (simp [*, errW_none, errW_some] <;> rfl), bl_⟩
     ·rw [if_neg c11] at H
      exact absurd H (by simp)
    ·rw [if_neg c9] at H
     exact absurd H (by simp)
   ·rw [if_neg c8] at H
    exact absurd H (by simp)


/-! ### impl_PathOk: function 53 -/
def impl_PathOk.j0 : Nat → ByteArray → Int → Int → List ByteArray → Bool → Int → Int → Int → Int → Int → Int → Option (Bool)
 | 0, _, _, _, _, _, _, _, _, _, _, _ => none
 | k + 1, x0, x1, x2, x4, x22, x999000, x999001, x999002, x999003, x999004, x999005 => if x22 = true then (some false) else ((impl_LeafOf.f k x999000 x999001 x999002 x999003 x999004 x999005).bind fun t1001 => ((impl_topOf.f k t1001 x1 x2 x4).bind fun bt1002 => (if bt1002.2 = true then (some (bt1002.1.toList == x0.toList)) else (some false))))
def impl_PathOk.f (k : Nat) (a0 : ByteArray) (a1 : Int) (a2 : Int) (a3_0 : Int) (a3_1 : Int) (a3_2 : Int) (a3_3 : Int) (a3_4 : Int) (a3_5 : Int) (l4 : List ByteArray) : Option (Bool) := (impl_within.f a1 1 200).bind fun t999 => (if t999 = true then ((impl_within.f a2 0 (wrap64 (a1 - 1))).bind fun t1000 => (impl_PathOk.j0 k a0 a1 a2 l4 (!t1000) a3_0 a3_1 a3_2 a3_3 a3_4 a3_5)) else (impl_PathOk.j0 k a0 a1 a2 l4 true a3_0 a3_1 a3_2 a3_3 a3_4 a3_5))
theorem impl_PathOk.mono_l : ∀ k, (∀ y0 y1 y2 y3 y4 y5 y6 y7 y8 y9 y10, LeO (impl_PathOk.j0 k y0 y1 y2 y3 y4 y5 y6 y7 y8 y9 y10) (impl_PathOk.j0 (k + 1) y0 y1 y2 y3 y4 y5 y6 y7 y8 y9 y10))
 | 0 => fun _ _ _ _ _ _ _ _ _ _ _ r h => by simp [impl_PathOk.j0] at h
 | k + 1 => by
  have ih0 := impl_PathOk.mono_l k
  ·intro y0 y1 y2 y3 y4 y5 y6 y7 y8 y9 y10
   unfold impl_PathOk.j0
   repeat' first
   | (with_reducible exact ih0 _ _ _ _ _ _ _ _ _ _ _)
   | (with_reducible exact impl_LeafOf.mono _ _ _ _ _ _ _)
   | (with_reducible exact impl_topOf.mono _ _ _ _ _)
   | (with_reducible exact LeO.refl _)
   | (with_reducible exact LeO.none _)
   | (with_reducible refine LeO.ite ?_ ?_)
   | (with_reducible refine LeO.bind ?_ (fun _ => ?_))
   | exact ih0 _ _ _ _ _ _ _ _ _ _ _
   | exact impl_LeafOf.mono _ _ _ _ _ _ _
   | exact impl_topOf.mono _ _ _ _ _
   | exact LeO.none _
   | refine LeO.ite ?_ ?_
   | refine LeO.bind ?_ (fun _ => ?_)
theorem impl_PathOk.mono : ∀ a0 a1 a2 a3 a4 a5 a6 a7 a8 a9 k, LeO (impl_PathOk.f k a0 a1 a2 a3 a4 a5 a6 a7 a8 a9) (impl_PathOk.f (k + 1) a0 a1 a2 a3 a4 a5 a6 a7 a8 a9) := by
 intro a0 a1 a2 a3 a4 a5 a6 a7 a8 a9 k
 have ih0 := impl_PathOk.mono_l k
 unfold impl_PathOk.f
 repeat' first
  | (with_reducible exact ih0 _ _ _ _ _ _ _ _ _ _ _)
  | (with_reducible exact impl_LeafOf.mono _ _ _ _ _ _ _)
  | (with_reducible exact impl_topOf.mono _ _ _ _ _)
  | (with_reducible exact LeO.refl _)
  | (with_reducible exact LeO.none _)
  | (with_reducible refine LeO.ite ?_ ?_)
  | (with_reducible refine LeO.bind ?_ (fun _ => ?_))
  | exact ih0 _ _ _ _ _ _ _ _ _ _ _
  | exact impl_LeafOf.mono _ _ _ _ _ _ _
  | exact impl_topOf.mono _ _ _ _ _
  | exact LeO.none _
  | refine LeO.ite ?_ ?_
  | refine LeO.bind ?_ (fun _ => ?_)
set_option maxHeartbeats 8000000 in
set_option maxRecDepth 100000 in
theorem impl_PathOk.calls (k : Nat) (a0 : ByteArray) (a1 : Int) (a2 : Int) (a3_0 : Int) (a3_1 : Int) (a3_2 : Int) (a3_3 : Int) (a3_4 : Int) (a3_5 : Int) (A4 : Option Addr) (c4 : Nat) (l4 : List ByteArray) (r : Bool) (w : World) (hr4 : Kd.C Kd.string w A4 l4.length l4) (hc4 : l4.length ≤ c4) (hT : Tab w) (h : impl_PathOk.f k a0 a1 a2 a3_0 a3_1 a3_2 a3_3 a3_4 a3_5 l4 = some r) :
 Calls Tryd.prog 53 #[.string a0, .int .i64 a1, .int .i64 a2, .agg #[.int .i64 a3_0, .int .i64 a3_1, .int .i64 a3_2, .int .i64 a3_3, .int .i64 a3_4, .int .i64 a3_5], .slice A4 l4.length c4] w fun e w' => e = .returned (.bool r) ∧ Below w.heap.size w w' := by
 have hu70 := Tryd.underlying70
 have HR4 := Aside0.mk hr4
 have HC4 := Aside0.mk hc4
 clear hr4 hc4
 have HT := Aside0.mk hT
 clear hT
 have HB := Aside0.mk (Below.refl w.heap.size w)
 have H : ((impl_within.f a1 1 200).bind fun t999 => (if t999 = true then ((impl_within.f a2 0 (wrap64 (a1 - 1))).bind fun t1000 => (impl_PathOk.j0 k a0 a1 a2 l4 (!t1000) a3_0 a3_1 a3_2 a3_3 a3_4 a3_5)) else (impl_PathOk.j0 k a0 a1 a2 l4 true a3_0 a3_1 a3_2 a3_3 a3_4 a3_5))) = some r := h
 clear h
 have HC6 := Aside0.mk H
 clear H
 go_enter Tryd.func53, Tryd.ntmps53
 go_upto_region 1 with (first | ((with_reducible refine gate_dst (N := 8) rfl ?_); refine box_event ?hg (N := 8) ?hd (cs := #[.int .i64 a3_0, .int .i64 a3_1, .int .i64 a3_2, .int .i64 a3_3, .int .i64 a3_4, .int .i64 a3_5]) (t := 70) ?hr ?_; (case hd => rfl); (case hg => rfl); (case hr => first | (go_simp; done) | (go_simp; rfl)); intro gb998 hg w7 hbox hb; have n0_ := Aside0.mk (below_step bl_ hb); have n1_ := Aside0.mk (hbox); have n2_ := Aside0.mk ((hz_ : w.heap.size ≤ gb998)); have n3_ := Aside0.mk ((hz_ : w.heap.size ≤ gb998)); clear HB; have HB := n0_; have BK998 := n1_; have GW998 := n2_; have GE998 := n3_; clear n0_ n1_ n2_ n3_; clear hb hbox hg))
 (try simp only [Act.put, List.setIfInBounds_toArray, List.set_cons_zero, List.set_cons_succ])
 go_cut [22] (fun v22 wc => ∃ (kq : Nat) (x22_5 : Bool), v22 = .bool x22_5 ∧ Aside0 (impl_PathOk.j0 kq a0 a1 a2 l4 x22_5 a3_0 a3_1 a3_2 a3_3 a3_4 a3_5 = some r) ∧ Aside0 (kq ≤ k) ∧ Aside0 (wc.heap[gb998]? = some (.cells #[.int .i64 a3_0, .int .i64 a3_1, .int .i64 a3_2, .int .i64 a3_3, .int .i64 a3_4, .int .i64 a3_5] 70 (0, 0))) ∧ Aside0 (Below w.heap.size w wc))
 case first =>
  have H := HC6.out
  clear HC6
  replace H := Option.bind_eq_some_iff.mp H
  obtain ⟨t999, A80, H⟩ := H
  replace H : (if t999 = true then ((impl_within.f a2 0 (wrap64 (a1 - 1))).bind fun t1000 => (impl_PathOk.j0 k a0 a1 a2 l4 (!t1000) a3_0 a3_1 a3_2 a3_3 a3_4 a3_5)) else (impl_PathOk.j0 k a0 a1 a2 l4 true a3_0 a3_1 a3_2 a3_3 a3_4 a3_5)) = some r := H
  have A8 := Aside0.mk A80
  clear A80
  by_cases c9 : t999 = true
  ·subst c9
   have H1 : ((impl_within.f a2 0 (wrap64 (a1 - 1))).bind fun t1000 => (impl_PathOk.j0 k a0 a1 a2 l4 (!t1000) a3_0 a3_1 a3_2 a3_3 a3_4 a3_5)) = some r := by rw [if_pos rfl] at H; exact H
   clear H
   have H := H1
   clear H1
   replace H := Option.bind_eq_some_iff.mp H
   obtain ⟨t1000, A100, H⟩ := H
   replace H : (impl_PathOk.j0 k a0 a1 a2 l4 (!t1000) a3_0 a3_1 a3_2 a3_3 a3_4 a3_5) = some r := H
   have A10 := Aside0.mk A100
   clear A100
   have H' := Aside0.mk H
   clear H
   go_wp2_with (first | ((with_reducible refine gate_callee (f := 72) rfl ?_); refine goesL_ (some 14) rfl rfl Tryd.func72 (by kernel_rfl) rfl #[.int .i64 a1, .int .i64 1, .int .i64 200] rfl lm_ ?_; (with_reducible refine (impl_within.calls a1 1 200 true _ A8.out).mono ?_); rintro e w' ⟨rfl, ⟨nd, rfl⟩⟩; refine ⟨_, rfl, ?_⟩) | (go_at_call 72; (with_reducible refine (impl_within.calls a2 0 (wrap64 (a1 - 1)) t1000 _ A10.out).mono ?_); rintro e w' ⟨rfl, ⟨nd, rfl⟩⟩))
   go_meet
   case rel => exact ⟨_, (!t1000), (by first | rfl | (simp; done) | (simp [*]; done)), H', ⟨by first | omega | exact Nat.le_refl _⟩, ⟨bk_ BK998.out⟩, ⟨bl_⟩⟩
  ·replace c9 := Bool.eq_false_iff.mpr c9
   subst c9
   have H1 : (impl_PathOk.j0 k a0 a1 a2 l4 true a3_0 a3_1 a3_2 a3_3 a3_4 a3_5) = some r := by rw [if_neg (show ¬ (false = true) by decide)] at H; exact H
   clear H
   have H := H1
   clear H1
   have H' := Aside0.mk H
   clear H
   go_wp2_with (first | ((with_reducible refine gate_callee (f := 72) rfl ?_); refine goesL_ (some 14) rfl rfl Tryd.func72 (by kernel_rfl) rfl #[.int .i64 a1, .int .i64 1, .int .i64 200] rfl lm_ ?_; (with_reducible refine (impl_within.calls a1 1 200 false _ A8.out).mono ?_); rintro e w' ⟨rfl, ⟨nd, rfl⟩⟩; refine ⟨_, rfl, ?_⟩))
   go_meet
   case rel => exact ⟨_, (true), (by first | rfl | (simp; done) | (simp [*]; done)), H', ⟨by first | omega | exact Nat.le_refl _⟩, ⟨bk_ BK998.out⟩, ⟨bl_⟩⟩
 case rest =>
  clear HC6
  try clear p2
  try clear c4
  try clear c5
  try clear p6
  try clear c7
  try clear c9
  obtain ⟨kq, x22_5, rfl, HA, HJ5, BK998, HB⟩ := hcut
  cases kq with
  | zero => exact absurd HA.out (by simp [impl_PathOk.j0])
  | succ kj5 =>
   have H := HA.out
   clear HA
   simp only [impl_PathOk.j0] at H
   by_cases c11 : x22_5 = true
   ·subst c11
    have H1 : (some false) = some r := by rw [if_pos rfl] at H; exact H
    clear H
    have H := H1
    clear H1
    obtain rfl := Option.some.inj H
    go_wp2
    go_ret
    exact ⟨by first | rfl | (simp [errW_none, errW_some] <;> rfl) | (simp [*, errW_none, errW_some] <;> rfl), bl_⟩
   ·replace c11 := Bool.eq_false_iff.mpr c11
    subst c11
    have H1 : ((impl_LeafOf.f kj5 a3_0 a3_1 a3_2 a3_3 a3_4 a3_5).bind fun t1001 => ((impl_topOf.f kj5 t1001 a1 a2 l4).bind fun bt1002 => (if bt1002.2 = true then (some (bt1002.1.toList == a0.toList)) else (some false)))) = some r := by rw [if_neg (show ¬ (false = true) by decide)] at H; exact H
    clear H
    have H := H1
    clear H1
    replace H := Option.bind_eq_some_iff.mp H
    obtain ⟨t1001, A120, H⟩ := H
    replace H : ((impl_topOf.f kj5 t1001 a1 a2 l4).bind fun bt1002 => (if bt1002.2 = true then (some (bt1002.1.toList == a0.toList)) else (some false))) = some r := H
    have A12 := Aside0.mk A120
    clear A120
    replace H := Option.bind_eq_some_iff.mp H
    obtain ⟨⟨t1002, t1003⟩, A130, H⟩ := H
    replace H : (if t1003 = true then (some (t1002.toList == a0.toList)) else (some false)) = some r := H
    have A13 := Aside0.mk A130
    clear A130
    by_cases c14 : t1003 = true
    ·subst c14
     have H1 : (some (t1002.toList == a0.toList)) = some r := by rw [if_pos rfl] at H; exact H
     clear H
     have H := H1
     clear H1
     obtain rfl := Option.some.inj H
     have hcz15_0 : wc.cell? ⟨gb998, 0, none⟩ = some (.int .i64 a3_0) := (blk_cell BK998.out 0).trans rfl
     have hcz15_1 : wc.cell? ⟨gb998, 1, none⟩ = some (.int .i64 a3_1) := (blk_cell BK998.out 1).trans rfl
     have hcz15_2 : wc.cell? ⟨gb998, 2, none⟩ = some (.int .i64 a3_2) := (blk_cell BK998.out 2).trans rfl
     have hcz15_3 : wc.cell? ⟨gb998, 3, none⟩ = some (.int .i64 a3_3) := (blk_cell BK998.out 3).trans rfl
     have hcz15_4 : wc.cell? ⟨gb998, 4, none⟩ = some (.int .i64 a3_4) := (blk_cell BK998.out 4).trans rfl
     have hcz15_5 : wc.cell? ⟨gb998, 5, none⟩ = some (.int .i64 a3_5) := (blk_cell BK998.out 5).trans rfl
     have hfz15_0 := blk_frozen BK998.out 0
     have hfz15_1 := blk_frozen BK998.out 1
     have hfz15_2 := blk_frozen BK998.out 2
     have hfz15_3 := blk_frozen BK998.out 3
     have hfz15_4 := blk_frozen BK998.out 4
     have hfz15_5 := blk_frozen BK998.out 5
     go_wp2_with (first | ((with_reducible refine gate_callee (f := 55) rfl ?_); refine goesL_ (some 25) rfl rfl Tryd.func55 (by kernel_rfl) rfl #[.agg #[.int .i64 a3_0, .int .i64 a3_1, .int .i64 a3_2, .int .i64 a3_3, .int .i64 a3_4, .int .i64 a3_5]] rfl lm_ ?_; (with_reducible refine (impl_LeafOf.calls kj5 a3_0 a3_1 a3_2 a3_3 a3_4 a3_5 t1001 _ ?side1 A12.out).mono ?_); (case side1 => exact tab_of HT.out bl_); rintro e w16 ⟨rfl, hb⟩; refine ⟨_, rfl, ?_⟩; have n0_ := Aside0.mk (blk_below (g := gb998) (o := .cells #[.int .i64 a3_0, .int .i64 a3_1, .int .i64 a3_2, .int .i64 a3_3, .int .i64 a3_4, .int .i64 a3_5] 70 (0, 0)) (bk_ BK998.out) hb); have n1_ := Aside0.mk (below_step bl_ hb); clear BK998; clear HB; have BK998 := n0_; have HB := n1_; clear n0_ n1_; (try clear hb); (try clear hb2); (try clear hk); (try clear hi)) | ((with_reducible refine gate_callee (f := 97) rfl ?_); refine goesL_ (some 29) rfl rfl Tryd.func97 (by kernel_rfl) rfl #[.string t1001, .int .i64 a1, .int .i64 a2, .slice A4 l4.length c4] rfl lm_ ?_; (with_reducible refine (impl_topOf.calls kj5 t1001 a1 a2 _ _ l4 t1002 true _ ?side1 ?side2 ?side3 A13.out).mono ?_); (case side1 => repeat (first | exact (Kd.C_below HR4.out HB.out) | exact HR4.out | (with_reducible refine Kd.C_alloc ?_ _) | (with_reducible refine Kd.C_drewN ?_ _) | (with_reducible refine Kd.C_drew ?_))); (case side2 => exact HC4.out); (case side3 => exact tab_of HT.out bl_); rintro e w17 ⟨rfl, hb⟩; refine ⟨_, rfl, ?_⟩; have n0_ := Aside0.mk (blk_below (g := gb998) (o := .cells #[.int .i64 a3_0, .int .i64 a3_1, .int .i64 a3_2, .int .i64 a3_3, .int .i64 a3_4, .int .i64 a3_5] 70 (0, 0)) (bk_ BK998.out) hb); have n1_ := Aside0.mk (below_step bl_ hb); clear BK998; clear HB; have BK998 := n0_; have HB := n1_; clear n0_ n1_; (try clear hb); (try clear hb2); (try clear hk); (try clear hi)))
     go_ret
     exact ⟨by first | rfl | (simp [errW_none, errW_some] <;> rfl) | (simp [*, errW_none, errW_some] <;> rfl), bl_⟩
    ·replace c14 := Bool.eq_false_iff.mpr c14
     subst c14
     have H1 : (some false) = some r := by rw [if_neg (show ¬ (false = true) by decide)] at H; exact H
     clear H
     have H := H1
     clear H1
     obtain rfl := Option.some.inj H
     have hcz18_0 : wc.cell? ⟨gb998, 0, none⟩ = some (.int .i64 a3_0) := (blk_cell BK998.out 0).trans rfl
     have hcz18_1 : wc.cell? ⟨gb998, 1, none⟩ = some (.int .i64 a3_1) := (blk_cell BK998.out 1).trans rfl
     have hcz18_2 : wc.cell? ⟨gb998, 2, none⟩ = some (.int .i64 a3_2) := (blk_cell BK998.out 2).trans rfl
     have hcz18_3 : wc.cell? ⟨gb998, 3, none⟩ = some (.int .i64 a3_3) := (blk_cell BK998.out 3).trans rfl
     have hcz18_4 : wc.cell? ⟨gb998, 4, none⟩ = some (.int .i64 a3_4) := (blk_cell BK998.out 4).trans rfl
     have hcz18_5 : wc.cell? ⟨gb998, 5, none⟩ = some (.int .i64 a3_5) := (blk_cell BK998.out 5).trans rfl
     have hfz18_0 := blk_frozen BK998.out 0
     have hfz18_1 := blk_frozen BK998.out 1
     have hfz18_2 := blk_frozen BK998.out 2
     have hfz18_3 := blk_frozen BK998.out 3
     have hfz18_4 := blk_frozen BK998.out 4
     have hfz18_5 := blk_frozen BK998.out 5
     go_wp2_with (first | ((with_reducible refine gate_callee (f := 55) rfl ?_); refine goesL_ (some 25) rfl rfl Tryd.func55 (by kernel_rfl) rfl #[.agg #[.int .i64 a3_0, .int .i64 a3_1, .int .i64 a3_2, .int .i64 a3_3, .int .i64 a3_4, .int .i64 a3_5]] rfl lm_ ?_; (with_reducible refine (impl_LeafOf.calls kj5 a3_0 a3_1 a3_2 a3_3 a3_4 a3_5 t1001 _ ?side1 A12.out).mono ?_); (case side1 => exact tab_of HT.out bl_); rintro e w19 ⟨rfl, hb⟩; refine ⟨_, rfl, ?_⟩; have n0_ := Aside0.mk (blk_below (g := gb998) (o := .cells #[.int .i64 a3_0, .int .i64 a3_1, .int .i64 a3_2, .int .i64 a3_3, .int .i64 a3_4, .int .i64 a3_5] 70 (0, 0)) (bk_ BK998.out) hb); have n1_ := Aside0.mk (below_step bl_ hb); clear BK998; clear HB; have BK998 := n0_; have HB := n1_; clear n0_ n1_; (try clear hb); (try clear hb2); (try clear hk); (try clear hi)) | ((with_reducible refine gate_callee (f := 97) rfl ?_); refine goesL_ (some 29) rfl rfl Tryd.func97 (by kernel_rfl) rfl #[.string t1001, .int .i64 a1, .int .i64 a2, .slice A4 l4.length c4] rfl lm_ ?_; (with_reducible refine (impl_topOf.calls kj5 t1001 a1 a2 _ _ l4 t1002 false _ ?side1 ?side2 ?side3 A13.out).mono ?_); (case side1 => repeat (first | exact (Kd.C_below HR4.out HB.out) | exact HR4.out | (with_reducible refine Kd.C_alloc ?_ _) | (with_reducible refine Kd.C_drewN ?_ _) | (with_reducible refine Kd.C_drew ?_))); (case side2 => exact HC4.out); (case side3 => exact tab_of HT.out bl_); rintro e w20 ⟨rfl, hb⟩; refine ⟨_, rfl, ?_⟩; have n0_ := Aside0.mk (blk_below (g := gb998) (o := .cells #[.int .i64 a3_0, .int .i64 a3_1, .int .i64 a3_2, .int .i64 a3_3, .int .i64 a3_4, .int .i64 a3_5] 70 (0, 0)) (bk_ BK998.out) hb); have n1_ := Aside0.mk (below_step bl_ hb); clear BK998; clear HB; have BK998 := n0_; have HB := n1_; clear n0_ n1_; (try clear hb); (try clear hb2); (try clear hk); (try clear hi)))
     go_ret
     exact ⟨by first | rfl | (simp [errW_none, errW_some] <;> rfl) | (simp [*, errW_none, errW_some] <;> rfl), bl_⟩


/-! ### spec_l27Up: function 98 -/
def spec_l27Up.f : Nat → Int → Int → ByteArray → List ByteArray → Option (ByteArray × Bool)
 | 0, _, _, _, _ => none
 | k + 1, a0, a1, a2, l3 => if a0 = 1 then (some (a2, ((l3.length : Int) == 0))) else (if (l3.length : Int) = 0 then (some ((⟨#[]⟩ : ByteArray), false)) else ((spec_l27Half.f k a0).bind fun t1004 => (if 0 ≤ (wrap64 ((l3.length : Int) - 1)) then (if (wrap64 ((l3.length : Int) - 1)) < (l3.length : Int) then (if (wrap64 ((l3.length : Int) - 1)) ≤ (l3.length : Int) then (if a1 < t1004 then ((spec_l27Up.f k t1004 a1 a2 (l3.take ((wrap64 ((l3.length : Int) - 1)) : Int).toNat)).bind fun bt1007 => ((spec_NodeOf.f bt1007.1 (rdOf ByteArray.empty l3 (wrap64 ((l3.length : Int) - 1)))).bind fun t1009 => (some (t1009, bt1007.2)))) else ((spec_l27Up.f k (wrap64 (a0 - t1004)) (wrap64 (a1 - t1004)) a2 (l3.take ((wrap64 ((l3.length : Int) - 1)) : Int).toNat)).bind fun bt1010 => ((spec_NodeOf.f (rdOf ByteArray.empty l3 (wrap64 ((l3.length : Int) - 1))) bt1010.1).bind fun t1012 => (some (t1012, bt1010.2))))) else (none)) else (none)) else (none))))
theorem spec_l27Up.mono_l : ∀ k, (∀ y0 y1 y2 y3, LeO (spec_l27Up.f k y0 y1 y2 y3) (spec_l27Up.f (k + 1) y0 y1 y2 y3))
 | 0 => fun _ _ _ _ r h => by simp [spec_l27Up.f] at h
 | k + 1 => by
  have ih0 := spec_l27Up.mono_l k
  ·intro y0 y1 y2 y3
   unfold spec_l27Up.f
   repeat' first
   | (with_reducible exact ih0 _ _ _ _)
   | (with_reducible exact spec_l27Half.mono _ _)
   | (with_reducible exact LeO.refl _)
   | (with_reducible exact LeO.none _)
   | (with_reducible refine LeO.ite ?_ ?_)
   | (with_reducible refine LeO.bind ?_ (fun _ => ?_))
   | exact ih0 _ _ _ _
   | exact spec_l27Half.mono _ _
   | exact LeO.none _
   | refine LeO.ite ?_ ?_
   | refine LeO.bind ?_ (fun _ => ?_)
theorem spec_l27Up.mono : ∀ a0 a1 a2 a3 k, LeO (spec_l27Up.f k a0 a1 a2 a3) (spec_l27Up.f (k + 1) a0 a1 a2 a3) := by
 intro a0 a1 a2 a3 k
 have ih0 := spec_l27Up.mono_l k
 exact ih0 a0 a1 a2 a3
set_option maxHeartbeats 8000000 in
set_option maxRecDepth 100000 in
theorem spec_l27Up.calls (k : Nat) : ∀ (a0 : Int) (a1 : Int) (a2 : ByteArray) (A3 : Option Addr) (c3 : Nat) (l3 : List ByteArray) (r1 : ByteArray) (r2 : Bool) (w : World) (hr3 : Kd.C Kd.string w A3 l3.length l3) (hc3 : l3.length ≤ c3) (h : spec_l27Up.f k a0 a1 a2 l3 = some (r1, r2)),
 Calls Tryd.prog 98 #[.int .i64 a0, .int .i64 a1, .string a2, .slice A3 l3.length c3] w fun e w' => e = .returned (.tuple #[.string r1, .bool r2]) ∧ Below w.heap.size w w' := by
 induction k using Nat.strongRecOn with
 | _ k ih =>
 intro a0 a1 a2 A3 c3 l3 r1 r2 w hr3 hc3 h
 cases k with
 | zero => exact absurd h (by simp [spec_l27Up.f])
 | succ k =>
 simp only [spec_l27Up.f] at h
 have HR3 := Aside0.mk hr3
 have HC3 := Aside0.mk hc3
 clear hr3 hc3
 have HB := Aside0.mk (Below.refl w.heap.size w)
 have H : (if a0 = 1 then (some (a2, ((l3.length : Int) == 0))) else (if (l3.length : Int) = 0 then (some ((⟨#[]⟩ : ByteArray), false)) else ((spec_l27Half.f k a0).bind fun t1004 => (if 0 ≤ (wrap64 ((l3.length : Int) - 1)) then (if (wrap64 ((l3.length : Int) - 1)) < (l3.length : Int) then (if (wrap64 ((l3.length : Int) - 1)) ≤ (l3.length : Int) then (if a1 < t1004 then ((spec_l27Up.f k t1004 a1 a2 (l3.take ((wrap64 ((l3.length : Int) - 1)) : Int).toNat)).bind fun bt1007 => ((spec_NodeOf.f bt1007.1 (rdOf ByteArray.empty l3 (wrap64 ((l3.length : Int) - 1)))).bind fun t1009 => (some (t1009, bt1007.2)))) else ((spec_l27Up.f k (wrap64 (a0 - t1004)) (wrap64 (a1 - t1004)) a2 (l3.take ((wrap64 ((l3.length : Int) - 1)) : Int).toNat)).bind fun bt1010 => ((spec_NodeOf.f (rdOf ByteArray.empty l3 (wrap64 ((l3.length : Int) - 1))) bt1010.1).bind fun t1012 => (some (t1012, bt1010.2))))) else (none)) else (none)) else (none))))) = some (r1, r2) := h
 clear h
 by_cases c5 : a0 = 1
 ·rw [if_pos c5] at H
  have c5b0 : (a0 == 1) = true := beq_iff_eq.mpr c5
  have c5b1 : (a0 != 1) = false := bne_eq_false_iff_eq.mpr c5
  clear c5
  simp only [Option.some.injEq, Prod.mk.injEq] at H
  obtain ⟨rfl, rfl⟩ := H
  go_enter Tryd.func98, Tryd.ntmps98
  go_wp2
  go_ret2
  exact ⟨by first | rfl | (simp [errW_none, errW_some] <;> rfl) | (simp [*, errW_none, errW_some] <;> rfl), bl_⟩
 ·rw [if_neg c5] at H
  have c5b0 : (a0 == 1) = false := beq_eq_false_iff_ne.mpr c5
  have c5b1 : (a0 != 1) = true := bne_iff_ne.mpr c5
  by_cases c6 : (l3.length : Int) = 0
  ·rw [if_pos c6] at H
   have c6b0 : ((l3.length : Int) == 0) = true := beq_iff_eq.mpr c6
   have c6b1 : ((l3.length : Int) != 0) = false := bne_eq_false_iff_eq.mpr c6
   clear c6
   simp only [Option.some.injEq, Prod.mk.injEq] at H
   obtain ⟨rfl, rfl⟩ := H
   go_enter Tryd.func98, Tryd.ntmps98
   go_wp2
   go_ret2
   exact ⟨by first | rfl | (simp [errW_none, errW_some] <;> rfl) | (simp [*, errW_none, errW_some] <;> rfl), bl_⟩
  ·rw [if_neg c6] at H
   have c6b0 : ((l3.length : Int) == 0) = false := beq_eq_false_iff_ne.mpr c6
   have c6b1 : ((l3.length : Int) != 0) = true := bne_iff_ne.mpr c6
   have c6b2 : ¬ (l3 = []) := fun h_ => c6 (by rw [h_]; rfl)
   replace H := Option.bind_eq_some_iff.mp H
   obtain ⟨t1004, A70, H⟩ := H
   replace H : (if 0 ≤ (wrap64 ((l3.length : Int) - 1)) then (if (wrap64 ((l3.length : Int) - 1)) < (l3.length : Int) then (if (wrap64 ((l3.length : Int) - 1)) ≤ (l3.length : Int) then (if a1 < t1004 then ((spec_l27Up.f k t1004 a1 a2 (l3.take ((wrap64 ((l3.length : Int) - 1)) : Int).toNat)).bind fun bt1007 => ((spec_NodeOf.f bt1007.1 (rdOf ByteArray.empty l3 (wrap64 ((l3.length : Int) - 1)))).bind fun t1009 => (some (t1009, bt1007.2)))) else ((spec_l27Up.f k (wrap64 (a0 - t1004)) (wrap64 (a1 - t1004)) a2 (l3.take ((wrap64 ((l3.length : Int) - 1)) : Int).toNat)).bind fun bt1010 => ((spec_NodeOf.f (rdOf ByteArray.empty l3 (wrap64 ((l3.length : Int) - 1))) bt1010.1).bind fun t1012 => (some (t1012, bt1010.2))))) else (none)) else (none)) else (none)) = some (r1, r2) := H
   have A7 := Aside0.mk A70
   clear A70
   obtain ⟨ji8, hji8⟩ : ∃ j_ : Int, (wrap64 ((l3.length : Int) - 1)) = j_ := ⟨_, rfl⟩
   replace H : (if 0 ≤ (ji8) then (if (ji8) < (l3.length : Int) then (if (ji8) ≤ (l3.length : Int) then (if a1 < t1004 then ((spec_l27Up.f k t1004 a1 a2 (l3.take ((ji8) : Int).toNat)).bind fun bt1007 => ((spec_NodeOf.f bt1007.1 (rdOf ByteArray.empty l3 (ji8))).bind fun t1009 => (some (t1009, bt1007.2)))) else ((spec_l27Up.f k (wrap64 (a0 - t1004)) (wrap64 (a1 - t1004)) a2 (l3.take ((ji8) : Int).toNat)).bind fun bt1010 => ((spec_NodeOf.f (rdOf ByteArray.empty l3 (ji8)) bt1010.1).bind fun t1012 => (some (t1012, bt1010.2))))) else (none)) else (none)) else (none)) = some (r1, r2) := by first | (rw [hji8] at H; exact H) | (simp only [hji8] at H ⊢; exact H)
   (try rw [hji8] at A7)
   have hji8w : (IntKind.i64.wrap ((l3.length : Int) - 1)) = ji8 := (i64_w _).trans hji8
   by_cases c9 : 0 ≤ (ji8)
   ·rw [if_pos c9] at H
    have c9b0 : decide (0 ≤ (ji8)) = true := decide_eq_true c9
    clear c9
    by_cases c10 : (ji8) < (l3.length : Int)
    ·rw [if_pos c10] at H
     have c10b0 : decide ((ji8) < (l3.length : Int)) = true := decide_eq_true c10
     clear c10
     have c11b0 := eq_true (of_decide_eq_true as_ : 0 ≤ (ji8))
     by_cases c12 : (ji8) ≤ (l3.length : Int)
     ·rw [if_pos c12] at H
      have c12b0 := eq_true c12
      have c12b1 : decide ((ji8) ≤ (l3.length : Int)) = true := decide_eq_true c12
      clear c12
      by_cases c13 : a1 < t1004
      ·rw [if_pos c13] at H
       have c13b0 : decide (a1 < t1004) = true := decide_eq_true c13
       clear c13
       replace H := Option.bind_eq_some_iff.mp H
       obtain ⟨⟨t1007, t1008⟩, A140, H⟩ := H
       replace H : ((spec_NodeOf.f t1007 (rdOf ByteArray.empty l3 (ji8))).bind fun t1009 => (some (t1009, t1008))) = some (r1, r2) := H
       have A14 := Aside0.mk A140
       clear A140
       replace H := Option.bind_eq_some_iff.mp H
       obtain ⟨t1009, A150, H⟩ := H
       replace H : (some (t1009, t1008)) = some (r1, r2) := H
       have A15 := Aside0.mk A150
       clear A150
       simp only [Option.some.injEq, Prod.mk.injEq] at H
       obtain ⟨rfl, rfl⟩ := H
       go_enter Tryd.func98, Tryd.ntmps98
       go_wp2_with (first | ((with_reducible refine gate_callee (f := 80) rfl ?_); refine goesL_ (some 27) rfl rfl Tryd.func80 (by kernel_rfl) rfl #[.int .i64 a0] rfl lm_ ?_; (with_reducible refine (spec_l27Half.calls k a0 t1004 _ A7.out).mono ?_); rintro e w' ⟨rfl, ⟨nd, rfl⟩⟩; refine ⟨_, rfl, ?_⟩; have p1005 : 0 ≤ ((ji8) : Int) := of_decide_eq_true as_; have q1005 : (ji8) < (l3.length : Int) := of_decide_eq_true as_; obtain ⟨ad1005, e1005, hx1005_0⟩ := Kd.at_string HR3.out (ji8) p1005 q1005; cases e1005; replace p1005 := eq_true p1005; replace q1005 := eq_true q1005; obtain ⟨i016, hi016, _, hsz16, _⟩ := info_parts info9; obtain ⟨hcut16, hA16, hC16⟩ := print_take_of (P := Tryd.prog) Value.string (⟨#[]⟩ : ByteArray) 37 9 .i64 Tryd.underlying37 hi016 hsz16 (some ad1005) c3 l3 (ji8) (of_decide_eq_true as_) (of_decide_eq_true as_) HC3.out; have HR1006 := Aside0.mk (Kd.C_of_reads (h1 := fun _ => rfl) (hA16 _ (Kd.reads_of_C HR3.out))); have HC1006 := Aside0.mk hC16; clear hA16 hC16 hi016 hsz16) | ((with_reducible refine gate_callee (f := 98) rfl ?_); refine goesL_ (some 47) rfl rfl Tryd.func98 (by kernel_rfl) rfl #[.int .i64 t1004, .int .i64 a1, .string a2, .slice (some ad1005) (l3.take ((ji8) : Int).toNat).length c3] rfl (by (try simp only [List.map_toArray, List.map_cons, List.map_nil]); first | done | (rw [show (l3.take ((ji8) : Int).toNat).length = (ji8).toNat from (by rw [List.length_take]; have h_ : ((ji8) : Int) ≤ (l3.length : Int) := of_decide_eq_true as_; omega)] <;> rfl) | (simp only [hji8]; rfl) | rfl | (simp only [List.length_drop, List.length_take]; rfl)) ?_; (with_reducible refine (ih k (by omega) t1004 a1 a2 _ _ (l3.take ((ji8) : Int).toNat) t1007 t1008 _ ?side1 ?side2 A14.out).mono ?_); (case side1 => repeat (first | exact HR1006.out | (with_reducible refine Kd.C_alloc ?_ _) | (with_reducible refine Kd.C_drewN ?_ _) | (with_reducible refine Kd.C_drew ?_))); (case side2 => exact HC1006.out); rintro e w17 ⟨rfl, hb⟩; refine ⟨_, rfl, ?_⟩; have n0_ := Aside0.mk (below_step bl_ hb); clear HB; have HB := n0_; clear n0_; (try clear hb); (try clear hb2); (try clear hk); (try clear hi)) | ((with_reducible refine gate_callee (f := 52) rfl ?_); refine goesL_ (some 52) rfl rfl Tryd.func52 (by kernel_rfl) rfl #[.string t1007, .string (rdOf ByteArray.empty l3 (ji8))] rfl (by (try simp only [List.map_toArray, List.map_cons, List.map_nil]); first | done | (simp only [hji8]; rfl) | rfl | (simp only [List.length_drop, List.length_take]; rfl)) ?_; (with_reducible refine (spec_NodeOf.calls t1007 (rdOf ByteArray.empty l3 (ji8)) t1009 _ A15.out).mono ?_); rintro e w18 ⟨rfl, hb⟩; refine ⟨_, rfl, ?_⟩; have n0_ := Aside0.mk (below_step bl_ hb); clear HB; have HB := n0_; clear n0_; (try clear hb); (try clear hb2); (try clear hk); (try clear hi)))
       go_ret2
       exact ⟨by first | rfl | (simp [errW_none, errW_some] <;> rfl) | (simp only [← hji8]; first | rfl | (simp [errW_none, errW_some] <;> rfl)) | (simp [*, errW_none, errW_some] <;> rfl), bl_⟩
      ·rw [if_neg c13] at H
       have c13b0 : decide (a1 < t1004) = false := decide_eq_false c13
       clear c13
       replace H := Option.bind_eq_some_iff.mp H
       obtain ⟨⟨t1010, t1011⟩, A190, H⟩ := H
       replace H : ((spec_NodeOf.f (rdOf ByteArray.empty l3 (ji8)) t1010).bind fun t1012 => (some (t1012, t1011))) = some (r1, r2) := H
       have A19 := Aside0.mk A190
       clear A190
       replace H := Option.bind_eq_some_iff.mp H
       obtain ⟨t1012, A200, H⟩ := H
       replace H : (some (t1012, t1011)) = some (r1, r2) := H
       have A20 := Aside0.mk A200
       clear A200
       simp only [Option.some.injEq, Prod.mk.injEq] at H
       obtain ⟨rfl, rfl⟩ := H
       go_enter Tryd.func98, Tryd.ntmps98
       go_wp2_with (first | ((with_reducible refine gate_callee (f := 80) rfl ?_); refine goesL_ (some 27) rfl rfl Tryd.func80 (by kernel_rfl) rfl #[.int .i64 a0] rfl lm_ ?_; (with_reducible refine (spec_l27Half.calls k a0 t1004 _ A7.out).mono ?_); rintro e w' ⟨rfl, ⟨nd, rfl⟩⟩; refine ⟨_, rfl, ?_⟩; have p1005 : 0 ≤ ((ji8) : Int) := of_decide_eq_true as_; have q1005 : (ji8) < (l3.length : Int) := of_decide_eq_true as_; obtain ⟨ad1005, e1005, hx1005_0⟩ := Kd.at_string HR3.out (ji8) p1005 q1005; cases e1005; replace p1005 := eq_true p1005; replace q1005 := eq_true q1005; obtain ⟨i021, hi021, _, hsz21, _⟩ := info_parts info9; obtain ⟨hcut21, hA21, hC21⟩ := print_take_of (P := Tryd.prog) Value.string (⟨#[]⟩ : ByteArray) 37 9 .i64 Tryd.underlying37 hi021 hsz21 (some ad1005) c3 l3 (ji8) (of_decide_eq_true as_) (of_decide_eq_true as_) HC3.out; have HR1006 := Aside0.mk (Kd.C_of_reads (h1 := fun _ => rfl) (hA21 _ (Kd.reads_of_C HR3.out))); have HC1006 := Aside0.mk hC21; clear hA21 hC21 hi021 hsz21) | ((with_reducible refine gate_callee (f := 98) rfl ?_); refine goesL_ (some 63) rfl rfl Tryd.func98 (by kernel_rfl) rfl #[.int .i64 (wrap64 (a0 - t1004)), .int .i64 (wrap64 (a1 - t1004)), .string a2, .slice (some ad1005) (l3.take ((ji8) : Int).toNat).length c3] rfl (by (try simp only [List.map_toArray, List.map_cons, List.map_nil]); first | done | (rw [show (l3.take ((ji8) : Int).toNat).length = (ji8).toNat from (by rw [List.length_take]; have h_ : ((ji8) : Int) ≤ (l3.length : Int) := of_decide_eq_true as_; omega)] <;> rfl) | (simp only [hji8]; rfl) | rfl | (simp only [List.length_drop, List.length_take]; rfl)) ?_; (with_reducible refine (ih k (by omega) (wrap64 (a0 - t1004)) (wrap64 (a1 - t1004)) a2 _ _ (l3.take ((ji8) : Int).toNat) t1010 t1011 _ ?side1 ?side2 A19.out).mono ?_); (case side1 => repeat (first | exact HR1006.out | (with_reducible refine Kd.C_alloc ?_ _) | (with_reducible refine Kd.C_drewN ?_ _) | (with_reducible refine Kd.C_drew ?_))); (case side2 => exact HC1006.out); rintro e w22 ⟨rfl, hb⟩; refine ⟨_, rfl, ?_⟩; have n0_ := Aside0.mk (below_step bl_ hb); clear HB; have HB := n0_; clear n0_; (try clear hb); (try clear hb2); (try clear hk); (try clear hi)) | ((with_reducible refine gate_callee (f := 52) rfl ?_); refine goesL_ (some 68) rfl rfl Tryd.func52 (by kernel_rfl) rfl #[.string (rdOf ByteArray.empty l3 (ji8)), .string t1010] rfl (by (try simp only [List.map_toArray, List.map_cons, List.map_nil]); first | done | (simp only [hji8]; rfl) | rfl | (simp only [List.length_drop, List.length_take]; rfl)) ?_; (with_reducible refine (spec_NodeOf.calls (rdOf ByteArray.empty l3 (ji8)) t1010 t1012 _ A20.out).mono ?_); rintro e w23 ⟨rfl, hb⟩; refine ⟨_, rfl, ?_⟩; have n0_ := Aside0.mk (below_step bl_ hb); clear HB; have HB := n0_; clear n0_; (try clear hb); (try clear hb2); (try clear hk); (try clear hi)))
       go_ret2
       exact ⟨by first | rfl | (simp [errW_none, errW_some] <;> rfl) | (simp only [← hji8]; first | rfl | (simp [errW_none, errW_some] <;> rfl)) | (simp [*, errW_none, errW_some] <;> rfl), bl_⟩
     ·rw [if_neg c12] at H
      exact absurd H (by simp)
    ·rw [if_neg c10] at H
     exact absurd H (by simp)
   ·rw [if_neg c9] at H
    exact absurd H (by simp)


/-! ### spec_PathOk: function 54 -/
def spec_PathOk.j0 : Nat → ByteArray → Int → Int → List ByteArray → Bool → Int → Int → Int → Int → Int → Int → Option (Bool)
 | 0, _, _, _, _, _, _, _, _, _, _, _ => none
 | k + 1, x0, x1, x2, x4, x22, x1014000, x1014001, x1014002, x1014003, x1014004, x1014005 => if x22 = true then (some false) else ((spec_LeafOf.f k x1014000 x1014001 x1014002 x1014003 x1014004 x1014005).bind fun t1016 => ((spec_l27Up.f k x1 x2 t1016 x4).bind fun bt1017 => (if bt1017.2 = true then (some (bt1017.1.toList == x0.toList)) else (some false))))
def spec_PathOk.f (k : Nat) (a0 : ByteArray) (a1 : Int) (a2 : Int) (a3_0 : Int) (a3_1 : Int) (a3_2 : Int) (a3_3 : Int) (a3_4 : Int) (a3_5 : Int) (l4 : List ByteArray) : Option (Bool) := (spec_l01In.f a1 1 200).bind fun t1014 => (if t1014 = true then ((spec_l01In.f a2 0 (wrap64 (a1 - 1))).bind fun t1015 => (spec_PathOk.j0 k a0 a1 a2 l4 (!t1015) a3_0 a3_1 a3_2 a3_3 a3_4 a3_5)) else (spec_PathOk.j0 k a0 a1 a2 l4 true a3_0 a3_1 a3_2 a3_3 a3_4 a3_5))
theorem spec_PathOk.mono_l : ∀ k, (∀ y0 y1 y2 y3 y4 y5 y6 y7 y8 y9 y10, LeO (spec_PathOk.j0 k y0 y1 y2 y3 y4 y5 y6 y7 y8 y9 y10) (spec_PathOk.j0 (k + 1) y0 y1 y2 y3 y4 y5 y6 y7 y8 y9 y10))
 | 0 => fun _ _ _ _ _ _ _ _ _ _ _ r h => by simp [spec_PathOk.j0] at h
 | k + 1 => by
  have ih0 := spec_PathOk.mono_l k
  ·intro y0 y1 y2 y3 y4 y5 y6 y7 y8 y9 y10
   unfold spec_PathOk.j0
   repeat' first
   | (with_reducible exact ih0 _ _ _ _ _ _ _ _ _ _ _)
   | (with_reducible exact spec_LeafOf.mono _ _ _ _ _ _ _)
   | (with_reducible exact spec_l27Up.mono _ _ _ _ _)
   | (with_reducible exact LeO.refl _)
   | (with_reducible exact LeO.none _)
   | (with_reducible refine LeO.ite ?_ ?_)
   | (with_reducible refine LeO.bind ?_ (fun _ => ?_))
   | exact ih0 _ _ _ _ _ _ _ _ _ _ _
   | exact spec_LeafOf.mono _ _ _ _ _ _ _
   | exact spec_l27Up.mono _ _ _ _ _
   | exact LeO.none _
   | refine LeO.ite ?_ ?_
   | refine LeO.bind ?_ (fun _ => ?_)
theorem spec_PathOk.mono : ∀ a0 a1 a2 a3 a4 a5 a6 a7 a8 a9 k, LeO (spec_PathOk.f k a0 a1 a2 a3 a4 a5 a6 a7 a8 a9) (spec_PathOk.f (k + 1) a0 a1 a2 a3 a4 a5 a6 a7 a8 a9) := by
 intro a0 a1 a2 a3 a4 a5 a6 a7 a8 a9 k
 have ih0 := spec_PathOk.mono_l k
 unfold spec_PathOk.f
 repeat' first
  | (with_reducible exact ih0 _ _ _ _ _ _ _ _ _ _ _)
  | (with_reducible exact spec_LeafOf.mono _ _ _ _ _ _ _)
  | (with_reducible exact spec_l27Up.mono _ _ _ _ _)
  | (with_reducible exact LeO.refl _)
  | (with_reducible exact LeO.none _)
  | (with_reducible refine LeO.ite ?_ ?_)
  | (with_reducible refine LeO.bind ?_ (fun _ => ?_))
  | exact ih0 _ _ _ _ _ _ _ _ _ _ _
  | exact spec_LeafOf.mono _ _ _ _ _ _ _
  | exact spec_l27Up.mono _ _ _ _ _
  | exact LeO.none _
  | refine LeO.ite ?_ ?_
  | refine LeO.bind ?_ (fun _ => ?_)
set_option maxHeartbeats 8000000 in
set_option maxRecDepth 100000 in
theorem spec_PathOk.calls (k : Nat) (a0 : ByteArray) (a1 : Int) (a2 : Int) (a3_0 : Int) (a3_1 : Int) (a3_2 : Int) (a3_3 : Int) (a3_4 : Int) (a3_5 : Int) (A4 : Option Addr) (c4 : Nat) (l4 : List ByteArray) (r : Bool) (w : World) (hr4 : Kd.C Kd.string w A4 l4.length l4) (hc4 : l4.length ≤ c4) (h : spec_PathOk.f k a0 a1 a2 a3_0 a3_1 a3_2 a3_3 a3_4 a3_5 l4 = some r) :
 Calls Tryd.prog 54 #[.string a0, .int .i64 a1, .int .i64 a2, .agg #[.int .i64 a3_0, .int .i64 a3_1, .int .i64 a3_2, .int .i64 a3_3, .int .i64 a3_4, .int .i64 a3_5], .slice A4 l4.length c4] w fun e w' => e = .returned (.bool r) ∧ Below w.heap.size w w' := by
 have hu70 := Tryd.underlying70
 have HR4 := Aside0.mk hr4
 have HC4 := Aside0.mk hc4
 clear hr4 hc4
 have HB := Aside0.mk (Below.refl w.heap.size w)
 have H : ((spec_l01In.f a1 1 200).bind fun t1014 => (if t1014 = true then ((spec_l01In.f a2 0 (wrap64 (a1 - 1))).bind fun t1015 => (spec_PathOk.j0 k a0 a1 a2 l4 (!t1015) a3_0 a3_1 a3_2 a3_3 a3_4 a3_5)) else (spec_PathOk.j0 k a0 a1 a2 l4 true a3_0 a3_1 a3_2 a3_3 a3_4 a3_5))) = some r := h
 clear h
 have HC6 := Aside0.mk H
 clear H
 go_enter Tryd.func54, Tryd.ntmps54
 go_upto_region 1 with (first | ((with_reducible refine gate_dst (N := 8) rfl ?_); refine box_event ?hg (N := 8) ?hd (cs := #[.int .i64 a3_0, .int .i64 a3_1, .int .i64 a3_2, .int .i64 a3_3, .int .i64 a3_4, .int .i64 a3_5]) (t := 70) ?hr ?_; (case hd => rfl); (case hg => rfl); (case hr => first | (go_simp; done) | (go_simp; rfl)); intro gb1013 hg w7 hbox hb; have n0_ := Aside0.mk (below_step bl_ hb); have n1_ := Aside0.mk (hbox); have n2_ := Aside0.mk ((hz_ : w.heap.size ≤ gb1013)); have n3_ := Aside0.mk ((hz_ : w.heap.size ≤ gb1013)); clear HB; have HB := n0_; have BK1013 := n1_; have GW1013 := n2_; have GE1013 := n3_; clear n0_ n1_ n2_ n3_; clear hb hbox hg))
 (try simp only [Act.put, List.setIfInBounds_toArray, List.set_cons_zero, List.set_cons_succ])
 go_cut [22] (fun v22 wc => ∃ (kq : Nat) (x22_5 : Bool), v22 = .bool x22_5 ∧ Aside0 (spec_PathOk.j0 kq a0 a1 a2 l4 x22_5 a3_0 a3_1 a3_2 a3_3 a3_4 a3_5 = some r) ∧ Aside0 (kq ≤ k) ∧ Aside0 (wc.heap[gb1013]? = some (.cells #[.int .i64 a3_0, .int .i64 a3_1, .int .i64 a3_2, .int .i64 a3_3, .int .i64 a3_4, .int .i64 a3_5] 70 (0, 0))) ∧ Aside0 (Below w.heap.size w wc))
 case first =>
  have H := HC6.out
  clear HC6
  replace H := Option.bind_eq_some_iff.mp H
  obtain ⟨t1014, A80, H⟩ := H
  replace H : (if t1014 = true then ((spec_l01In.f a2 0 (wrap64 (a1 - 1))).bind fun t1015 => (spec_PathOk.j0 k a0 a1 a2 l4 (!t1015) a3_0 a3_1 a3_2 a3_3 a3_4 a3_5)) else (spec_PathOk.j0 k a0 a1 a2 l4 true a3_0 a3_1 a3_2 a3_3 a3_4 a3_5)) = some r := H
  have A8 := Aside0.mk A80
  clear A80
  by_cases c9 : t1014 = true
  ·subst c9
   have H1 : ((spec_l01In.f a2 0 (wrap64 (a1 - 1))).bind fun t1015 => (spec_PathOk.j0 k a0 a1 a2 l4 (!t1015) a3_0 a3_1 a3_2 a3_3 a3_4 a3_5)) = some r := by rw [if_pos rfl] at H; exact H
   clear H
   have H := H1
   clear H1
   replace H := Option.bind_eq_some_iff.mp H
   obtain ⟨t1015, A100, H⟩ := H
   replace H : (spec_PathOk.j0 k a0 a1 a2 l4 (!t1015) a3_0 a3_1 a3_2 a3_3 a3_4 a3_5) = some r := H
   have A10 := Aside0.mk A100
   clear A100
   have H' := Aside0.mk H
   clear H
   go_wp2_with (first | ((with_reducible refine gate_callee (f := 70) rfl ?_); refine goesL_ (some 14) rfl rfl Tryd.func70 (by kernel_rfl) rfl #[.int .i64 a1, .int .i64 1, .int .i64 200] rfl lm_ ?_; (with_reducible refine (spec_l01In.calls a1 1 200 true _ A8.out).mono ?_); rintro e w' ⟨rfl, ⟨nd, rfl⟩⟩; refine ⟨_, rfl, ?_⟩) | (go_at_call 70; (with_reducible refine (spec_l01In.calls a2 0 (wrap64 (a1 - 1)) t1015 _ A10.out).mono ?_); rintro e w' ⟨rfl, ⟨nd, rfl⟩⟩))
   go_meet
   case rel => exact ⟨_, (!t1015), (by first | rfl | (simp; done) | (simp [*]; done)), H', ⟨by first | omega | exact Nat.le_refl _⟩, ⟨bk_ BK1013.out⟩, ⟨bl_⟩⟩
  ·replace c9 := Bool.eq_false_iff.mpr c9
   subst c9
   have H1 : (spec_PathOk.j0 k a0 a1 a2 l4 true a3_0 a3_1 a3_2 a3_3 a3_4 a3_5) = some r := by rw [if_neg (show ¬ (false = true) by decide)] at H; exact H
   clear H
   have H := H1
   clear H1
   have H' := Aside0.mk H
   clear H
   go_wp2_with (first | ((with_reducible refine gate_callee (f := 70) rfl ?_); refine goesL_ (some 14) rfl rfl Tryd.func70 (by kernel_rfl) rfl #[.int .i64 a1, .int .i64 1, .int .i64 200] rfl lm_ ?_; (with_reducible refine (spec_l01In.calls a1 1 200 false _ A8.out).mono ?_); rintro e w' ⟨rfl, ⟨nd, rfl⟩⟩; refine ⟨_, rfl, ?_⟩))
   go_meet
   case rel => exact ⟨_, (true), (by first | rfl | (simp; done) | (simp [*]; done)), H', ⟨by first | omega | exact Nat.le_refl _⟩, ⟨bk_ BK1013.out⟩, ⟨bl_⟩⟩
 case rest =>
  clear HC6
  try clear p2
  try clear c4
  try clear c5
  try clear p6
  try clear c7
  try clear c9
  obtain ⟨kq, x22_5, rfl, HA, HJ5, BK1013, HB⟩ := hcut
  cases kq with
  | zero => exact absurd HA.out (by simp [spec_PathOk.j0])
  | succ kj5 =>
   have H := HA.out
   clear HA
   simp only [spec_PathOk.j0] at H
   by_cases c11 : x22_5 = true
   ·subst c11
    have H1 : (some false) = some r := by rw [if_pos rfl] at H; exact H
    clear H
    have H := H1
    clear H1
    obtain rfl := Option.some.inj H
    go_wp2
    go_ret
    exact ⟨by first | rfl | (simp [errW_none, errW_some] <;> rfl) | (simp [*, errW_none, errW_some] <;> rfl), bl_⟩
   ·replace c11 := Bool.eq_false_iff.mpr c11
    subst c11
    have H1 : ((spec_LeafOf.f kj5 a3_0 a3_1 a3_2 a3_3 a3_4 a3_5).bind fun t1016 => ((spec_l27Up.f kj5 a1 a2 t1016 l4).bind fun bt1017 => (if bt1017.2 = true then (some (bt1017.1.toList == a0.toList)) else (some false)))) = some r := by rw [if_neg (show ¬ (false = true) by decide)] at H; exact H
    clear H
    have H := H1
    clear H1
    replace H := Option.bind_eq_some_iff.mp H
    obtain ⟨t1016, A120, H⟩ := H
    replace H : ((spec_l27Up.f kj5 a1 a2 t1016 l4).bind fun bt1017 => (if bt1017.2 = true then (some (bt1017.1.toList == a0.toList)) else (some false))) = some r := H
    have A12 := Aside0.mk A120
    clear A120
    replace H := Option.bind_eq_some_iff.mp H
    obtain ⟨⟨t1017, t1018⟩, A130, H⟩ := H
    replace H : (if t1018 = true then (some (t1017.toList == a0.toList)) else (some false)) = some r := H
    have A13 := Aside0.mk A130
    clear A130
    by_cases c14 : t1018 = true
    ·subst c14
     have H1 : (some (t1017.toList == a0.toList)) = some r := by rw [if_pos rfl] at H; exact H
     clear H
     have H := H1
     clear H1
     obtain rfl := Option.some.inj H
     have hcz15_0 : wc.cell? ⟨gb1013, 0, none⟩ = some (.int .i64 a3_0) := (blk_cell BK1013.out 0).trans rfl
     have hcz15_1 : wc.cell? ⟨gb1013, 1, none⟩ = some (.int .i64 a3_1) := (blk_cell BK1013.out 1).trans rfl
     have hcz15_2 : wc.cell? ⟨gb1013, 2, none⟩ = some (.int .i64 a3_2) := (blk_cell BK1013.out 2).trans rfl
     have hcz15_3 : wc.cell? ⟨gb1013, 3, none⟩ = some (.int .i64 a3_3) := (blk_cell BK1013.out 3).trans rfl
     have hcz15_4 : wc.cell? ⟨gb1013, 4, none⟩ = some (.int .i64 a3_4) := (blk_cell BK1013.out 4).trans rfl
     have hcz15_5 : wc.cell? ⟨gb1013, 5, none⟩ = some (.int .i64 a3_5) := (blk_cell BK1013.out 5).trans rfl
     have hfz15_0 := blk_frozen BK1013.out 0
     have hfz15_1 := blk_frozen BK1013.out 1
     have hfz15_2 := blk_frozen BK1013.out 2
     have hfz15_3 := blk_frozen BK1013.out 3
     have hfz15_4 := blk_frozen BK1013.out 4
     have hfz15_5 := blk_frozen BK1013.out 5
     go_wp2_with (first | ((with_reducible refine gate_callee (f := 96) rfl ?_); refine goesL_ (some 27) rfl rfl Tryd.func96 (by kernel_rfl) rfl #[.agg #[.int .i64 a3_0, .int .i64 a3_1, .int .i64 a3_2, .int .i64 a3_3, .int .i64 a3_4, .int .i64 a3_5]] rfl lm_ ?_; (with_reducible refine (spec_LeafOf.calls kj5 a3_0 a3_1 a3_2 a3_3 a3_4 a3_5 t1016 _ A12.out).mono ?_); rintro e w16 ⟨rfl, hb⟩; refine ⟨_, rfl, ?_⟩; have n0_ := Aside0.mk (blk_below (g := gb1013) (o := .cells #[.int .i64 a3_0, .int .i64 a3_1, .int .i64 a3_2, .int .i64 a3_3, .int .i64 a3_4, .int .i64 a3_5] 70 (0, 0)) (bk_ BK1013.out) hb); have n1_ := Aside0.mk (below_step bl_ hb); clear BK1013; clear HB; have BK1013 := n0_; have HB := n1_; clear n0_ n1_; (try clear hb); (try clear hb2); (try clear hk); (try clear hi)) | ((with_reducible refine gate_callee (f := 98) rfl ?_); refine goesL_ (some 29) rfl rfl Tryd.func98 (by kernel_rfl) rfl #[.int .i64 a1, .int .i64 a2, .string t1016, .slice A4 l4.length c4] rfl lm_ ?_; (with_reducible refine (spec_l27Up.calls kj5 a1 a2 t1016 _ _ l4 t1017 true _ ?side1 ?side2 A13.out).mono ?_); (case side1 => repeat (first | exact (Kd.C_below HR4.out HB.out) | exact HR4.out | (with_reducible refine Kd.C_alloc ?_ _) | (with_reducible refine Kd.C_drewN ?_ _) | (with_reducible refine Kd.C_drew ?_))); (case side2 => exact HC4.out); rintro e w17 ⟨rfl, hb⟩; refine ⟨_, rfl, ?_⟩; have n0_ := Aside0.mk (blk_below (g := gb1013) (o := .cells #[.int .i64 a3_0, .int .i64 a3_1, .int .i64 a3_2, .int .i64 a3_3, .int .i64 a3_4, .int .i64 a3_5] 70 (0, 0)) (bk_ BK1013.out) hb); have n1_ := Aside0.mk (below_step bl_ hb); clear BK1013; clear HB; have BK1013 := n0_; have HB := n1_; clear n0_ n1_; (try clear hb); (try clear hb2); (try clear hk); (try clear hi)))
     go_ret
     exact ⟨by first | rfl | (simp [errW_none, errW_some] <;> rfl) | (simp [*, errW_none, errW_some] <;> rfl), bl_⟩
    ·replace c14 := Bool.eq_false_iff.mpr c14
     subst c14
     have H1 : (some false) = some r := by rw [if_neg (show ¬ (false = true) by decide)] at H; exact H
     clear H
     have H := H1
     clear H1
     obtain rfl := Option.some.inj H
     have hcz18_0 : wc.cell? ⟨gb1013, 0, none⟩ = some (.int .i64 a3_0) := (blk_cell BK1013.out 0).trans rfl
     have hcz18_1 : wc.cell? ⟨gb1013, 1, none⟩ = some (.int .i64 a3_1) := (blk_cell BK1013.out 1).trans rfl
     have hcz18_2 : wc.cell? ⟨gb1013, 2, none⟩ = some (.int .i64 a3_2) := (blk_cell BK1013.out 2).trans rfl
     have hcz18_3 : wc.cell? ⟨gb1013, 3, none⟩ = some (.int .i64 a3_3) := (blk_cell BK1013.out 3).trans rfl
     have hcz18_4 : wc.cell? ⟨gb1013, 4, none⟩ = some (.int .i64 a3_4) := (blk_cell BK1013.out 4).trans rfl
     have hcz18_5 : wc.cell? ⟨gb1013, 5, none⟩ = some (.int .i64 a3_5) := (blk_cell BK1013.out 5).trans rfl
     have hfz18_0 := blk_frozen BK1013.out 0
     have hfz18_1 := blk_frozen BK1013.out 1
     have hfz18_2 := blk_frozen BK1013.out 2
     have hfz18_3 := blk_frozen BK1013.out 3
     have hfz18_4 := blk_frozen BK1013.out 4
     have hfz18_5 := blk_frozen BK1013.out 5
     go_wp2_with (first | ((with_reducible refine gate_callee (f := 96) rfl ?_); refine goesL_ (some 27) rfl rfl Tryd.func96 (by kernel_rfl) rfl #[.agg #[.int .i64 a3_0, .int .i64 a3_1, .int .i64 a3_2, .int .i64 a3_3, .int .i64 a3_4, .int .i64 a3_5]] rfl lm_ ?_; (with_reducible refine (spec_LeafOf.calls kj5 a3_0 a3_1 a3_2 a3_3 a3_4 a3_5 t1016 _ A12.out).mono ?_); rintro e w19 ⟨rfl, hb⟩; refine ⟨_, rfl, ?_⟩; have n0_ := Aside0.mk (blk_below (g := gb1013) (o := .cells #[.int .i64 a3_0, .int .i64 a3_1, .int .i64 a3_2, .int .i64 a3_3, .int .i64 a3_4, .int .i64 a3_5] 70 (0, 0)) (bk_ BK1013.out) hb); have n1_ := Aside0.mk (below_step bl_ hb); clear BK1013; clear HB; have BK1013 := n0_; have HB := n1_; clear n0_ n1_; (try clear hb); (try clear hb2); (try clear hk); (try clear hi)) | ((with_reducible refine gate_callee (f := 98) rfl ?_); refine goesL_ (some 29) rfl rfl Tryd.func98 (by kernel_rfl) rfl #[.int .i64 a1, .int .i64 a2, .string t1016, .slice A4 l4.length c4] rfl lm_ ?_; (with_reducible refine (spec_l27Up.calls kj5 a1 a2 t1016 _ _ l4 t1017 false _ ?side1 ?side2 A13.out).mono ?_); (case side1 => repeat (first | exact (Kd.C_below HR4.out HB.out) | exact HR4.out | (with_reducible refine Kd.C_alloc ?_ _) | (with_reducible refine Kd.C_drewN ?_ _) | (with_reducible refine Kd.C_drew ?_))); (case side2 => exact HC4.out); rintro e w20 ⟨rfl, hb⟩; refine ⟨_, rfl, ?_⟩; have n0_ := Aside0.mk (blk_below (g := gb1013) (o := .cells #[.int .i64 a3_0, .int .i64 a3_1, .int .i64 a3_2, .int .i64 a3_3, .int .i64 a3_4, .int .i64 a3_5] 70 (0, 0)) (bk_ BK1013.out) hb); have n1_ := Aside0.mk (below_step bl_ hb); clear BK1013; clear HB; have BK1013 := n0_; have HB := n1_; clear n0_ n1_; (try clear hb); (try clear hb2); (try clear hk); (try clear hi)))
     go_ret
     exact ⟨by first | rfl | (simp [errW_none, errW_some] <;> rfl) | (simp [*, errW_none, errW_some] <;> rfl), bl_⟩


/-! ### laws_FnTree: function 11 -/
def laws_FnTree.l0 : Nat → List (S70) → ByteArray → Int → Int → Option (Bool)
 | 0, _, _, _, _ => none
 | k + 1, x3, x4, x5, x6 => if x6 < x5 then ((impl_PathOf.f k x3 x6).bind fun bt1050 => (if bt1050.2 = true then (if (bt1050.1.length : Int) > 8 then (some false) else (if 0 ≤ x6 then (if x6 < (x3.length : Int) then ((impl_PathOk.f k x4 x5 x6 ((rd_T70 x3 x6).f0) ((rd_T70 x3 x6).f1) ((rd_T70 x3 x6).f2.f0) ((rd_T70 x3 x6).f2.f1) ((rd_T70 x3 x6).f2.f2) ((rd_T70 x3 x6).f2.f3) bt1050.1).bind fun t1055 => (if t1055 = true then ((spec_PathOk.f k x4 x5 x6 ((rd_T70 x3 x6).f0) ((rd_T70 x3 x6).f1) ((rd_T70 x3 x6).f2.f0) ((rd_T70 x3 x6).f2.f1) ((rd_T70 x3 x6).f2.f2) ((rd_T70 x3 x6).f2.f3) bt1050.1).bind fun t1057 => (if t1057 = true then (laws_FnTree.l0 k x3 x4 x5 (wrap64 (x6 + 1))) else (some false))) else (some false))) else (none)) else (none))) else (some false))) else ((impl_PathOf.f k x3 x5).bind fun bt1042 => (if bt1042.2 = true then (some false) else (if (x4.size : Int) = 32 then (if x5 = 1 then (if 0 < (x3.length : Int) then ((impl_LeafOf.f k ((rd_T70 x3 0).f0) ((rd_T70 x3 0).f1) ((rd_T70 x3 0).f2.f0) ((rd_T70 x3 0).f2.f1) ((rd_T70 x3 0).f2.f2) ((rd_T70 x3 0).f2.f3)).bind fun t1047 => (if x4.toList = t1047.toList then (if x5 > 0 then (some true) else ((spec_Digest.f (⟨#[]⟩ : ByteArray)).bind fun t1048 => (some (x4.toList == t1048.toList)))) else (some false))) else (none)) else (if x5 > 0 then (some true) else ((spec_Digest.f (⟨#[]⟩ : ByteArray)).bind fun t1049 => (some (x4.toList == t1049.toList))))) else (some false))))
def laws_FnTree.f (k : Nat) (l0 : List Int) : Option (Bool) := (laws_big.f l0).bind fun t1019 => (if t1019 = true then (some true) else ((some (([] : List (S70)) : List (S70))).bind fun y1020 => ((spec_DrawEntries.f k l0).bind fun t1023 => (if y1020.length + t1023.length < 2932031007402 then ((some (y1020 ++ t1023 : List (S70))).bind fun y1026 => ((some (([5] : List Int) : List Int)).bind fun y1029 => (if y1029.length + l0.length < 140737488355328 then ((spec_DrawEntries.f k (y1029 ++ l0)).bind fun t1035 => (if y1026.length + t1035.length < 2932031007402 then ((some (y1026 ++ t1035 : List (S70))).bind fun y1038 => ((impl_RootOf.f k y1038).bind fun t1041 => (laws_FnTree.l0 k y1038 t1041 (y1038.length : Int) 0))) else (none))) else (none)))) else (none)))))
theorem laws_FnTree.mono_l : ∀ k, (∀ y0 y1 y2 y3, LeO (laws_FnTree.l0 k y0 y1 y2 y3) (laws_FnTree.l0 (k + 1) y0 y1 y2 y3))
 | 0 => fun _ _ _ _ r h => by simp [laws_FnTree.l0] at h
 | k + 1 => by
  have ih0 := laws_FnTree.mono_l k
  ·intro y0 y1 y2 y3
   unfold laws_FnTree.l0
   repeat' first
   | (with_reducible exact ih0 _ _ _ _)
   | (with_reducible exact impl_LeafOf.mono _ _ _ _ _ _ _)
   | (with_reducible exact impl_PathOf.mono _ _ _)
   | (with_reducible exact impl_PathOk.mono _ _ _ _ _ _ _ _ _ _ _)
   | (with_reducible exact impl_RootOf.mono _ _)
   | (with_reducible exact spec_DrawEntries.mono _ _)
   | (with_reducible exact spec_PathOk.mono _ _ _ _ _ _ _ _ _ _ _)
   | (with_reducible exact LeO.refl _)
   | (with_reducible exact LeO.none _)
   | (with_reducible refine LeO.ite ?_ ?_)
   | (with_reducible refine LeO.bind ?_ (fun _ => ?_))
   | exact ih0 _ _ _ _
   | exact impl_LeafOf.mono _ _ _ _ _ _ _
   | exact impl_PathOf.mono _ _ _
   | exact impl_PathOk.mono _ _ _ _ _ _ _ _ _ _ _
   | exact impl_RootOf.mono _ _
   | exact spec_DrawEntries.mono _ _
   | exact spec_PathOk.mono _ _ _ _ _ _ _ _ _ _ _
   | exact LeO.none _
   | refine LeO.ite ?_ ?_
   | refine LeO.bind ?_ (fun _ => ?_)
theorem laws_FnTree.mono : ∀ a0 k, LeO (laws_FnTree.f k a0) (laws_FnTree.f (k + 1) a0) := by
 intro a0 k
 have ih0 := laws_FnTree.mono_l k
 unfold laws_FnTree.f
 repeat' first
  | (with_reducible exact ih0 _ _ _ _)
  | (with_reducible exact impl_LeafOf.mono _ _ _ _ _ _ _)
  | (with_reducible exact impl_PathOf.mono _ _ _)
  | (with_reducible exact impl_PathOk.mono _ _ _ _ _ _ _ _ _ _ _)
  | (with_reducible exact impl_RootOf.mono _ _)
  | (with_reducible exact spec_DrawEntries.mono _ _)
  | (with_reducible exact spec_PathOk.mono _ _ _ _ _ _ _ _ _ _ _)
  | (with_reducible exact LeO.refl _)
  | (with_reducible exact LeO.none _)
  | (with_reducible refine LeO.ite ?_ ?_)
  | (with_reducible refine LeO.bind ?_ (fun _ => ?_))
  | exact ih0 _ _ _ _
  | exact impl_LeafOf.mono _ _ _ _ _ _ _
  | exact impl_PathOf.mono _ _ _
  | exact impl_PathOk.mono _ _ _ _ _ _ _ _ _ _ _
  | exact impl_RootOf.mono _ _
  | exact spec_DrawEntries.mono _ _
  | exact spec_PathOk.mono _ _ _ _ _ _ _ _ _ _ _
  | exact LeO.none _
  | refine LeO.ite ?_ ?_
  | refine LeO.bind ?_ (fun _ => ?_)
set_option maxHeartbeats 8000000 in
set_option maxRecDepth 100000 in
theorem laws_FnTree.calls (k : Nat) (A0 : Option Addr) (c0 : Nat) (l0 : List Int) (r : Bool) (w : World) (hr0 : Kd.C (Kd.int .u8) w A0 l0.length l0) (hc0 : l0.length ≤ c0) (hT : Tab w) (hr1 : r = true) (h : laws_FnTree.f k l0 = some r) :
 Calls Tryd.prog 11 #[.slice A0 l0.length c0] w fun e w' => e = .returned (.bool r) ∧ Below w.heap.size w w' := by
 have hu70 := Tryd.underlying70
 have HR0 := Aside0.mk hr0
 have HC0 := Aside0.mk hc0
 clear hr0 hc0
 have HT := Aside0.mk hT
 clear hT
 have HR1 := Aside0.mk hr1
 clear hr1
 have HB := Aside0.mk (Below.refl w.heap.size w)
 have H : ((laws_big.f l0).bind fun t1019 => (if t1019 = true then (some true) else ((some (([] : List (S70)) : List (S70))).bind fun y1020 => ((spec_DrawEntries.f k l0).bind fun t1023 => (if y1020.length + t1023.length < 2932031007402 then ((some (y1020 ++ t1023 : List (S70))).bind fun y1026 => ((some (([5] : List Int) : List Int)).bind fun y1029 => (if y1029.length + l0.length < 140737488355328 then ((spec_DrawEntries.f k (y1029 ++ l0)).bind fun t1035 => (if y1026.length + t1035.length < 2932031007402 then ((some (y1026 ++ t1035 : List (S70))).bind fun y1038 => ((impl_RootOf.f k y1038).bind fun t1041 => (laws_FnTree.l0 k y1038 t1041 (y1038.length : Int) 0))) else (none))) else (none)))) else (none)))))) = some r := h
 clear h
 replace H := Option.bind_eq_some_iff.mp H
 obtain ⟨t1019, A20, H⟩ := H
 replace H : (if t1019 = true then (some true) else ((some (([] : List (S70)) : List (S70))).bind fun y1020 => ((spec_DrawEntries.f k l0).bind fun t1023 => (if y1020.length + t1023.length < 2932031007402 then ((some (y1020 ++ t1023 : List (S70))).bind fun y1026 => ((some (([5] : List Int) : List Int)).bind fun y1029 => (if y1029.length + l0.length < 140737488355328 then ((spec_DrawEntries.f k (y1029 ++ l0)).bind fun t1035 => (if y1026.length + t1035.length < 2932031007402 then ((some (y1026 ++ t1035 : List (S70))).bind fun y1038 => ((impl_RootOf.f k y1038).bind fun t1041 => (laws_FnTree.l0 k y1038 t1041 (y1038.length : Int) 0))) else (none))) else (none)))) else (none))))) = some r := H
 have A2 := Aside0.mk A20
 clear A20
 by_cases c3 : t1019 = true
 ·subst c3
  have H1 : (some true) = some r := by rw [if_pos rfl] at H; exact H
  clear H
  have H := H1
  clear H1
  obtain rfl := Option.some.inj H
  go_enter Tryd.func11, Tryd.ntmps11
  go_wp2_with (first | ((with_reducible refine gate_callee (f := 47) rfl ?_); refine goesL_ (some 12) rfl rfl Tryd.func47 (by kernel_rfl) rfl #[.slice A0 l0.length c0] rfl lm_ ?_; (with_reducible refine (laws_big.calls _ _ l0 true _ ?side1 ?side2 A2.out).mono ?_); (case side1 => repeat (first | exact HR0.out | (with_reducible refine Kd.C_alloc ?_ _) | (with_reducible refine Kd.C_drewN ?_ _) | (with_reducible refine Kd.C_drew ?_))); (case side2 => exact HC0.out); rintro e w' ⟨rfl, ⟨nd, rfl⟩⟩; refine ⟨_, rfl, ?_⟩))
  go_ret
  exact ⟨by first | rfl | (simp [errW_none, errW_some] <;> rfl) | (simp [*, errW_none, errW_some] <;> rfl) | exact False.elim (Bool.noConfusion ((decide_eq_true (of_eq_true (by assumption))).symm.trans (by assumption))), bl_⟩
 ·replace c3 := Bool.eq_false_iff.mpr c3
  subst c3
  have H1 : ((some (([] : List (S70)) : List (S70))).bind fun y1020 => ((spec_DrawEntries.f k l0).bind fun t1023 => (if y1020.length + t1023.length < 2932031007402 then ((some (y1020 ++ t1023 : List (S70))).bind fun y1026 => ((some (([5] : List Int) : List Int)).bind fun y1029 => (if y1029.length + l0.length < 140737488355328 then ((spec_DrawEntries.f k (y1029 ++ l0)).bind fun t1035 => (if y1026.length + t1035.length < 2932031007402 then ((some (y1026 ++ t1035 : List (S70))).bind fun y1038 => ((impl_RootOf.f k y1038).bind fun t1041 => (laws_FnTree.l0 k y1038 t1041 (y1038.length : Int) 0))) else (none))) else (none)))) else (none)))) = some r := by rw [if_neg (show ¬ (false = true) by decide)] at H; exact H
  clear H
  have H := H1
  clear H1
  obtain ⟨y1020, hy1020⟩ : ∃ y_ : List (S70), y_ = (([] : List (S70))) := ⟨_, rfl⟩
  replace H : ((spec_DrawEntries.f k l0).bind fun t1023 => (if y1020.length + t1023.length < 2932031007402 then ((some (y1020 ++ t1023 : List (S70))).bind fun y1026 => ((some (([5] : List Int) : List Int)).bind fun y1029 => (if y1029.length + l0.length < 140737488355328 then ((spec_DrawEntries.f k (y1029 ++ l0)).bind fun t1035 => (if y1026.length + t1035.length < 2932031007402 then ((some (y1026 ++ t1035 : List (S70))).bind fun y1038 => ((impl_RootOf.f k y1038).bind fun t1041 => (laws_FnTree.l0 k y1038 t1041 (y1038.length : Int) 0))) else (none))) else (none)))) else (none))) = some r := by first | (rw [hy1020]; with_reducible exact H) | (have H2_ := (Option.bind_some _ _).symm.trans H; rw [hy1020]; with_reducible exact H2_) | (have H2_ := (Option.bind_some _ _).symm.trans H; with_reducible exact H2_) | with_reducible exact H | (rw [hy1020]; exact H) | exact H
  have Ny1020 := Aside0.mk hy1020
  clear hy1020
  replace H := Option.bind_eq_some_iff.mp H
  obtain ⟨t1023, A40, H⟩ := H
  replace H : (if y1020.length + t1023.length < 2932031007402 then ((some (y1020 ++ t1023 : List (S70))).bind fun y1026 => ((some (([5] : List Int) : List Int)).bind fun y1029 => (if y1029.length + l0.length < 140737488355328 then ((spec_DrawEntries.f k (y1029 ++ l0)).bind fun t1035 => (if y1026.length + t1035.length < 2932031007402 then ((some (y1026 ++ t1035 : List (S70))).bind fun y1038 => ((impl_RootOf.f k y1038).bind fun t1041 => (laws_FnTree.l0 k y1038 t1041 (y1038.length : Int) 0))) else (none))) else (none)))) else (none)) = some r := H
  have A4 := Aside0.mk A40
  clear A40
  by_cases c5 : y1020.length + t1023.length < 2932031007402
  ·rw [if_pos c5] at H
   have LMc5 := Aside0.mk c5
   clear c5
   obtain ⟨y1026, hy1026⟩ : ∃ y_ : List (S70), y_ = (y1020 ++ t1023) := ⟨_, rfl⟩
   replace H : ((some (([5] : List Int) : List Int)).bind fun y1029 => (if y1029.length + l0.length < 140737488355328 then ((spec_DrawEntries.f k (y1029 ++ l0)).bind fun t1035 => (if y1026.length + t1035.length < 2932031007402 then ((some (y1026 ++ t1035 : List (S70))).bind fun y1038 => ((impl_RootOf.f k y1038).bind fun t1041 => (laws_FnTree.l0 k y1038 t1041 (y1038.length : Int) 0))) else (none))) else (none))) = some r := by first | (rw [hy1026]; with_reducible exact H) | (have H2_ := (Option.bind_some _ _).symm.trans H; rw [hy1026]; with_reducible exact H2_) | (have H2_ := (Option.bind_some _ _).symm.trans H; with_reducible exact H2_) | with_reducible exact H | (rw [hy1026]; exact H) | exact H
   have Ny1026 := Aside0.mk hy1026
   clear hy1026
   obtain ⟨y1029, hy1029⟩ : ∃ y_ : List Int, y_ = (([5] : List Int)) := ⟨_, rfl⟩
   replace H : (if y1029.length + l0.length < 140737488355328 then ((spec_DrawEntries.f k (y1029 ++ l0)).bind fun t1035 => (if y1026.length + t1035.length < 2932031007402 then ((some (y1026 ++ t1035 : List (S70))).bind fun y1038 => ((impl_RootOf.f k y1038).bind fun t1041 => (laws_FnTree.l0 k y1038 t1041 (y1038.length : Int) 0))) else (none))) else (none)) = some r := by first | (rw [hy1029]; with_reducible exact H) | (have H2_ := (Option.bind_some _ _).symm.trans H; rw [hy1029]; with_reducible exact H2_) | (have H2_ := (Option.bind_some _ _).symm.trans H; with_reducible exact H2_) | with_reducible exact H | (rw [hy1029]; exact H) | exact H
   have Ny1029 := Aside0.mk hy1029
   clear hy1029
   by_cases c6 : y1029.length + l0.length < 140737488355328
   ·rw [if_pos c6] at H
    have LMc6 := Aside0.mk c6
    clear c6
    obtain ⟨y1032, hy1032⟩ : ∃ y_ : List Int, y_ = (y1029 ++ l0) := ⟨_, rfl⟩
    replace H : ((spec_DrawEntries.f k y1032).bind fun t1035 => (if y1026.length + t1035.length < 2932031007402 then ((some (y1026 ++ t1035 : List (S70))).bind fun y1038 => ((impl_RootOf.f k y1038).bind fun t1041 => (laws_FnTree.l0 k y1038 t1041 (y1038.length : Int) 0))) else (none))) = some r := by first | (rw [hy1032]; with_reducible exact H) | (have H2_ := (Option.bind_some _ _).symm.trans H; rw [hy1032]; with_reducible exact H2_) | (have H2_ := (Option.bind_some _ _).symm.trans H; with_reducible exact H2_) | with_reducible exact H | (rw [hy1032]; exact H) | exact H
    have Ny1032 := Aside0.mk hy1032
    clear hy1032
    replace H := Option.bind_eq_some_iff.mp H
    obtain ⟨t1035, A70, H⟩ := H
    replace H : (if y1026.length + t1035.length < 2932031007402 then ((some (y1026 ++ t1035 : List (S70))).bind fun y1038 => ((impl_RootOf.f k y1038).bind fun t1041 => (laws_FnTree.l0 k y1038 t1041 (y1038.length : Int) 0))) else (none)) = some r := H
    have A7 := Aside0.mk A70
    clear A70
    by_cases c8 : y1026.length + t1035.length < 2932031007402
    ·rw [if_pos c8] at H
     have LMc8 := Aside0.mk c8
     clear c8
     obtain ⟨y1038, hy1038⟩ : ∃ y_ : List (S70), y_ = (y1026 ++ t1035) := ⟨_, rfl⟩
     replace H : ((impl_RootOf.f k y1038).bind fun t1041 => (laws_FnTree.l0 k y1038 t1041 (y1038.length : Int) 0)) = some r := by first | (rw [hy1038]; with_reducible exact H) | (have H2_ := (Option.bind_some _ _).symm.trans H; rw [hy1038]; with_reducible exact H2_) | (have H2_ := (Option.bind_some _ _).symm.trans H; with_reducible exact H2_) | with_reducible exact H | (rw [hy1038]; exact H) | exact H
     have Ny1038 := Aside0.mk hy1038
     clear hy1038
     replace H := Option.bind_eq_some_iff.mp H
     obtain ⟨t1041, A90, H⟩ := H
     replace H : (laws_FnTree.l0 k y1038 t1041 (y1038.length : Int) 0) = some r := H
     have A9 := Aside0.mk A90
     clear A90
     have H' := Aside0.mk H
     clear H
     go_enter Tryd.func11, Tryd.ntmps11
     go_wp2_with (first | ((with_reducible refine gate_callee (f := 47) rfl ?_); refine goesL_ (some 12) rfl rfl Tryd.func47 (by kernel_rfl) rfl #[.slice A0 l0.length c0] rfl lm_ ?_; (with_reducible refine (laws_big.calls _ _ l0 false _ ?side1 ?side2 A2.out).mono ?_); (case side1 => repeat (first | exact HR0.out | (with_reducible refine Kd.C_alloc ?_ _) | (with_reducible refine Kd.C_drewN ?_ _) | (with_reducible refine Kd.C_drew ?_))); (case side2 => exact HC0.out); rintro e w' ⟨rfl, ⟨nd, rfl⟩⟩; refine ⟨_, rfl, ?_⟩) | ((with_reducible refine gate_dst (N := 13) rfl ?_); (try (refine gate_guard (by rfl) ?_; dsimp only)); refine Kd.R_lit k70 _ 70 ?hg (N := 13) ?hd (xs := ([] : List (S70))) (inner := []) (ok := fun _ => True) (okp := fun _ => True) ?hr ?hp (fun _ hk => hk) trivial (Below.refl _ _) (Nat.le_refl _) (by simp) ?_; (case hd => rfl); (case hg => rfl); (case hr => first | (go_simp; done) | (go_simp; rfl)); (case hp => exact (Reps.none _ _)); intro v1021 w10 ho11 hb hg_ hnew_; clear hg_ hnew_; (first | rw [← Ny1020.out] at ho11 | (simp only [Int.reduceToNat] at ho11; rw [← Ny1020.out] at ho11)); have n0_ := Aside0.mk (Kd.R_lower ho11 (below_size bl_)); have n1_ := Aside0.mk (below_step bl_ hb); clear HB; have HO1022 := n0_; have HB := n1_; clear n0_ n1_; clear hb ho11) | ((with_reducible refine gate_callee (f := 48) rfl ?_); refine goesL_ (some 15) rfl rfl Tryd.func48 (by kernel_rfl) rfl #[.slice A0 l0.length c0] rfl lm_ ?_; (with_reducible refine (spec_DrawEntries.calls k _ _ l0 t1023 _ ?side1 ?side2 A4.out).mono ?_); (case side1 => repeat (first | exact (Kd.C_below HR0.out HB.out) | exact HR0.out | (with_reducible refine Kd.C_alloc ?_ _) | (with_reducible refine Kd.C_drewN ?_ _) | (with_reducible refine Kd.C_drew ?_))); (case side2 => exact HC0.out); rintro e w12 ⟨v1024, rfl, ho0, hb⟩; refine ⟨_, rfl, ?_⟩; have n0_ := Aside0.mk (Kd.R_elder' (ra_ HO1022.out) (Kd.R_base ho0) hb); have n1_ := Aside0.mk (Kd.R_lower (Kd.R_new' ho0 (Kd.R_lt (ra_ HO1022.out))) (below_size bl_)); have n2_ := Aside0.mk (below_step bl_ hb); clear HO1022; clear HB; have HO1022 := n0_; have HO1025 := n1_; have HB := n2_; clear n0_ n1_ n2_; (try clear hb); (try clear hb2); (try clear hk); (try clear hi); (try clear ho0); obtain ⟨Ao14, co14, eo14⟩ := Kd.R_slice HO1025.out; subst eo14) | ((with_reducible refine gate_builtin (b := .append) (xs := #[.tmp 13, .tmp 15]) rfl ?_); (try (refine gate_guard (by rfl) ?_; dsimp only)); at_builtin; refine Kd.R_append_rows k70 (w0 := w) w.heap.size rfl (.tmp 13) (.tmp 15) 28 70 (.agg #[(.int .i64 0), (.int .i64 0), (.int .i64 0), (.int .i64 0), (.int .i64 0), (.int .i64 0)]) 48 rfl Tryd.underlying28 info70 rfl (by decide) (by omega) v1021 y1020 t1023 _ _ _ (fun k_ => some k_ ≠ (.slice Ao14 t1023.length co14 : Value).ownBlock) (fun _ => False) rfl rfl ?aO ?aR (fun _ _ h => h) (fun _ h => h.elim) ?aF ?aB ?aS ?aL ?_; (case aR => repeat (first | exact (Kd.R_reads' HO1025.out).2.2 | (with_reducible refine Kd.C_alloc ?_ _) | (with_reducible refine Kd.C_drewN ?_ _) | (with_reducible refine Kd.C_drew ?_))); (case aB => exact bl_); (case aF => exact (fun k_ hk => Kd.fresh' (Kd.R_lt (ra_ HO1025.out)) k_ hk)); (case aO => exact (by (with_reducible repeat (first | apply Kd.R_alloc | apply Kd.R_drewN | apply Kd.R_drew)); exact Kd.R_mono HO1022.out (fun _ hk => hk.2))); (case aS => exact (below_size bl_)); (case aL => have := LMc5.out; omega); intro v1027 w13 ho hb hg hat; rw [← Ny1026.out] at ho; have n0_ := Aside0.mk (Kd.R_after (ok := (fun _ => True)) (ra_ HO1025.out) hg hat); have n1_ := Aside0.mk (hb); have n2_ := Aside0.mk (ho); clear HO1025; clear HB; clear HO1022; have HO1025 := n0_; have HB := n1_; have HO1028 := n2_; clear n0_ n1_ n2_; clear ho hb hg hat) | ((with_reducible refine gate_dst (N := 17) rfl ?_); (try (refine gate_guard (by rfl) ?_; dsimp only)); refine Kd.R_lit (Kd.int .u8) _ 5 ?hg (N := 17) ?hd (xs := ([5] : List Int)) (inner := [.int .u8 5]) (ok := fun _ => True) (okp := fun _ => True) ?hr ?hp (fun _ hk => hk) trivial (Below.refl _ _) (Nat.le_refl _) (by simp) ?_; (case hd => rfl); (case hg => rfl); (case hr => first | (go_simp; done) | (go_simp; rfl)); (case hp => exact (Reps.one (show Kd.M (Kd.int .u8) _ _ _ 5 [.int .u8 5] from rfl) (Reps.none _ _))); intro v1030 w15 ho16 hb hg_ hnew_; clear hg_ hnew_; (first | rw [← Ny1029.out] at ho16 | (simp only [Int.reduceToNat] at ho16; rw [← Ny1029.out] at ho16)); have n0_ := Aside0.mk (Kd.R_below (ra_ HO1025.out) hb); have n1_ := Aside0.mk (Kd.R_below (ra_ HO1028.out) hb); have n2_ := Aside0.mk (Kd.R_lower ho16 (below_size bl_)); have n3_ := Aside0.mk (below_step bl_ hb); clear HO1025; clear HO1028; clear HB; have HO1025 := n0_; have HO1028 := n1_; have HO1031 := n2_; have HB := n3_; clear n0_ n1_ n2_ n3_; clear hb ho16) | ((with_reducible refine gate_builtin (b := .append) (xs := #[.tmp 17, .tmp 18]) rfl ?_); (try (refine gate_guard (by rfl) ?_; dsimp only)); at_builtin; refine Kd.R_append_rows (Kd.int .u8) (w0 := w) w.heap.size rfl (.tmp 17) (.tmp 18) 61 5 (.int .u8 0) 1 rfl Tryd.underlying61 info5 rfl (by decide) (by omega) v1030 y1029 l0 _ _ _ (fun _ => True) (fun _ => False) rfl rfl ?aO ?aR (fun _ _ h => h) (fun _ h => h.elim) ?aF ?aB ?aS ?aL ?_; (case aR => repeat (first | exact (Kd.C_below HR0.out HB.out) | exact HR0.out | (with_reducible refine Kd.C_alloc ?_ _) | (with_reducible refine Kd.C_drewN ?_ _) | (with_reducible refine Kd.C_drew ?_))); (case aB => exact bl_); (case aF => exact (fun _ _ => trivial)); (case aO => exact (ra_ HO1031.out)); (case aS => exact (below_size bl_)); (case aL => have := LMc6.out; omega); intro v1033 w17 ho hb hg hat; rw [← Ny1032.out] at ho; have n0_ := Aside0.mk (Kd.R_over' (ra_ HO1025.out) (Kd.R_typed (ra_ HO1031.out)) (by decide) hg); have n1_ := Aside0.mk (Kd.R_over' (ra_ HO1028.out) (Kd.R_typed (ra_ HO1031.out)) (by decide) hg); have n2_ := Aside0.mk (hb); have n3_ := Aside0.mk (ho); clear HO1025; clear HO1028; clear HB; clear HO1031; have HO1025 := n0_; have HO1028 := n1_; have HB := n2_; have HO1034 := n3_; clear n0_ n1_ n2_ n3_; clear ho hb hg hat; obtain ⟨Ao18, co18, eo18⟩ := Kd.R_slice HO1034.out; subst eo18) | ((with_reducible refine gate_callee (f := 48) rfl ?_); refine goesL_ (some 20) rfl rfl Tryd.func48 (by kernel_rfl) rfl #[.slice Ao18 y1032.length co18] rfl lm_ ?_; (with_reducible refine (spec_DrawEntries.calls k _ _ y1032 t1035 _ ?side1 ?side2 A7.out).mono ?_); (case side1 => repeat (first | exact (Kd.R_reads' HO1034.out).2.2 | (with_reducible refine Kd.C_alloc ?_ _) | (with_reducible refine Kd.C_drewN ?_ _) | (with_reducible refine Kd.C_drew ?_))); (case side2 => exact (Kd.R_reads' HO1034.out).2.1); rintro e w19 ⟨v1036, rfl, ho0, hb⟩; refine ⟨_, rfl, ?_⟩; have n0_ := Aside0.mk (Kd.R_elder' (ra_ HO1025.out) (Kd.R_base ho0) hb); have n1_ := Aside0.mk (Kd.R_elder' (ra_ HO1028.out) (Kd.R_base ho0) hb); have n2_ := Aside0.mk (Kd.R_below (ra_ HO1034.out) hb); have n3_ := Aside0.mk (Kd.R_lower (Kd.R_new' (Kd.R_new' ho0 (Kd.R_lt (ra_ HO1025.out))) (Kd.R_lt (ra_ HO1028.out))) (below_size bl_)); have n4_ := Aside0.mk (below_step bl_ hb); clear HO1025; clear HO1028; clear HO1034; clear HB; have HO1025 := n0_; have HO1028 := n1_; have HO1034 := n2_; have HO1037 := n3_; have HB := n4_; clear n0_ n1_ n2_ n3_ n4_; (try clear hb); (try clear hb2); (try clear hk); (try clear hi); (try clear ho0); obtain ⟨Ao21, co21, eo21⟩ := Kd.R_slice HO1037.out; subst eo21) | ((with_reducible refine gate_builtin (b := .append) (xs := #[.tmp 16, .tmp 20]) rfl ?_); (try (refine gate_guard (by rfl) ?_; dsimp only)); at_builtin; refine Kd.R_append_rows k70 (w0 := w) w.heap.size rfl (.tmp 16) (.tmp 20) 28 70 (.agg #[(.int .i64 0), (.int .i64 0), (.int .i64 0), (.int .i64 0), (.int .i64 0), (.int .i64 0)]) 48 rfl Tryd.underlying28 info70 rfl (by decide) (by omega) v1027 y1026 t1035 _ _ _ (fun k_ => some k_ ≠ (.slice Ao14 t1023.length co14 : Value).ownBlock ∧ some k_ ≠ (.slice Ao21 t1035.length co21 : Value).ownBlock) (fun _ => False) rfl rfl ?aO ?aR (fun _ _ h => h) (fun _ h => h.elim) ?aF ?aB ?aS ?aL ?_; (case aR => repeat (first | exact (Kd.R_reads' HO1037.out).2.2 | (with_reducible refine Kd.C_alloc ?_ _) | (with_reducible refine Kd.C_drewN ?_ _) | (with_reducible refine Kd.C_drew ?_))); (case aB => exact bl_); (case aF => exact (fun k_ hk => ⟨Kd.fresh' (Kd.R_lt (ra_ HO1025.out)) k_ hk, Kd.fresh' (Kd.R_lt (ra_ HO1037.out)) k_ hk⟩)); (case aO => exact (ra_ HO1028.out)); (case aS => exact (below_size bl_)); (case aL => have := LMc8.out; omega); intro v1039 w20 ho hb hg hat; rw [← Ny1038.out] at ho; have n0_ := Aside0.mk (Kd.R_after (ok := (fun k_ => some k_ ≠ (.slice Ao21 t1035.length co21 : Value).ownBlock)) (by (with_reducible repeat (first | apply Kd.R_alloc | apply Kd.R_drewN | apply Kd.R_drew)); exact Kd.R_mono HO1025.out (fun _ hk => ⟨hk.2, hk.1.2⟩)) hg hat); have n1_ := Aside0.mk (Kd.R_over' (ra_ HO1034.out) (Kd.R_typed (ra_ HO1028.out)) (by decide) hg); have n2_ := Aside0.mk (Kd.R_after (ok := (fun k_ => some k_ ≠ (.slice Ao14 t1023.length co14 : Value).ownBlock)) (by (with_reducible repeat (first | apply Kd.R_alloc | apply Kd.R_drewN | apply Kd.R_drew)); exact Kd.R_mono HO1037.out (fun _ hk => ⟨hk.1.2, hk.2⟩)) hg hat); have n3_ := Aside0.mk (hb); have n4_ := Aside0.mk (ho); clear HO1025; clear HO1034; clear HO1037; clear HB; clear HO1028; have HO1025 := n0_; have HO1034 := n1_; have HO1037 := n2_; have HB := n3_; have HO1040 := n4_; clear n0_ n1_ n2_ n3_ n4_; clear ho hb hg hat; obtain ⟨Ao22, co22, eo22⟩ := Kd.R_slice HO1040.out; subst eo22) | ((with_reducible refine gate_callee (f := 49) rfl ?_); refine goesL_ (some 23) rfl rfl Tryd.func49 (by kernel_rfl) rfl #[.slice Ao22 y1038.length co22] rfl lm_ ?_; (with_reducible refine (impl_RootOf.calls k _ _ y1038 t1041 _ ?side1 ?side2 ?side3 A9.out).mono ?_); (case side1 => repeat (first | exact (Kd.R_reads' HO1040.out).2.2 | (with_reducible refine Kd.C_alloc ?_ _) | (with_reducible refine Kd.C_drewN ?_ _) | (with_reducible refine Kd.C_drew ?_))); (case side2 => exact (Kd.R_reads' HO1040.out).2.1); (case side3 => exact tab_of HT.out bl_); rintro e w23 ⟨rfl, hb⟩; refine ⟨_, rfl, ?_⟩; have n0_ := Aside0.mk (Kd.R_below (ra_ HO1025.out) hb); have n1_ := Aside0.mk (Kd.R_below (ra_ HO1034.out) hb); have n2_ := Aside0.mk (Kd.R_below (ra_ HO1037.out) hb); have n3_ := Aside0.mk (Kd.R_below (ra_ HO1040.out) hb); have n4_ := Aside0.mk (below_step bl_ hb); clear HO1025; clear HO1034; clear HO1037; clear HO1040; clear HB; have HO1025 := n0_; have HO1034 := n1_; have HO1037 := n2_; have HO1040 := n3_; have HB := n4_; clear n0_ n1_ n2_ n3_ n4_; (try clear hb); (try clear hb2); (try clear hk); (try clear hi)))
     go_loopg [6] k (fun kq v6 w' => ∃ (x6_1 : Int), v6 = .int .i64 x6_1 ∧ Aside0 (laws_FnTree.l0 kq y1038 t1041 (y1038.length : Int) x6_1 = some r) ∧ Aside0 (kq ≤ k) ∧ Aside0 (Kd.R k70 70 w' w.heap.size (fun _ => True) (.slice Ao22 y1038.length co22) y1038) ∧ Aside0 (Below w.heap.size w w'))
     case atStart => exact ⟨(0), (by first | rfl | (simp; done) | (simp [*]; done)), H', ⟨Nat.le_refl _⟩, ⟨by (with_reducible repeat (first | apply Kd.R_alloc | apply Kd.R_drewN | apply Kd.R_drew)); exact Kd.R_mono HO1040.out (fun _ hk => trivial)⟩, ⟨bl_⟩⟩
     case round =>
      clear H'
      try clear c1
      try clear p2
      try clear c3
      try clear c4
      try clear c5
      try clear c6
      try clear c8
      try clear c11
      obtain ⟨x6_1, rfl, HA, HK1, HO_3, HB⟩ := hrel
      cases gk with
      | zero => exact absurd HA.out (by simp [laws_FnTree.l0])
      | succ k1 =>
       have H := HA.out
       clear HA
       simp only [laws_FnTree.l0] at H
       by_cases c24 : x6_1 < (y1038.length : Int)
       ·rw [if_pos c24] at H
        have c24b0 : decide (x6_1 < (y1038.length : Int)) = true := decide_eq_true c24
        clear c24
        replace H := Option.bind_eq_some_iff.mp H
        obtain ⟨⟨t1050, t1051⟩, A250, H⟩ := H
        replace H : (if t1051 = true then (if (t1050.length : Int) > 8 then (some false) else (if 0 ≤ x6_1 then (if x6_1 < (y1038.length : Int) then ((impl_PathOk.f k1 t1041 (y1038.length : Int) x6_1 ((rd_T70 y1038 x6_1).f0) ((rd_T70 y1038 x6_1).f1) ((rd_T70 y1038 x6_1).f2.f0) ((rd_T70 y1038 x6_1).f2.f1) ((rd_T70 y1038 x6_1).f2.f2) ((rd_T70 y1038 x6_1).f2.f3) t1050).bind fun t1055 => (if t1055 = true then ((spec_PathOk.f k1 t1041 (y1038.length : Int) x6_1 ((rd_T70 y1038 x6_1).f0) ((rd_T70 y1038 x6_1).f1) ((rd_T70 y1038 x6_1).f2.f0) ((rd_T70 y1038 x6_1).f2.f1) ((rd_T70 y1038 x6_1).f2.f2) ((rd_T70 y1038 x6_1).f2.f3) t1050).bind fun t1057 => (if t1057 = true then (laws_FnTree.l0 k1 y1038 t1041 (y1038.length : Int) (wrap64 (x6_1 + 1))) else (some false))) else (some false))) else (none)) else (none))) else (some false)) = some r := H
        have A25 := Aside0.mk A250
        clear A250
        by_cases c26 : t1051 = true
        ·subst c26
         have H1 : (if (t1050.length : Int) > 8 then (some false) else (if 0 ≤ x6_1 then (if x6_1 < (y1038.length : Int) then ((impl_PathOk.f k1 t1041 (y1038.length : Int) x6_1 ((rd_T70 y1038 x6_1).f0) ((rd_T70 y1038 x6_1).f1) ((rd_T70 y1038 x6_1).f2.f0) ((rd_T70 y1038 x6_1).f2.f1) ((rd_T70 y1038 x6_1).f2.f2) ((rd_T70 y1038 x6_1).f2.f3) t1050).bind fun t1055 => (if t1055 = true then ((spec_PathOk.f k1 t1041 (y1038.length : Int) x6_1 ((rd_T70 y1038 x6_1).f0) ((rd_T70 y1038 x6_1).f1) ((rd_T70 y1038 x6_1).f2.f0) ((rd_T70 y1038 x6_1).f2.f1) ((rd_T70 y1038 x6_1).f2.f2) ((rd_T70 y1038 x6_1).f2.f3) t1050).bind fun t1057 => (if t1057 = true then (laws_FnTree.l0 k1 y1038 t1041 (y1038.length : Int) (wrap64 (x6_1 + 1))) else (some false))) else (some false))) else (none)) else (none))) = some r := by rw [if_pos rfl] at H; exact H
         clear H
         have H := H1
         clear H1
         by_cases c27 : (t1050.length : Int) > 8
         ·rw [if_pos c27] at H
          have c27b0 : decide (8 < (t1050.length : Int)) = true := decide_eq_true c27
          have c27b1 : decide (8 < t1050.length) = true := decide_eq_true (by omega)
          clear c27
          exact absurd ((Option.some.inj H).trans HR1.out) (by decide)
         ·rw [if_neg c27] at H
          have c27b0 : decide (8 < (t1050.length : Int)) = false := decide_eq_false c27
          have c27b1 : decide (8 < t1050.length) = false := decide_eq_false (by omega)
          clear c27
          by_cases c28 : 0 ≤ x6_1
          ·rw [if_pos c28] at H
           have c28b0 : decide (0 ≤ x6_1) = true := decide_eq_true c28
           clear c28
           by_cases c29 : x6_1 < (y1038.length : Int)
           ·rw [if_pos c29] at H
            have c29b0 : decide (x6_1 < (y1038.length : Int)) = true := decide_eq_true c29
            clear c29
            replace H := Option.bind_eq_some_iff.mp H
            obtain ⟨t1055, A300, H⟩ := H
            replace H : (if t1055 = true then ((spec_PathOk.f k1 t1041 (y1038.length : Int) x6_1 ((rd_T70 y1038 x6_1).f0) ((rd_T70 y1038 x6_1).f1) ((rd_T70 y1038 x6_1).f2.f0) ((rd_T70 y1038 x6_1).f2.f1) ((rd_T70 y1038 x6_1).f2.f2) ((rd_T70 y1038 x6_1).f2.f3) t1050).bind fun t1057 => (if t1057 = true then (laws_FnTree.l0 k1 y1038 t1041 (y1038.length : Int) (wrap64 (x6_1 + 1))) else (some false))) else (some false)) = some r := H
            have A30 := Aside0.mk A300
            clear A300
            by_cases c31 : t1055 = true
            ·subst c31
             have H1 : ((spec_PathOk.f k1 t1041 (y1038.length : Int) x6_1 ((rd_T70 y1038 x6_1).f0) ((rd_T70 y1038 x6_1).f1) ((rd_T70 y1038 x6_1).f2.f0) ((rd_T70 y1038 x6_1).f2.f1) ((rd_T70 y1038 x6_1).f2.f2) ((rd_T70 y1038 x6_1).f2.f3) t1050).bind fun t1057 => (if t1057 = true then (laws_FnTree.l0 k1 y1038 t1041 (y1038.length : Int) (wrap64 (x6_1 + 1))) else (some false))) = some r := by rw [if_pos rfl] at H; exact H
             clear H
             have H := H1
             clear H1
             replace H := Option.bind_eq_some_iff.mp H
             obtain ⟨t1057, A320, H⟩ := H
             replace H : (if t1057 = true then (laws_FnTree.l0 k1 y1038 t1041 (y1038.length : Int) (wrap64 (x6_1 + 1))) else (some false)) = some r := H
             have A32 := Aside0.mk A320
             clear A320
             by_cases c33 : t1057 = true
             ·subst c33
              have H1 : (laws_FnTree.l0 k1 y1038 t1041 (y1038.length : Int) (wrap64 (x6_1 + 1))) = some r := by rw [if_pos rfl] at H; exact H
              clear H
              have H := H1
              clear H1
              have H' := Aside0.mk H
              clear H
              go_wp2_with (first | ((with_reducible refine gate_callee (f := 27) rfl ?_); refine goesL_ (some 34) rfl rfl Tryd.func27 (by kernel_rfl) rfl #[.slice Ao22 y1038.length co22, .int .i64 x6_1] rfl lm_ ?_; (with_reducible refine (impl_PathOf.calls k1 _ _ y1038 x6_1 t1050 true _ ?side1 ?side2 ?side3 A25.out).mono ?_); (case side1 => repeat (first | exact (Kd.R_reads' HO_3.out).2.2 | (with_reducible refine Kd.C_alloc ?_ _) | (with_reducible refine Kd.C_drewN ?_ _) | (with_reducible refine Kd.C_drew ?_))); (case side2 => exact (Kd.R_reads' HO_3.out).2.1); (case side3 => exact tab_of HT.out bl_); rintro e w34 ⟨v1052, rfl, ho0, hb⟩; refine ⟨_, rfl, ?_⟩; have n0_ := Aside0.mk (Kd.R_below (ra_ HO_3.out) hb); have n1_ := Aside0.mk (Kd.R_lower ho0 (below_size bl_)); have n2_ := Aside0.mk (below_step bl_ hb); clear HO_3; clear HB; have HO_3 := n0_; have HO1053 := n1_; have HB := n2_; clear n0_ n1_ n2_; (try clear hb); (try clear hb2); (try clear hk); (try clear hi); (try clear ho0); obtain ⟨Ao35, co35, eo35⟩ := Kd.R_slice HO1053.out; subst eo35; have p1054 : 0 ≤ (x6_1 : Int) := of_decide_eq_true as_; have q1054 : x6_1 < (y1038.length : Int) := of_decide_eq_true as_; obtain ⟨ad1054, e1054, hx1054_0, hx1054_1, hx1054_2, hx1054_3, hx1054_4, hx1054_5⟩ := at_T70 (Kd.R_reads' HO_3.out).2.2 x6_1 p1054 q1054; cases e1054; replace p1054 := eq_true p1054; replace q1054 := eq_true q1054) | (go_at_call 53; (with_reducible refine (impl_PathOk.calls k1 t1041 (y1038.length : Int) x6_1 ((rd_T70 y1038 x6_1).f0) ((rd_T70 y1038 x6_1).f1) ((rd_T70 y1038 x6_1).f2.f0) ((rd_T70 y1038 x6_1).f2.f1) ((rd_T70 y1038 x6_1).f2.f2) ((rd_T70 y1038 x6_1).f2.f3) _ _ t1050 true _ ?side1 ?side2 ?side3 A30.out).mono ?_); (case side1 => repeat (first | exact (Kd.R_reads' HO1053.out).2.2 | (with_reducible refine Kd.C_alloc ?_ _) | (with_reducible refine Kd.C_drewN ?_ _) | (with_reducible refine Kd.C_drew ?_))); (case side2 => exact (Kd.R_reads' HO1053.out).2.1); (case side3 => exact tab_of HT.out bl_); rintro e w36 ⟨rfl, hb⟩; have n0_ := Aside0.mk (Kd.R_below (ra_ HO_3.out) hb); have n1_ := Aside0.mk (Kd.R_below (ra_ HO1053.out) hb); have n2_ := Aside0.mk (below_step bl_ hb); clear HO_3; clear HO1053; clear HB; have HO_3 := n0_; have HO1053 := n1_; have HB := n2_; clear n0_ n1_ n2_; (try clear hb); (try clear hb2); (try clear hk); (try clear hi); have p1056 : 0 ≤ (x6_1 : Int) := of_decide_eq_true as_; have q1056 : x6_1 < (y1038.length : Int) := of_decide_eq_true as_; obtain ⟨ad1056, e1056, hx1056_0, hx1056_1, hx1056_2, hx1056_3, hx1056_4, hx1056_5⟩ := at_T70 (Kd.R_reads' HO_3.out).2.2 x6_1 p1056 q1056; obtain rfl : ad1054 = ad1056 := (by injection e1056); replace p1056 := eq_true p1056; replace q1056 := eq_true q1056) | (go_at_call 54; (with_reducible refine (spec_PathOk.calls k1 t1041 (y1038.length : Int) x6_1 ((rd_T70 y1038 x6_1).f0) ((rd_T70 y1038 x6_1).f1) ((rd_T70 y1038 x6_1).f2.f0) ((rd_T70 y1038 x6_1).f2.f1) ((rd_T70 y1038 x6_1).f2.f2) ((rd_T70 y1038 x6_1).f2.f3) _ _ t1050 true _ ?side1 ?side2 A32.out).mono ?_); (case side1 => repeat (first | exact (Kd.R_reads' HO1053.out).2.2 | (with_reducible refine Kd.C_alloc ?_ _) | (with_reducible refine Kd.C_drewN ?_ _) | (with_reducible refine Kd.C_drew ?_))); (case side2 => exact (Kd.R_reads' HO1053.out).2.1); rintro e w37 ⟨rfl, hb⟩; have n0_ := Aside0.mk (Kd.R_below (ra_ HO_3.out) hb); have n1_ := Aside0.mk (Kd.R_below (ra_ HO1053.out) hb); have n2_ := Aside0.mk (below_step bl_ hb); clear HO_3; clear HO1053; clear HB; have HO_3 := n0_; have HO1053 := n1_; have HB := n2_; clear n0_ n1_ n2_; (try clear hb); (try clear hb2); (try clear hk); (try clear hi)))
              go_roundg k1
              case measure => have := HK1.out; omega
              case rel => exact ⟨(wrap64 (x6_1 + 1)), (by first | rfl | (simp; done) | (simp [*]; done)), H', ⟨by have := HK1.out; omega⟩, ⟨ra_ HO_3.out⟩, ⟨bl_⟩⟩
             ·replace c33 := Bool.eq_false_iff.mpr c33
              subst c33
              have H1 : (some false) = some r := by rw [if_neg (show ¬ (false = true) by decide)] at H; exact H
              clear H
              have H := H1
              clear H1
              exact absurd ((Option.some.inj H).trans HR1.out) (by decide)
            ·replace c31 := Bool.eq_false_iff.mpr c31
             subst c31
             have H1 : (some false) = some r := by rw [if_neg (show ¬ (false = true) by decide)] at H; exact H
             clear H
             have H := H1
             clear H1
             exact absurd ((Option.some.inj H).trans HR1.out) (by decide)
           ·rw [if_neg c29] at H
            exact absurd H (by simp)
          ·rw [if_neg c28] at H
           exact absurd H (by simp)
        ·replace c26 := Bool.eq_false_iff.mpr c26
         subst c26
         have H1 : (some false) = some r := by rw [if_neg (show ¬ (false = true) by decide)] at H; exact H
         clear H
         have H := H1
         clear H1
         exact absurd ((Option.some.inj H).trans HR1.out) (by decide)
       ·rw [if_neg c24] at H
        have c24b0 : decide (x6_1 < (y1038.length : Int)) = false := decide_eq_false c24
        clear c24
        replace H := Option.bind_eq_some_iff.mp H
        obtain ⟨⟨t1042, t1043⟩, A380, H⟩ := H
        replace H : (if t1043 = true then (some false) else (if (t1041.size : Int) = 32 then (if (y1038.length : Int) = 1 then (if 0 < (y1038.length : Int) then ((impl_LeafOf.f k1 ((rd_T70 y1038 0).f0) ((rd_T70 y1038 0).f1) ((rd_T70 y1038 0).f2.f0) ((rd_T70 y1038 0).f2.f1) ((rd_T70 y1038 0).f2.f2) ((rd_T70 y1038 0).f2.f3)).bind fun t1047 => (if t1041.toList = t1047.toList then (if (y1038.length : Int) > 0 then (some true) else ((spec_Digest.f (⟨#[]⟩ : ByteArray)).bind fun t1048 => (some (t1041.toList == t1048.toList)))) else (some false))) else (none)) else (if (y1038.length : Int) > 0 then (some true) else ((spec_Digest.f (⟨#[]⟩ : ByteArray)).bind fun t1049 => (some (t1041.toList == t1049.toList))))) else (some false))) = some r := H
        have A38 := Aside0.mk A380
        clear A380
        by_cases c39 : t1043 = true
        ·subst c39
         have H1 : (some false) = some r := by rw [if_pos rfl] at H; exact H
         clear H
         have H := H1
         clear H1
         exact absurd ((Option.some.inj H).trans HR1.out) (by decide)
        ·replace c39 := Bool.eq_false_iff.mpr c39
         subst c39
         have H1 : (if (t1041.size : Int) = 32 then (if (y1038.length : Int) = 1 then (if 0 < (y1038.length : Int) then ((impl_LeafOf.f k1 ((rd_T70 y1038 0).f0) ((rd_T70 y1038 0).f1) ((rd_T70 y1038 0).f2.f0) ((rd_T70 y1038 0).f2.f1) ((rd_T70 y1038 0).f2.f2) ((rd_T70 y1038 0).f2.f3)).bind fun t1047 => (if t1041.toList = t1047.toList then (if (y1038.length : Int) > 0 then (some true) else ((spec_Digest.f (⟨#[]⟩ : ByteArray)).bind fun t1048 => (some (t1041.toList == t1048.toList)))) else (some false))) else (none)) else (if (y1038.length : Int) > 0 then (some true) else ((spec_Digest.f (⟨#[]⟩ : ByteArray)).bind fun t1049 => (some (t1041.toList == t1049.toList))))) else (some false)) = some r := by rw [if_neg (show ¬ (false = true) by decide)] at H; exact H
         clear H
         have H := H1
         clear H1
         by_cases c40 : (t1041.size : Int) = 32
         ·rw [if_pos c40] at H
          have c40b0 : ((t1041.size : Int) == 32) = true := beq_iff_eq.mpr c40
          have c40b1 : ((t1041.size : Int) != 32) = false := bne_eq_false_iff_eq.mpr c40
          clear c40
          by_cases c41 : (y1038.length : Int) = 1
          ·rw [if_pos c41] at H
           have c41b0 : ((y1038.length : Int) == 1) = true := beq_iff_eq.mpr c41
           have c41b1 : ((y1038.length : Int) != 1) = false := bne_eq_false_iff_eq.mpr c41
           clear c41
           by_cases c42 : 0 < (y1038.length : Int)
           ·rw [if_pos c42] at H
            have c42b0 : decide (0 < (y1038.length : Int)) = true := decide_eq_true c42
            have c42b1 : decide (0 < y1038.length) = true := decide_eq_true (by omega)
            clear c42
            replace H := Option.bind_eq_some_iff.mp H
            obtain ⟨t1047, A430, H⟩ := H
            replace H : (if t1041.toList = t1047.toList then (if (y1038.length : Int) > 0 then (some true) else ((spec_Digest.f (⟨#[]⟩ : ByteArray)).bind fun t1048 => (some (t1041.toList == t1048.toList)))) else (some false)) = some r := H
            have A43 := Aside0.mk A430
            clear A430
            by_cases c44 : t1041.toList = t1047.toList
            ·rw [if_pos c44] at H
             have c44b0 : (t1041.toList == t1047.toList) = true := beq_iff_eq.mpr c44
             have c44b1 : (t1041.toList != t1047.toList) = false := bne_eq_false_iff_eq.mpr c44
             clear c44
             by_cases c45 : (y1038.length : Int) > 0
             ·rw [if_pos c45] at H
              have c45b0 : decide (0 < (y1038.length : Int)) = true := decide_eq_true c45
              have c45b1 : decide (0 < y1038.length) = true := decide_eq_true (by omega)
              clear c45
              obtain rfl := Option.some.inj H
              go_wp2_with (first | ((with_reducible refine gate_callee (f := 27) rfl ?_); refine goesL_ (some 71) rfl rfl Tryd.func27 (by kernel_rfl) rfl #[.slice Ao22 y1038.length co22, .int .i64 (y1038.length : Int)] rfl lm_ ?_; (with_reducible refine (impl_PathOf.calls k1 _ _ y1038 (y1038.length : Int) t1042 false _ ?side1 ?side2 ?side3 A38.out).mono ?_); (case side1 => repeat (first | exact (Kd.R_reads' HO_3.out).2.2 | (with_reducible refine Kd.C_alloc ?_ _) | (with_reducible refine Kd.C_drewN ?_ _) | (with_reducible refine Kd.C_drew ?_))); (case side2 => exact (Kd.R_reads' HO_3.out).2.1); (case side3 => exact tab_of HT.out bl_); rintro e w46 ⟨v1044, rfl, ho0, hb⟩; refine ⟨_, rfl, ?_⟩; have n0_ := Aside0.mk (Kd.R_below (ra_ HO_3.out) hb); have n1_ := Aside0.mk (Kd.R_lower ho0 (below_size bl_)); have n2_ := Aside0.mk (below_step bl_ hb); clear HO_3; clear HB; have HO_3 := n0_; have HO1045 := n1_; have HB := n2_; clear n0_ n1_ n2_; (try clear hb); (try clear hb2); (try clear hk); (try clear hi); (try clear ho0); have p1046 : 0 ≤ (0 : Int) := (by omega); have q1046 : 0 < (y1038.length : Int) := of_decide_eq_true as_; obtain ⟨ad1046, e1046, hx1046_0, hx1046_1, hx1046_2, hx1046_3, hx1046_4, hx1046_5⟩ := at_T70 (Kd.R_reads' HO_3.out).2.2 0 p1046 q1046; cases e1046; have qi1046 : (0 < y1038.length) = True := eq_true (by omega); (try rw [show ((0 : Int)).toNat = 0 from rfl] at hx1046_0); (try rw [show 0 * 6 = 0 from rfl] at hx1046_0); (try rw [Addr.add_zero'] at hx1046_0); (try rw [show ((0 : Int)).toNat = 0 from rfl] at hx1046_1); (try rw [show 0 * 6 = 0 from rfl] at hx1046_1); (try rw [Addr.add_zero'] at hx1046_1); (try rw [show ((0 : Int)).toNat = 0 from rfl] at hx1046_2); (try rw [show 0 * 6 = 0 from rfl] at hx1046_2); (try rw [Addr.add_zero'] at hx1046_2); (try rw [show ((0 : Int)).toNat = 0 from rfl] at hx1046_3); (try rw [show 0 * 6 = 0 from rfl] at hx1046_3); (try rw [Addr.add_zero'] at hx1046_3); (try rw [show ((0 : Int)).toNat = 0 from rfl] at hx1046_4); (try rw [show 0 * 6 = 0 from rfl] at hx1046_4); (try rw [Addr.add_zero'] at hx1046_4); (try rw [show ((0 : Int)).toNat = 0 from rfl] at hx1046_5); (try rw [show 0 * 6 = 0 from rfl] at hx1046_5); (try rw [Addr.add_zero'] at hx1046_5); replace p1046 := eq_true p1046; replace q1046 := eq_true q1046) | (go_at_call 55; (with_reducible refine (impl_LeafOf.calls k1 ((rd_T70 y1038 0).f0) ((rd_T70 y1038 0).f1) ((rd_T70 y1038 0).f2.f0) ((rd_T70 y1038 0).f2.f1) ((rd_T70 y1038 0).f2.f2) ((rd_T70 y1038 0).f2.f3) t1047 _ ?side1 A43.out).mono ?_); (case side1 => exact tab_of HT.out bl_); rintro e w47 ⟨rfl, hb⟩; have n0_ := Aside0.mk (Kd.R_below (ra_ HO_3.out) hb); have n1_ := Aside0.mk (Kd.R_below (ra_ HO1045.out) hb); have n2_ := Aside0.mk (below_step bl_ hb); clear HO_3; clear HO1045; clear HB; have HO_3 := n0_; have HO1045 := n1_; have HB := n2_; clear n0_ n1_ n2_; (try clear hb); (try clear hb2); (try clear hk); (try clear hi)))
              go_ret
              exact ⟨by first | rfl | (simp [errW_none, errW_some] <;> rfl) | (simp [*, errW_none, errW_some] <;> rfl) | exact False.elim (Bool.noConfusion ((decide_eq_true (of_eq_true (by assumption))).symm.trans (by assumption))), bl_⟩
             ·rw [if_neg c45] at H
              have c45b0 : decide (0 < (y1038.length : Int)) = false := decide_eq_false c45
              have c45b1 : decide (0 < y1038.length) = false := decide_eq_false (by omega)
              clear c45
              replace H := Option.bind_eq_some_iff.mp H
              obtain ⟨t1048, A480, H⟩ := H
              replace H : (some (t1041.toList == t1048.toList)) = some r := H
              have A48 := Aside0.mk A480
              clear A480
              obtain rfl := Option.some.inj H
              go_wp2_with (first | ((with_reducible refine gate_callee (f := 27) rfl ?_); refine goesL_ (some 71) rfl rfl Tryd.func27 (by kernel_rfl) rfl #[.slice Ao22 y1038.length co22, .int .i64 (y1038.length : Int)] rfl lm_ ?_; (with_reducible refine (impl_PathOf.calls k1 _ _ y1038 (y1038.length : Int) t1042 false _ ?side1 ?side2 ?side3 A38.out).mono ?_); (case side1 => repeat (first | exact (Kd.R_reads' HO_3.out).2.2 | (with_reducible refine Kd.C_alloc ?_ _) | (with_reducible refine Kd.C_drewN ?_ _) | (with_reducible refine Kd.C_drew ?_))); (case side2 => exact (Kd.R_reads' HO_3.out).2.1); (case side3 => exact tab_of HT.out bl_); rintro e w49 ⟨v1044, rfl, ho0, hb⟩; refine ⟨_, rfl, ?_⟩; have n0_ := Aside0.mk (Kd.R_below (ra_ HO_3.out) hb); have n1_ := Aside0.mk (Kd.R_lower ho0 (below_size bl_)); have n2_ := Aside0.mk (below_step bl_ hb); clear HO_3; clear HB; have HO_3 := n0_; have HO1045 := n1_; have HB := n2_; clear n0_ n1_ n2_; (try clear hb); (try clear hb2); (try clear hk); (try clear hi); (try clear ho0); have p1046 : 0 ≤ (0 : Int) := (by omega); have q1046 : 0 < (y1038.length : Int) := of_decide_eq_true as_; obtain ⟨ad1046, e1046, hx1046_0, hx1046_1, hx1046_2, hx1046_3, hx1046_4, hx1046_5⟩ := at_T70 (Kd.R_reads' HO_3.out).2.2 0 p1046 q1046; cases e1046; have qi1046 : (0 < y1038.length) = True := eq_true (by omega); (try rw [show ((0 : Int)).toNat = 0 from rfl] at hx1046_0); (try rw [show 0 * 6 = 0 from rfl] at hx1046_0); (try rw [Addr.add_zero'] at hx1046_0); (try rw [show ((0 : Int)).toNat = 0 from rfl] at hx1046_1); (try rw [show 0 * 6 = 0 from rfl] at hx1046_1); (try rw [Addr.add_zero'] at hx1046_1); (try rw [show ((0 : Int)).toNat = 0 from rfl] at hx1046_2); (try rw [show 0 * 6 = 0 from rfl] at hx1046_2); (try rw [Addr.add_zero'] at hx1046_2); (try rw [show ((0 : Int)).toNat = 0 from rfl] at hx1046_3); (try rw [show 0 * 6 = 0 from rfl] at hx1046_3); (try rw [Addr.add_zero'] at hx1046_3); (try rw [show ((0 : Int)).toNat = 0 from rfl] at hx1046_4); (try rw [show 0 * 6 = 0 from rfl] at hx1046_4); (try rw [Addr.add_zero'] at hx1046_4); (try rw [show ((0 : Int)).toNat = 0 from rfl] at hx1046_5); (try rw [show 0 * 6 = 0 from rfl] at hx1046_5); (try rw [Addr.add_zero'] at hx1046_5); replace p1046 := eq_true p1046; replace q1046 := eq_true q1046) | (go_at_call 55; (with_reducible refine (impl_LeafOf.calls k1 ((rd_T70 y1038 0).f0) ((rd_T70 y1038 0).f1) ((rd_T70 y1038 0).f2.f0) ((rd_T70 y1038 0).f2.f1) ((rd_T70 y1038 0).f2.f2) ((rd_T70 y1038 0).f2.f3) t1047 _ ?side1 A43.out).mono ?_); (case side1 => exact tab_of HT.out bl_); rintro e w50 ⟨rfl, hb⟩; have n0_ := Aside0.mk (Kd.R_below (ra_ HO_3.out) hb); have n1_ := Aside0.mk (Kd.R_below (ra_ HO1045.out) hb); have n2_ := Aside0.mk (below_step bl_ hb); clear HO_3; clear HO1045; clear HB; have HO_3 := n0_; have HO1045 := n1_; have HB := n2_; clear n0_ n1_ n2_; (try clear hb); (try clear hb2); (try clear hk); (try clear hi)) | (go_at_call 56; (with_reducible refine (spec_Digest.calls (⟨#[]⟩ : ByteArray) t1048 _ A48.out).mono ?_); rintro e w51 ⟨rfl, hb⟩; have n0_ := Aside0.mk (Kd.R_below (ra_ HO_3.out) hb); have n1_ := Aside0.mk (Kd.R_below (ra_ HO1045.out) hb); have n2_ := Aside0.mk (below_step bl_ hb); clear HO_3; clear HO1045; clear HB; have HO_3 := n0_; have HO1045 := n1_; have HB := n2_; clear n0_ n1_ n2_; (try clear hb); (try clear hb2); (try clear hk); (try clear hi)))
              go_ret
              exact ⟨by first | rfl | (simp [errW_none, errW_some] <;> rfl) | (simp [*, errW_none, errW_some] <;> rfl) | exact False.elim (Bool.noConfusion ((decide_eq_true (of_eq_true (by assumption))).symm.trans (by assumption))), bl_⟩
            ·rw [if_neg c44] at H
             have c44b0 : (t1041.toList == t1047.toList) = false := beq_eq_false_iff_ne.mpr c44
             have c44b1 : (t1041.toList != t1047.toList) = true := bne_iff_ne.mpr c44
             exact absurd ((Option.some.inj H).trans HR1.out) (by decide)
           ·rw [if_neg c42] at H
            exact absurd H (by simp)
          ·rw [if_neg c41] at H
           have c41b0 : ((y1038.length : Int) == 1) = false := beq_eq_false_iff_ne.mpr c41
           have c41b1 : ((y1038.length : Int) != 1) = true := bne_iff_ne.mpr c41
           by_cases c52 : (y1038.length : Int) > 0
           ·rw [if_pos c52] at H
            have c52b0 : decide (0 < (y1038.length : Int)) = true := decide_eq_true c52
            have c52b1 : decide (0 < y1038.length) = true := decide_eq_true (by omega)
            clear c52
            obtain rfl := Option.some.inj H
            go_wp2_with (first | ((with_reducible refine gate_callee (f := 27) rfl ?_); refine goesL_ (some 71) rfl rfl Tryd.func27 (by kernel_rfl) rfl #[.slice Ao22 y1038.length co22, .int .i64 (y1038.length : Int)] rfl lm_ ?_; (with_reducible refine (impl_PathOf.calls k1 _ _ y1038 (y1038.length : Int) t1042 false _ ?side1 ?side2 ?side3 A38.out).mono ?_); (case side1 => repeat (first | exact (Kd.R_reads' HO_3.out).2.2 | (with_reducible refine Kd.C_alloc ?_ _) | (with_reducible refine Kd.C_drewN ?_ _) | (with_reducible refine Kd.C_drew ?_))); (case side2 => exact (Kd.R_reads' HO_3.out).2.1); (case side3 => exact tab_of HT.out bl_); rintro e w53 ⟨v1044, rfl, ho0, hb⟩; refine ⟨_, rfl, ?_⟩; have n0_ := Aside0.mk (Kd.R_below (ra_ HO_3.out) hb); have n1_ := Aside0.mk (Kd.R_lower ho0 (below_size bl_)); have n2_ := Aside0.mk (below_step bl_ hb); clear HO_3; clear HB; have HO_3 := n0_; have HO1045 := n1_; have HB := n2_; clear n0_ n1_ n2_; (try clear hb); (try clear hb2); (try clear hk); (try clear hi); (try clear ho0)))
            go_ret
            exact ⟨by first | rfl | (simp [errW_none, errW_some] <;> rfl) | (simp [*, errW_none, errW_some] <;> rfl) | exact False.elim (Bool.noConfusion ((decide_eq_true (of_eq_true (by assumption))).symm.trans (by assumption))), bl_⟩
           ·rw [if_neg c52] at H
            have c52b0 : decide (0 < (y1038.length : Int)) = false := decide_eq_false c52
            have c52b1 : decide (0 < y1038.length) = false := decide_eq_false (by omega)
            clear c52
            replace H := Option.bind_eq_some_iff.mp H
            obtain ⟨t1049, A540, H⟩ := H
            replace H : (some (t1041.toList == t1049.toList)) = some r := H
            have A54 := Aside0.mk A540
            clear A540
            obtain rfl := Option.some.inj H
            go_wp2_with (first | ((with_reducible refine gate_callee (f := 27) rfl ?_); refine goesL_ (some 71) rfl rfl Tryd.func27 (by kernel_rfl) rfl #[.slice Ao22 y1038.length co22, .int .i64 (y1038.length : Int)] rfl lm_ ?_; (with_reducible refine (impl_PathOf.calls k1 _ _ y1038 (y1038.length : Int) t1042 false _ ?side1 ?side2 ?side3 A38.out).mono ?_); (case side1 => repeat (first | exact (Kd.R_reads' HO_3.out).2.2 | (with_reducible refine Kd.C_alloc ?_ _) | (with_reducible refine Kd.C_drewN ?_ _) | (with_reducible refine Kd.C_drew ?_))); (case side2 => exact (Kd.R_reads' HO_3.out).2.1); (case side3 => exact tab_of HT.out bl_); rintro e w55 ⟨v1044, rfl, ho0, hb⟩; refine ⟨_, rfl, ?_⟩; have n0_ := Aside0.mk (Kd.R_below (ra_ HO_3.out) hb); have n1_ := Aside0.mk (Kd.R_lower ho0 (below_size bl_)); have n2_ := Aside0.mk (below_step bl_ hb); clear HO_3; clear HB; have HO_3 := n0_; have HO1045 := n1_; have HB := n2_; clear n0_ n1_ n2_; (try clear hb); (try clear hb2); (try clear hk); (try clear hi); (try clear ho0)) | (go_at_call 56; (with_reducible refine (spec_Digest.calls (⟨#[]⟩ : ByteArray) t1049 _ A54.out).mono ?_); rintro e w56 ⟨rfl, hb⟩; have n0_ := Aside0.mk (Kd.R_below (ra_ HO_3.out) hb); have n1_ := Aside0.mk (Kd.R_below (ra_ HO1045.out) hb); have n2_ := Aside0.mk (below_step bl_ hb); clear HO_3; clear HO1045; clear HB; have HO_3 := n0_; have HO1045 := n1_; have HB := n2_; clear n0_ n1_ n2_; (try clear hb); (try clear hb2); (try clear hk); (try clear hi)))
            go_ret
            exact ⟨by first | rfl | (simp [errW_none, errW_some] <;> rfl) | (simp [*, errW_none, errW_some] <;> rfl) | exact False.elim (Bool.noConfusion ((decide_eq_true (of_eq_true (by assumption))).symm.trans (by assumption))), bl_⟩
         ·rw [if_neg c40] at H
          have c40b0 : ((t1041.size : Int) == 32) = false := beq_eq_false_iff_ne.mpr c40
          have c40b1 : ((t1041.size : Int) != 32) = true := bne_iff_ne.mpr c40
          exact absurd ((Option.some.inj H).trans HR1.out) (by decide)
    ·rw [if_neg c8] at H
     exact absurd H (by simp)
   ·rw [if_neg c6] at H
    exact absurd H (by simp)
  ·rw [if_neg c5] at H
   exact absurd H (by simp)

end Go.Proofs.YtdhjolglbcoijaaDoor.PA

namespace Go.Proofs.YtdhjolglbcoijaaDoor.Op
open Go.RowKit Go.Proofs.YtdhjolglbcoijaaDoorW.PrintWords
set_option linter.unusedVariables false
set_option linter.unusedSimpArgs false

/-- A whole number is one of its kind. -/
abbrev OkInt (k : IntKind) (n : Int) : Prop := (Lit.int k n).wf = true

/-- A value of type t, read as data, is one of the kind d, with G. -/
structure Opens (P : Program) {α : Type} (d : Kd α) (t : TypeId) (G : α → Prop) : Prop where
 sz : d.sz = P.cellsOf t
 op : ∀ {H : Type} {enc : TypeId × Value → H} {w : World} {n : Nat} {cs : List Value} {x : DataW H × List MemPlace},
  DataW.trod enc P w 0 (fun _ => true) true n t cs = some x → ∃ a, d.K w a cs ∧ G a

theorem opInt {P : Program} {t : TypeId} {k : IntKind} (hu : P.underlying t = some (.int k)) (hc : P.cellsOf t = 1) : Opens P (Kd.int k) t (fun n => (Lit.int k n).wf = true) where
 sz := by rw [hc]; rfl
 op := fun h => by
  obtain ⟨n, rfl, _, hw⟩ := DataW.trod_int hu h
  exact ⟨n, rfl, hw⟩

theorem opBool {P : Program} {t : TypeId} (hu : P.underlying t = some .bool) (hc : P.cellsOf t = 1) : Opens P Kd.bool t (fun _ => True) where
 sz := by rw [hc]; rfl
 op := fun h => by
  obtain ⟨n, rfl, _⟩ := DataW.trod_bool hu h
  exact ⟨n, rfl, trivial⟩

theorem opStr {P : Program} {t : TypeId} (hu : P.underlying t = some .string) (hc : P.cellsOf t = 1) : Opens P Kd.string t (fun s => s.size ≤ 9223372036854775807) where
 sz := by rw [hc]; rfl
 op := fun h => by
  obtain ⟨s, rfl, _, hs⟩ := DataW.trod_string hu h
  exact ⟨s, rfl, hs⟩

theorem chooseList {α : Type} {Q : Nat → α → Prop} : ∀ (n : Nat), (∀ i, i < n → ∃ a, Q i a) → ∃ xs : List α, xs.length = n ∧ ∀ i a, xs[i]? = some a → Q i a
 | 0, _ => ⟨[], rfl, fun i a h => by simp at h⟩
 | n + 1, h => by
  obtain ⟨xs, hl, hx⟩ := chooseList n (fun i hi => h i (by omega))
  obtain ⟨a, ha⟩ := h n (by omega)
  refine ⟨xs ++ [a], by simp [hl], fun i b hb => ?_⟩
  by_cases hi : i < n
  ·rw [List.getElem?_append_left (by omega)] at hb
   exact hx i b hb
  ·rw [List.getElem?_append_right (by omega), hl] at hb
   have : i - n = 0 := by
    rcases Nat.eq_zero_or_pos (i - n) with h0 | h0
    ·exact h0
    ·rw [List.getElem?_eq_none (by simp; omega)] at hb
     simp at hb
   rw [this] at hb
   have hin : i = n := by omega
   simp at hb
   rw [hin, ← hb]
   exact ha

theorem cellsAt {w : World} {a : Addr} {n : Nat} {cs : List Value} (h : w.cells? 0 a n = some cs) : cs.length = n ∧ ∀ i u, cs[i]? = some u → w.cell? (a.add i) = some u := by
 unfold World.cells? at h
 rw [if_pos (Nat.zero_le _)] at h
 have hl : cs.length = n := by simpa using mapM_some_length h
 refine ⟨hl, fun i u hu => ?_⟩
 have hi : i < n := by
  rcases Nat.lt_or_ge i n with h1 | h1
  ·exact h1
  ·rw [List.getElem?_eq_none (by omega)] at hu
   simp at hu
 have := mapM_some_get h i i (by simp [hi])
 rw [this, hu]

theorem opSlice {P : Program} {α : Type} {d : Kd α} {t e : TypeId} {G : α → Prop} (hu : P.underlying t = some (.slice e)) (hc : P.cellsOf t = 1) (E : Nat) (o : Opens P d e G) :
 Opens P (Kd.slice E d) t (fun l => (∀ a ∈ l, G a) ∧ l.length ≤ 9223372036854775807) where
 sz := by rw [hc]; rfl
 op := fun {H enc w n cs x} h => by
  rcases DataW.trod_slice hu h with ⟨rfl, _⟩ | ⟨a, len, cap, elems, rest, m, _, rfl, _, _, hl, hcap, hlen, hel, _⟩
  ·exact ⟨[], ⟨none, 0, rfl, Nat.le_refl _, rfl, by simp, fun h0 => by simp at h0⟩, fun a ha => by simp at ha, by simp⟩
  ·have hcap' : cap ≤ 9223372036854775807 := hcap
   have key : ∀ i, i < len → ∃ b, ∃ c, d.K w b c ∧ G b ∧ c.length = d.sz ∧ ∀ j u, c[j]? = some u → w.cell? ((a.add (i * d.sz)).add j) = some u := by
    intro i hi
    have h1 := hel i hi
    rw [List.getElem?_eq_getElem (by omega)] at h1
    obtain ⟨cs', h2, h3⟩ := Option.bind_eq_some_iff.1 h1
    obtain ⟨b, hK, hG⟩ := o.op h3
    obtain ⟨h4, h5⟩ := cellsAt h2
    rw [← o.sz] at h5
    exact ⟨b, cs', hK, hG, d.K_len hK, h5⟩
   obtain ⟨xs, hx, hall⟩ := chooseList len key
   refine ⟨xs, ⟨some a, cap, by rw [hx], by omega, rfl, by omega, fun _ => ⟨a, rfl, fun j p hp => ?_⟩⟩, fun b hb => ?_, by omega⟩
   ·obtain ⟨c, hK, _, hs, hcell⟩ := hall j p hp
    exact ⟨c, hs, hK, fun i u hiu => by rw [← Addr.add_add]; exact hcell i u hiu⟩
   ·obtain ⟨i, hi, rfl⟩ := List.getElem_of_mem hb
    obtain ⟨_, _, hG, _⟩ := hall i _ (List.getElem?_eq_getElem hi)
    exact hG

/-- A struct's fields from one on, one behind the other. -/
structure Fields (P : Program) (off : Nat) (fs : List Field) {α : Type} (d : Kd α) (G : α → Prop) : Prop where
 op : ∀ {H : Type} {enc : TypeId × Value → H} {w : World} {n : Nat} {cs : List Value}, cs.length = off + d.sz →
  (∀ f ∈ fs, ∃ y, DataW.trod enc P w 0 (fun _ => true) true n f.type ((cs.drop f.offset).take (P.cellsOf f.type)) = some y) → ∃ a, d.K w a (cs.drop off) ∧ G a

theorem fieldsOne {P : Program} {off : Nat} {f : Field} {α : Type} {d : Kd α} {G : α → Prop} (o : Opens P d f.type G) (hf : f.offset = off) : Fields P off [f] d G where
 op := fun {H enc w n cs} hl h => by
  obtain ⟨y, hy⟩ := h f (by simp)
  rw [hf, List.take_of_length_le (by rw [← o.sz]; simp; omega)] at hy
  exact o.op hy

theorem fieldsCons {P : Program} {off : Nat} {f : Field} {fs : List Field} {α β : Type} {d : Kd α} {d' : Kd β} {G : α → Prop} {G' : β → Prop} (o : Opens P d f.type G) (hf : f.offset = off) (r : Fields P (off + d.sz) fs d' G') :
 Fields P off (f :: fs) (Kd.pair d d') (fun x => G x.1 ∧ G' x.2) where
 op := fun {H enc w n cs} hl h => by
  have hl' : cs.length = off + (d.sz + d'.sz) := hl
  obtain ⟨y, hy⟩ := h f (by simp)
  rw [hf] at hy
  obtain ⟨a, ha, hg⟩ := o.op hy
  obtain ⟨b, hb, hg'⟩ := r.op (by omega) (fun g hg => h g (by simp [hg]))
  refine ⟨(a, b), ⟨_, _, ?_, ha, hb⟩, hg, hg'⟩
  rw [← o.sz, show cs.drop (off + d.sz) = (cs.drop off).drop d.sz from (List.drop_drop ..).symm]
  exact (List.take_append_drop _ _).symm

theorem opStruct {P : Program} {t : TypeId} {fs : Array Field} {α β : Type} {d : Kd α} {f : β → α} {G : α → Prop} {G' : β → Prop} (hu : P.underlying t = some (.struct fs)) (hc : P.cellsOf t = d.sz)
 (r : Fields P 0 fs.toList d G) (g : α → β) (hfg : ∀ a, f (g a) = a) (hG : ∀ a, G a → G' (g a)) : Opens P (Kd.iso d f) t G' where
 sz := by rw [hc]; rfl
 op := fun {H enc w n cs x} h => by
  obtain ⟨xs, m, rfl, _, hl, hxs, hall⟩ := DataW.trod_struct hu h
  obtain ⟨a, ha, hGa⟩ := r.op (w := w) (n := m) (cs := cs) (by omega) (fun f' hf' => by
   obtain ⟨i, hi, rfl⟩ := List.getElem_of_mem hf'
   have hi' : i < fs.size := by simpa using hi
   have h1 := hall i fs.toList[i] (by simp [hi'])
   rw [List.getElem?_eq_getElem (by omega)] at h1
   exact ⟨_, h1⟩)
  rw [List.drop_zero] at ha
  refine ⟨g a, ?_, hG a hGa⟩
  show d.K w (f (g a)) cs
  rw [hfg]
  exact ha
end Go.Proofs.YtdhjolglbcoijaaDoor.Op

namespace Go.Proofs.YtdhjolglbcoijaaDoor.PureFnTree
open Go.RowKit Go.Proofs.YtdhjolglbcoijaaDoor.PA
def Stated : Prop := ∀ (x0 : List Int), ((∀ e_ ∈ x0, Op.OkInt .u8 e_) ∧ x0.length ≤ 9223372036854775807) → ∃ k, laws_FnTree.f k x0 = some true
end Go.Proofs.YtdhjolglbcoijaaDoor.PureFnTree

namespace Go.Proofs.YtdhjolglbcoijaaDoor.Kit
open Go.RowKit Go.Proofs.YtdhjolglbcoijaaDoorW.PrintWords Go.Proofs.YtdhjolglbcoijaaDoorW.PrintLast Go.Proofs.YtdhjolglbcoijaaDoorW.PrintMore
set_option linter.unusedVariables false
set_option linter.unusedSimpArgs false

theorem w64 {x : Int} (h0 : -9223372036854775808 ≤ x) (h1 : x ≤ 9223372036854775807) : wrap64 x = x := by unfold wrap64; omega

section
variable {α β : Type}
theorem evSucc {g : Nat → Option α} {r : α} (h : Ev (fun k => g (k + 1)) r) : Ev g r := Ev.step (fun _ => rfl) h
theorem evPos {c : Prop} [Decidable c] {g f : Nat → Option α} {r : α} (hc : c) (h : Ev g r) : Ev (fun k => if c then g k else f k) r := Ev.congr (fun k => if_pos hc) h
theorem evNeg {c : Prop} [Decidable c] {g f : Nat → Option α} {r : α} (hc : ¬ c) (h : Ev f r) : Ev (fun k => if c then g k else f k) r := Ev.congr (fun k => if_neg hc) h
theorem evIte {c : Prop} [Decidable c] {g f : Nat → Option α} {r s : α} (h : c → Ev g r) (h' : ¬ c → Ev f s) : Ev (fun k => if c then g k else f k) (if c then r else s) := by
 by_cases hc : c
 ·rw [if_pos hc]; exact evPos hc (h hc)
 ·rw [if_neg hc]; exact evNeg hc (h' hc)
theorem evSome (r : α) : Ev (fun _ => some r) r := Ev.now r
theorem evEq {g : Nat → Option α} {r s : α} (h : Ev g r) (e : r = s) : Ev g s := e ▸ h
/-- A value that needs no rounds. -/
theorem evBindS {x : Option α} {f : Nat → α → Option β} {a : α} {r : β} (h : x = some a) (k : Ev (fun n => f n a) r) : Ev (fun n => x.bind (f n)) r := by subst h; exact k
theorem evConst {x : Option α} {r : α} (h : x = some r) : Ev (fun _ => x) r := by subst h; exact Ev.now r
end

section
variable {α β : Type}
/-- A loop that counts up: from the last place back to the first. -/
theorem evUp {r : α} (n : Nat) (g : Nat → Nat → Option α) (step : ∀ i, i < n → Ev (g (i + 1)) r → Ev (g i) r) (last : Ev (g n) r) : Ev (g 0) r := by
 have key : ∀ d i, i + d = n → Ev (g i) r := by
  intro d
  induction d with
  | zero => intro i hi; rw [show i = n by omega]; exact last
  | succ d ih => intro i hi; exact step i (by omega) (ih (i + 1) (by omega))
 exact key n 0 (by omega)
theorem fillStep (f : α → β) (z : β) (l : List α) (i : Nat) (hi : i < l.length) :
 ((l.take i).map f ++ List.replicate (l.length - i) z).set i (f l[i]) = (l.take (i + 1)).map f ++ List.replicate (l.length - (i + 1)) z := by
 have h1 : ((l.take i).map f).length = i := by simp; omega
 rw [show l.length - i = (l.length - (i + 1)) + 1 by omega, List.replicate_succ, List.set_append_right _ _ (by omega), h1, Nat.sub_self, List.set_cons_zero,
  List.take_succ_eq_append_getElem hi, List.map_append, List.append_assoc]
 rfl
theorem takeSnoc (l : List α) (i : Nat) (hi : i < l.length) : l.take (i + 1) = l.take i ++ [l[i]] := List.take_succ_eq_append_getElem hi
theorem ci (i : Nat) : (i : Int) + 1 = ((i + 1 : Nat) : Int) := by omega
theorem sizeApp (a b : ByteArray) : (a ++ b).size = a.size + b.size := ByteArray.size_append
end

theorem okI64 {n : Int} (h : (Lit.int .i64 n).wf = true) : -9223372036854775808 ≤ n ∧ n ≤ 9223372036854775807 := by
 simp [Lit.wf, IntKind.min, IntKind.max, IntKind.signed, IntKind.bits] at h
 omega
end Go.Proofs.YtdhjolglbcoijaaDoor.Kit

namespace Go.Proofs.YtdhjolglbcoijaaDoor.DigestEq
open Go.RowKit Go.Proofs.YtdhjolglbcoijaaDoorW.PrintWords Go.Proofs.YtdhjolglbcoijaaDoorW.PrintLast Go.Proofs.YtdhjolglbcoijaaDoorW.PrintMore Go.Proofs.YtdhjolglbcoijaaDoor.Kit Go.Proofs.YtdhjolglbcoijaaDoor.PA
open Go.Proofs.YtdhjolglbcoijaaDoor.PH (hs hs_len padS padS_size blocks f4 f4_len padBytes padZ hFirst shaB shaB_len outs strOfNums_size)
set_option linter.unusedVariables false
theorem strApp (a b : List Int) : strOfNums (a ++ b) = strOfNums a ++ strOfNums b := by
 apply ByteArray.ext
 simp [strOfNums]
theorem strBytes (s : ByteArray) : strOfNums (bytesOf s) = s := by
 apply ByteArray.ext
 apply Array.ext'
 simp [strOfNums, bytesOf, Function.comp_def]
theorem hi8 (N : Int) : (List.range 8).map (fun q => N / 2 ^ (8 * (7 - q)) % 256) = f4 (N / 4294967296) ++ f4 N := by
 have h0 : N / 72057594037927936 % 256 = N / 4294967296 / 16777216 % 256 := by omega
 have h1 : N / 281474976710656 % 256 = N / 4294967296 / 65536 % 256 := by omega
 have h2 : N / 1099511627776 % 256 = N / 4294967296 / 256 % 256 := by omega
 simp [List.range, List.range.loop, f4, h0, h1, h2]
theorem padEq (a0 : ByteArray) (hb : a0.size ≤ 1073741824) : impl_PadText.f a0 = some (padS a0) := by
 have e : Int.tmod (wrap64 (64 - (Int.tmod (wrap64 ((a0.size : Int) + 9)) 64))) 64 = (padZ a0.size : Int) := by
  have c1 : Int.tmod ((a0.size : Int) + 9) 64 = ((a0.size : Int) + 9) % 64 := Int.tmod_eq_emod_of_nonneg (by omega)
  rw [w64 (x := (a0.size : Int) + 9) (by omega) (by omega), c1, w64 (by omega) (by omega)]
  have c2 : Int.tmod (64 - ((a0.size : Int) + 9) % 64) 64 = (64 - ((a0.size : Int) + 9) % 64) % 64 := Int.tmod_eq_emod_of_nonneg (by omega)
  rw [c2]
  unfold padZ
  omega
 have hz : padZ a0.size < 64 := by unfold padZ; omega
 have e8 : wrap64 (8 * (a0.size : Int)) = 8 * (a0.size : Int) := w64 (by omega) (by omega)
 unfold impl_PadText.f impl_four.f
 rw [e, e8, if_pos (by omega), if_pos (by omega), if_pos (by omega)]
 simp only [Option.bind_some, Int.toNat_natCast]
 have s1 : (a0 ++ (⟨#[128]⟩ : ByteArray)).size = a0.size + 1 := by rw [ByteArray.size_append]; rfl
 have s2 : (strOfNums (List.replicate (padZ a0.size) 0)).size = padZ a0.size := by rw [strOfNums_size, List.length_replicate]
 have s3 (x : Int) : (strOfNums [x / 16777216 % 256, x / 65536 % 256, x / 256 % 256, x % 256]).size = 4 := by rw [strOfNums_size]; rfl
 rw [if_pos (by rw [s1, s2]; omega), if_pos (by rw [ByteArray.size_append, s1, s2, s3]; omega), if_pos (by rw [ByteArray.size_append, ByteArray.size_append, s1, s2, s3, s3]; omega)]
 unfold padS padBytes
 have c (l : List Int) : strOfNums (128 :: l) = (⟨#[128]⟩ : ByteArray) ++ strOfNums l := strApp [128] l
 rw [hi8, strApp, c, strApp, strApp, strBytes]
 simp only [← ByteArray.append_assoc]
 rfl
theorem half_first : ∀ x ∈ hFirst, 0 ≤ x ∧ x ≤ 4294967295 := by decide
theorem half_sha (l : List Int) (t : ByteArray) (h : l.length = 8) : ∀ x ∈ shaB l t, 0 ≤ x ∧ x ≤ 4294967295 := by
 intro x hx
 unfold PH.shaB PH.outs at hx
 rw [List.drop_of_length_le (by omega), List.append_nil] at hx
 obtain ⟨i, _, rfl⟩ := List.mem_map.1 hx
 constructor <;> omega
theorem half_hs (p : ByteArray) : ∀ j, ∀ x ∈ hs p j, 0 ≤ x ∧ x ≤ 4294967295
 | 0 => half_first
 | j + 1 => half_sha _ _ (hs_len p j)
theorem rdS (l : List Int) (i : Nat) (hi : i < l.length) : rd l (i : Int) = l[i] := by simp [rd, hi]
theorem ev_out (s : List Int) (h : s.length = 8) : Ev (fun k => impl_Digest.l1 k (⟨#[]⟩ : ByteArray) s (s.length : Int) 0) (strOfNums (s.flatMap f4)) := by
 have key := evUp (r := strOfNums (s.flatMap f4)) 8 (fun i k => impl_Digest.l1 k (strOfNums ((s.take i).flatMap f4)) s (s.length : Int) (i : Int)) ?_ ?_
 ·exact key
 ·intro i hi ih
  refine evSucc ?_
  simp only [impl_Digest.l1]
  have hsz : (strOfNums ((s.take i).flatMap f4)).size = 4 * i := by rw [strOfNums_size, f4_len, List.length_take]; omega
  refine evPos (by omega) (evPos (by omega) (evPos (by omega) (evBindS (a := strOfNums (f4 s[i])) (by rw [rdS s i (by omega)]; rfl) (evPos (by rw [hsz, strOfNums_size]; simp [f4]; omega) ?_))))
  rw [w64 (by omega) (by omega), ci, ← strApp]
  have e : (s.take i).flatMap f4 ++ f4 s[i] = (s.take (i + 1)).flatMap f4 := by
   rw [List.take_succ_eq_append_getElem (by omega), List.flatMap_append]; simp
  rw [e]
  exact ih
 ·refine evSucc ?_
  simp only [impl_Digest.l1]
  refine evNeg (by omega) (evEq (Ev.now _) ?_)
  rw [List.take_of_length_le (by omega)]
def dig (a0 : ByteArray) : ByteArray := strOfNums ((hs (padS a0) (blocks a0.size)).flatMap f4)
theorem dig_spec (a0 : ByteArray) (hb : a0.size ≤ 1073741824) : spec_Digest.f a0 = some (dig a0) := by
 unfold spec_Digest.f; rw [if_pos hb]; rfl
theorem dig_impl (a0 : ByteArray) (hb : a0.size ≤ 1073741824) : Ev (fun k => impl_Digest.f k a0) (dig a0) := by
 simp only [impl_Digest.f]
 refine evBindS (padEq a0 hb) (evBindS (a := hFirst) rfl ?_)
 have hp := padS_size a0
 have hn : blocks a0.size ≤ 16777218 := by unfold PH.blocks; omega
 unfold dig
 generalize blocks a0.size = nb at hp hn ⊢
 generalize padS a0 = p at hp ⊢
 have key := evUp (r := strOfNums ((hs p nb).flatMap f4)) nb (fun i k => impl_Digest.l0 k p (hs p i) (64 * (i : Int))) ?_ ?_
 ·exact key
 ·intro i hi ih
  refine evSucc ?_
  simp only [impl_Digest.l0]
  have hw : wrap64 (64 * (i : Int) + 64) = 64 * (i : Int) + 64 := w64 (by omega) (by omega)
  rw [hw]
  refine evPos (by omega) (evPos (by omega) (evPos (by omega) (evPos (by omega) (evBindS (a := hs p (i + 1)) ?_ ?_))))
  ·rw [show (64 * (i : Int)).toNat = 64 * i by omega, show (64 * (i : Int) + 64).toNat = 64 * i + 64 by omega]
   unfold impl_ShaBlock.f
   rw [if_pos ⟨hs_len p i, by rw [ByteArray.size_extract]; omega, half_hs p i⟩]
   rfl
  ·rw [show 64 * (i : Int) + 64 = 64 * ((i + 1 : Nat) : Int) by omega]
   exact ih
 ·refine evSucc ?_
  simp only [impl_Digest.l0]
  exact evNeg (by omega) (ev_out _ (hs_len p nb))
end Go.Proofs.YtdhjolglbcoijaaDoor.DigestEq

namespace Go.Proofs.YtdhjolglbcoijaaDoor.Pure
open Go.RowKit Go.Proofs.YtdhjolglbcoijaaDoor.PA Go.Proofs.YtdhjolglbcoijaaDoorW.PrintWords Go.Proofs.YtdhjolglbcoijaaDoorW.PrintLast Go.Proofs.YtdhjolglbcoijaaDoorW.PrintMore Go.Proofs.YtdhjolglbcoijaaDoor.Kit Go.Proofs.YtdhjolglbcoijaaDoor.PureFnTree
set_option linter.unusedVariables false
set_option linter.unusedSimpArgs false
def rng (x lo hi : Int) : Bool := decide (lo ≤ x) && decide (x ≤ hi)
theorem spec_in (x lo hi : Int) : spec_l01In.f x lo hi = some (rng x lo hi) := by
 unfold spec_l01In.f rng
 by_cases h : x ≥ lo
 ·simp [h]
 ·simp [h]
  try omega
theorem impl_in (x lo hi : Int) : impl_within.f x lo hi = some (rng x lo hi) := by
 unfold impl_within.f rng
 by_cases h : x ≥ lo
 ·simp [h]
 ·simp [h]
  try omega
theorem bits_nat (op : BinOp) (k : IntKind) (x y : Int) : Go.bits op k x y = match op with
 | .and => k.wrap ((BitVec.ofInt k.bits x &&& BitVec.ofInt k.bits y).toNat : Int)
 | .or => k.wrap ((BitVec.ofInt k.bits x ||| BitVec.ofInt k.bits y).toNat : Int)
 | .xor => k.wrap ((BitVec.ofInt k.bits x ^^^ BitVec.ofInt k.bits y).toNat : Int)
 | .andNot => k.wrap ((BitVec.ofInt k.bits x &&& ~~~BitVec.ofInt k.bits y).toNat : Int)
 | _ => Go.bits op k x y := by
 cases op <;> rfl
theorem ofInt_nat32 (n : Nat) (h : n < 4294967296) : (BitVec.ofInt 32 (n : Int)).toNat = n := by
 rw [BitVec.toNat_ofInt]; omega
theorem ofInt_nat64 (n : Nat) (h : n < 18446744073709551616) : (BitVec.ofInt 64 (n : Int)).toNat = n := by
 rw [BitVec.toNat_ofInt]; omega
theorem wrap_u32 (x : Int) : IntKind.wrap .u32 x = x % 4294967296 := rfl
theorem wrap_i64 (x : Int) : IntKind.wrap .i64 x = wrap64 x := i64_w x
theorem xor_u32_rng (x y : Int) : 0 ≤ Go.bits .xor .u32 x y ∧ Go.bits .xor .u32 x y < 4294967296 := by
 rw [bits_nat]
 show 0 ≤ IntKind.wrap .u32 _ ∧ IntKind.wrap .u32 _ < _
 rw [wrap_u32]
 omega
theorem and_u32_one (x : Int) (h0 : 0 ≤ x) (h1 : x < 4294967296) : Go.bits .and .u32 x 1 = x % 2 := by
 rw [bits_nat]
 show IntKind.wrap .u32 ((BitVec.ofInt 32 x &&& BitVec.ofInt 32 ((1 : Nat) : Int)).toNat : Int) = _
 obtain ⟨n, rfl⟩ := Int.eq_ofNat_of_zero_le h0
 rw [BitVec.toNat_and, ofInt_nat32 n (by omega), ofInt_nat32 1 (by omega), Nat.and_one_is_mod, wrap_u32]
 omega
theorem var_byte (x : Int) (h0 : 0 ≤ x) (h1 : x ≤ 1000000000) : (Go.bits .or .i64 (Go.bits .and .i64 x 127) 128) % 256 = x % 128 + 128 := by
 obtain ⟨n, rfl⟩ := Int.eq_ofNat_of_zero_le h0
 have e1 : Go.bits .and .i64 (n : Int) 127 = ((n % 128 : Nat) : Int) := by
  rw [bits_nat]
  show IntKind.wrap .i64 ((BitVec.ofInt 64 (n : Int) &&& BitVec.ofInt 64 ((127 : Nat) : Int)).toNat : Int) = _
  rw [BitVec.toNat_and, ofInt_nat64 n (by omega), ofInt_nat64 127 (by omega), wrap_i64]
  have : n &&& 127 = n % 128 := Nat.and_two_pow_sub_one_eq_mod n 7
  rw [this, w64 (by omega) (by omega)]
 rw [e1, bits_nat]
 show IntKind.wrap .i64 ((BitVec.ofInt 64 ((n % 128 : Nat) : Int) ||| BitVec.ofInt 64 ((128 : Nat) : Int)).toNat : Int) % 256 = _
 rw [BitVec.toNat_or, ofInt_nat64 (n % 128) (by omega), ofInt_nat64 128 (by omega), wrap_i64]
 have h : ∀ m : Fin 128, (m.val ||| 128) = m.val + 128 := by decide
 have hm := h ⟨n % 128, by omega⟩
 have e2 : (n % 128 ||| 128) = n % 128 + 128 := hm
 rw [e2, w64 (by omega) (by omega)]
 omega
def varL (n : Nat) : List Int := if h : n ≤ 127 then [(n : Int)] else ((n % 128 + 128 : Nat) : Int) :: varL (n / 128)
 termination_by n
 decreasing_by omega
theorem varL_small (n : Nat) (h : n ≤ 127) : varL n = [(n : Int)] := by rw [varL, dif_pos h]
theorem varL_big (n : Nat) (h : 127 < n) : varL n = ((n % 128 + 128 : Nat) : Int) :: varL (n / 128) := by rw [varL, dif_neg (by omega)]
theorem varL_len (n : Nat) (h : n ≤ 1000000000) : (varL n).length ≤ 5 := by
 have key : ∀ (j n : Nat), n < 128 ^ (j + 1) → (varL n).length ≤ j + 1 := by
  intro j
  induction j with
  | zero => intro n h; rw [varL_small n (by omega)]; simp
  | succ j ih =>
   intro n h
   by_cases hn : n ≤ 127
   ·rw [varL_small n hn]; simp
   ·rw [varL_big n (by omega), List.length_cons]
    have := ih (n / 128) (by rw [Nat.pow_succ] at h; omega)
    omega
 exact key 4 n (by omega)
def varS (n : Int) : ByteArray := strOfNums (varL n.toNat)
theorem varS_size (n : Int) (h : n ≤ 1000000000) : (varS n).size ≤ 5 := by
 unfold varS; rw [strOfNums_size]; exact varL_len _ (by omega)
theorem ev_spec_l01Var (n : Int) (h0 : 0 ≤ n) (h1 : n ≤ 1000000000) : Ev (fun k => spec_l01Var.f k n) (varS n) := by
 have key : ∀ (m : Nat) (acc : List Int), m ≤ 1000000000 → acc.length + m ≤ 2000000000 → Ev (fun k => spec_l01Var.l0 k (m : Int) acc) (strOfNums (acc ++ varL m)) := by
  intro m
  induction m using Nat.strongRecOn with
  | ind m ih =>
   intro acc hm ha
   refine evSucc ?_
   simp only [spec_l01Var.l0]
   have e : Int.tdiv (m : Int) 128 = ((m / 128 : Nat) : Int) := by rw [Int.tdiv_eq_ediv_of_nonneg (by omega)]; omega
   have e2 : Int.tmod (m : Int) 128 = ((m % 128 : Nat) : Int) := by rw [Int.tmod_eq_emod_of_nonneg (by omega)]; omega
   by_cases hb : m ≤ 127
   ·refine evNeg (by omega) (evPos (by omega) ?_)
    rw [varL_small m hb, show (m : Int) % 256 = m by omega]
    exact Ev.now _
   ·refine evPos (by omega) (evPos (by omega) ?_)
    rw [e, e2, w64 (by omega) (by omega), w64 (by omega) (by omega), varL_big m (by omega)]
    have := ih (m / 128) (by omega) (acc ++ [((m % 128 + 128 : Nat) : Int)]) (by omega) (by simp; omega)
    rw [List.append_assoc] at this
    rw [show (((m % 128 : Nat) : Int) + 128) % 256 = ((m % 128 + 128 : Nat) : Int) by omega]
    exact this
 have := key n.toNat [] (by omega) (by simp; omega)
 rw [Int.toNat_of_nonneg h0] at this
 exact this
theorem ev_impl_VarText (n : Int) : Ev (fun k => impl_VarText.f k n) (if rng n 0 1000000000 = true then (varS n, true) else (⟨#[]⟩, false)) := by
 simp only [impl_VarText.f, impl_in, Option.bind_some]
 refine evIte (fun h => ?_) (fun h => Ev.now _)
 have hr : 0 ≤ n ∧ n ≤ 1000000000 := by unfold rng at h; simpa using h
 have key : ∀ (m : Nat) (acc : List Int), m ≤ 1000000000 → acc.length + m ≤ 2000000000 → Ev (fun k => impl_VarText.l0 k (m : Int) acc) (strOfNums (acc ++ varL m), true) := by
  intro m
  induction m using Nat.strongRecOn with
  | ind m ih =>
   intro acc hm ha
   refine evSucc ?_
   simp only [impl_VarText.l0]
   by_cases hb : m ≤ 127
   ·refine evNeg (by omega) (evPos (by omega) ?_)
    rw [varL_small m hb, show (m : Int) % 256 = m by omega]
    exact Ev.now _
   ·refine evPos (by omega) (evPos (by omega) ?_)
    rw [var_byte m (by omega) (by omega), varL_big m (by omega)]
    have := ih (m / 128) (by omega) (acc ++ [((m % 128 + 128 : Nat) : Int)]) (by omega) (by simp; omega)
    rw [List.append_assoc] at this
    rw [show (m : Int) / 128 = ((m / 128 : Nat) : Int) by omega, show (m : Int) % 128 + 128 = ((m % 128 + 128 : Nat) : Int) by omega]
    exact this
 have := key n.toNat [] (by omega) (by simp; omega)
 rw [Int.toNat_of_nonneg hr.1] at this
 exact this
theorem ev_impl_VarText_ok (n : Int) (h0 : 0 ≤ n) (h1 : n ≤ 1000000000) : Ev (fun k => impl_VarText.f k n) (varS n, true) :=
 evEq (ev_impl_VarText n) (if_pos (by unfold rng; simp [h0, h1]))
def itemB (a b c d : Int) : Bool := if a = 1 then rng b 0 4294967295 && (rng c 0 4294967295 && d == 0) else if a = 2 then rng d 1 1000000000 && (b == 0 && c == 0) else false
theorem spec_itemB (a b c d : Int) : spec_ItemOk.f a b c d = some (itemB a b c d) := by
 unfold spec_ItemOk.f itemB
 simp only [spec_HalfOk.f, spec_in, Option.bind_some]
 by_cases h1 : a = 1
 ·rw [if_pos h1, if_pos h1]
  cases rng b 0 4294967295 <;> cases rng c 0 4294967295 <;> simp
 ·rw [if_neg h1, if_neg h1]
  by_cases h2 : a = 2
  ·rw [if_pos h2, if_pos h2]
   by_cases hb : b = 0
   ·cases rng d 1 1000000000 <;> simp [hb]
   ·cases rng d 1 1000000000 <;> simp [hb]
  ·rw [if_neg h2, if_neg h2]
theorem impl_itemB (a b c d : Int) : impl_ItemOk.f a b c d = some (itemB a b c d) := by
 unfold impl_ItemOk.f itemB
 simp only [impl_HalfOk.f, impl_in, Option.bind_some]
 by_cases h1 : a = 1
 ·rw [if_pos h1, if_pos h1]
  cases rng b 0 4294967295 <;> cases rng c 0 4294967295 <;> simp
 ·rw [if_neg h1, if_neg h1]
  by_cases h2 : a = 2
  ·rw [if_pos h2, if_pos h2]
   by_cases hb : b = 0
   ·cases rng d 1 1000000000 <;> simp [hb]
   ·cases rng d 1 1000000000 <;> simp [hb]
  ·rw [if_neg h2, if_neg h2]
def frameB (a b c d e f g : Int) : Bool := rng b 0 2 && (rng c 1 1000000000 && (if a = 1 then itemB d e f g else if a = 2 then (d == 0 && (e == 0 && (f == 0 && (g == 0)))) else false))
theorem ev_spec_FrameOk (a b c d e f g : Int) : Ev (fun k => spec_FrameOk.f k a b c d e f g) (frameB a b c d e f g) := by
 simp only [spec_FrameOk.f, spec_in, Option.bind_some]
 unfold frameB
 cases rng b 0 2
 ·refine evNeg (by simp) (evSucc ?_)
  simp only [spec_FrameOk.j0, Bool.false_and]
  exact evPos (by simp) (Ev.now _)
 ·refine evPos rfl (evSucc ?_)
  simp only [spec_FrameOk.j0, spec_itemB, Option.bind_some, Bool.true_and]
  cases rng c 1 1000000000
  ·exact evPos (by decide) (Ev.now _)
  ·refine evNeg (by simp) ?_
   simp only [Bool.true_and]
   exact evIte (fun _ => Ev.now _) (fun _ => evIte (fun _ => Ev.now _) (fun _ => Ev.now _))
theorem ev_impl_FrameOk (a b c d e f g : Int) : Ev (fun k => impl_FrameOk.f k a b c d e f g) (frameB a b c d e f g) := by
 simp only [impl_FrameOk.f, impl_isPid.f, impl_in, Option.bind_some]
 unfold frameB
 cases rng b 0 2
 ·refine evNeg (by simp) (evSucc ?_)
  simp only [impl_FrameOk.j0, Bool.false_and]
  exact evPos (by simp) (Ev.now _)
 ·refine evPos rfl (evSucc ?_)
  simp only [impl_FrameOk.j0, impl_itemB, Option.bind_some, Bool.true_and]
  cases rng c 1 1000000000
  ·exact evPos (by decide) (Ev.now _)
  ·refine evNeg (by simp) ?_
   simp only [Bool.true_and]
   exact evIte (fun _ => Ev.now _) (fun _ => evIte (fun _ => Ev.now _) (fun _ => Ev.now _))
theorem itemB_count {a b c d : Int} (h : itemB a b c d = true) : 0 ≤ d ∧ d ≤ 1000000000 := by
 unfold itemB rng at h
 split at h
 ·simp at h; omega
 ·split at h
  ·simp at h; omega
  ·simp at h
theorem frameB_facts {a b c d e f g : Int} (h : frameB a b c d e f g = true) : (0 ≤ b ∧ b ≤ 2) ∧ (1 ≤ c ∧ c ≤ 1000000000) ∧ (0 ≤ g ∧ g ≤ 1000000000) ∧ (a = 1 ∨ a = 2) := by
 unfold frameB at h
 simp only [Bool.and_eq_true] at h
 obtain ⟨h1, h2, h3⟩ := h
 unfold rng at h1 h2
 simp at h1 h2
 refine ⟨h1, h2, ?_⟩
 split at h3
 ·rename_i ha
  exact ⟨itemB_count h3, Or.inl ha⟩
 ·split at h3
  ·rename_i ha
   simp at h3
   exact ⟨by omega, Or.inr ha⟩
  ·simp at h3
def sumBit (x : Int) : Int := if x % 2 = 1 then Go.bits .xor .u32 (x / 2) 3558460437 else x / 2
def sumByte (x b : Int) : Int := sumBit (sumBit (sumBit (sumBit (sumBit (sumBit (sumBit (sumBit (Go.bits .xor .u32 x b))))))))
def sumAll (x : Int) (s : ByteArray) : Nat → Int
 | 0 => x
 | i + 1 => sumByte (sumAll x s i) (bt s i)
theorem sumBit_rng (x : Int) (h : 0 ≤ x ∧ x < 4294967296) : 0 ≤ sumBit x ∧ sumBit x < 4294967296 := by
 unfold sumBit
 split
 ·exact xor_u32_rng _ _
 ·omega
theorem sumByte_rng (x b : Int) : 0 ≤ sumByte x b ∧ sumByte x b < 4294967296 := by
 unfold sumByte
 repeat (first | exact xor_u32_rng _ _ | apply sumBit_rng)
theorem sumAll_rng (x : Int) (s : ByteArray) (h : 0 ≤ x ∧ x < 4294967296) : ∀ i, 0 ≤ sumAll x s i ∧ sumAll x s i < 4294967296
 | 0 => h
 | _ + 1 => sumByte_rng _ _
theorem sum_impl_step (x : Int) (s : ByteArray) (i j r : Int) (h : 0 ≤ x ∧ x < 4294967296) (hj : j < 8 ∧ 0 ≤ j) (next : Ev (fun k => impl_SumMore.l1 k (sumBit x) s i (j + 1)) r) : Ev (fun k => impl_SumMore.l1 k x s i j) r := by
 refine evSucc ?_
 simp only [impl_SumMore.l1]
 refine evPos hj.1 ?_
 rw [and_u32_one x h.1 h.2, w64 (by omega) (by omega)]
 unfold sumBit at next
 by_cases hx : x % 2 = 1
 ·rw [if_pos hx] at next; exact evPos hx next
 ·rw [if_neg hx] at next; exact evNeg hx next
theorem sum_spec_step (x : Int) (s : ByteArray) (i j r : Int) (h : 0 ≤ x ∧ x < 4294967296) (hj : j < 8 ∧ 0 ≤ j) (next : Ev (fun k => spec_SumMore.l1 k (sumBit x) s i (j + 1)) r) : Ev (fun k => spec_SumMore.l1 k x s i j) r := by
 refine evSucc ?_
 simp only [spec_SumMore.l1]
 refine evPos hj.1 ?_
 rw [Int.tmod_eq_emod_of_nonneg h.1, Int.tdiv_eq_ediv_of_nonneg h.1, w64 (by omega) (by omega), show x / 2 % 4294967296 = x / 2 by omega]
 unfold sumBit at next
 by_cases hx : x % 2 = 1
 ·rw [if_pos hx] at next; exact evPos hx next
 ·rw [if_neg hx] at next; exact evNeg hx next
theorem ev_impl_SumMore (x : Int) (s : ByteArray) (h : 0 ≤ x ∧ x < 4294967296) (hs : s.size ≤ 140737488351232) : Ev (fun k => impl_SumMore.f k x s) (sumAll x s s.size) := by
 have key := evUp (r := sumAll x s s.size) s.size (fun i k => impl_SumMore.l0 k (sumAll x s i) s (i : Int)) ?_ ?_
 ·exact key
 ·intro i hi ih
  refine evSucc ?_
  simp only [impl_SumMore.l0]
  have hb := bt_range s (i : Int)
  refine evPos (by omega) (evPos (by omega) ?_)
  rw [show bt s (i : Int) % 4294967296 = bt s (i : Int) by omega]
  iterate 8 (refine sum_impl_step _ _ _ _ _ (by repeat (first | exact xor_u32_rng _ _ | apply sumBit_rng)) (by decide) ?_)
  refine evSucc ?_
  simp only [impl_SumMore.l1]
  refine evNeg (by decide) ?_
  rw [w64 (by omega) (by omega), ci]
  exact ih
 ·refine evSucc ?_
  simp only [impl_SumMore.l0]
  exact evNeg (by omega) (Ev.now _)
theorem ev_spec_SumMore (x : Int) (s : ByteArray) (h : 0 ≤ x ∧ x < 4294967296) (hs : s.size ≤ 140737488351232) : Ev (fun k => spec_SumMore.f k x s) (sumAll x s s.size) := by
 have key := evUp (r := sumAll x s s.size) s.size (fun i k => spec_SumMore.l0 k (sumAll x s i) s (i : Int)) ?_ ?_
 ·exact key
 ·intro i hi ih
  refine evSucc ?_
  simp only [spec_SumMore.l0]
  have hb := bt_range s (i : Int)
  refine evPos (by omega) (evPos (by omega) ?_)
  rw [show bt s (i : Int) % 4294967296 = bt s (i : Int) by omega]
  iterate 8 (refine sum_spec_step _ _ _ _ _ (by repeat (first | exact xor_u32_rng _ _ | apply sumBit_rng)) (by decide) ?_)
  refine evSucc ?_
  simp only [spec_SumMore.l1]
  refine evNeg (by decide) ?_
  rw [w64 (by omega) (by omega), ci]
  exact ih
 ·refine evSucc ?_
  simp only [spec_SumMore.l0]
  exact evNeg (by omega) (Ev.now _)
def sumS (s : ByteArray) : Int := sumAll 4294967295 s s.size
theorem sumS_rng (s : ByteArray) : 0 ≤ sumS s ∧ sumS s < 4294967296 := sumAll_rng _ _ (by omega) _
def four4 (n : Int) : ByteArray := strOfNums [(n / 16777216) % 256, (n / 65536) % 256, (n / 256) % 256, n % 256]
theorem four4_size (n : Int) : (four4 n).size = 4 := by simp [four4, strOfNums_size]
theorem impl_four4 (n : Int) : impl_four.f n = some (four4 n) := rfl
theorem spec_four4 (n : Int) : spec_l06Four.f n = some (four4 n) := rfl
theorem spec_four2 (n : Int) : spec_l02Four.f n = some (four4 n) := rfl
def sealB (s : ByteArray) : ByteArray × Bool := if s.size ≤ 20000 then (s ++ four4 (sumS s), true) else (⟨#[]⟩, false)
theorem ev_impl_Sealed (s : ByteArray) (hs : s.size ≤ 140737488351232) : Ev (fun k => impl_Sealed.f k s) (sealB s) := by
 simp only [impl_Sealed.f, impl_SumOf.f]
 unfold sealB
 by_cases h : s.size ≤ 20000
 ·have hr := sumS_rng s
  rw [if_pos h]
  refine evNeg (by omega) (Ev.bind (Ev.bind (ev_impl_SumMore _ s (by omega) hs) (Ev.now _)) ?_)
  rw [show sumAll 4294967295 s s.size = sumS s from rfl, w64 (by omega) (by omega)]
  simp only [impl_four4, Option.bind_some]
  exact evPos (by rw [four4_size]; omega) (Ev.now _)
 ·rw [if_neg h]
  exact evPos (by omega) (Ev.now _)
theorem ev_spec_Sealed (s : ByteArray) (hs : s.size ≤ 140737488351232) : Ev (fun k => spec_Sealed.f k s) (sealB s) := by
 simp only [spec_Sealed.f, spec_SumOf.f]
 unfold sealB
 by_cases h : s.size ≤ 20000
 ·rw [if_pos h]
  refine evNeg (by omega) (Ev.bind (Ev.bind (ev_spec_SumMore _ s (by omega) hs) (Ev.now _)) ?_)
  rw [show sumAll 4294967295 s s.size = sumS s from rfl]
  simp only [spec_four2, Option.bind_some]
  exact evPos (by rw [four4_size]; omega) (Ev.now _)
 ·rw [if_neg h]
  exact evPos (by omega) (Ev.now _)
def frameRaw (a b c d e f g : Int) : ByteArray := ((((strOfNums [a % 256, b % 256] ++ varS c) ++ strOfNums [d % 256]) ++ four4 e) ++ four4 f) ++ varS g
theorem frameRaw_size {a b c d e f g : Int} (hc : c ≤ 1000000000) (hg : g ≤ 1000000000) : (frameRaw a b c d e f g).size ≤ 21 := by
 have h1 := varS_size c hc
 have h2 := varS_size g hg
 unfold frameRaw
 simp only [sizeApp, strOfNums_size, four4_size, List.length_cons, List.length_nil]
 omega
def frameS (a b c d e f g : Int) : ByteArray × Bool := if frameB a b c d e f g = true then (frameRaw a b c d e f g ++ four4 (sumS (frameRaw a b c d e f g)), true) else (⟨#[]⟩, false)
theorem frameS_size (a b c d e f g : Int) : (frameS a b c d e f g).1.size ≤ 25 := by
 unfold frameS
 split
 ·rename_i h
  obtain ⟨_, ⟨_, h2⟩, ⟨_, h3⟩, _⟩ := frameB_facts h
  have := frameRaw_size (a := a) (b := b) (d := d) (e := e) (f := f) h2 h3
  rw [sizeApp, four4_size]
  omega
 ·decide
theorem ev_spec_FrameText (a b c d e f g : Int) : Ev (fun k => spec_FrameText.f k a b c d e f g) (frameS a b c d e f g) := by
 simp only [spec_FrameText.f]
 refine Ev.bind (ev_spec_FrameOk a b c d e f g) ?_
 unfold frameS
 by_cases h : frameB a b c d e f g = true
 ·obtain ⟨_, hc, hg, _⟩ := frameB_facts h
  have s1 := varS_size c hc.2
  have s2 := varS_size g hg.2
  have hr := frameRaw_size (a := a) (b := b) (d := d) (e := e) (f := f) hc.2 hg.2
  have hsz2 (x y : Int) : (strOfNums [x, y]).size = 2 := by rw [strOfNums_size]; rfl
  have hsz1 (x : Int) : (strOfNums [x]).size = 1 := by rw [strOfNums_size]; rfl
  rw [if_pos h]
  refine evPos h ?_
  simp only [Option.bind_some, spec_four4]
  refine Ev.bind (ev_spec_l01Var c (by omega) hc.2) (evPos (by rw [hsz2]; omega) (evPos (by simp only [sizeApp, hsz2, hsz1]; omega) (evPos (by simp only [sizeApp, hsz2, hsz1, four4_size]; omega) (evPos (by simp only [sizeApp, hsz2, hsz1, four4_size]; omega) ?_))))
  refine Ev.bind (ev_spec_l01Var g (by omega) hg.2) (evPos (by simp only [sizeApp, hsz2, hsz1, four4_size]; omega) ?_)
  refine Ev.bind (ev_spec_Sealed (frameRaw a b c d e f g) (by omega)) (evEq (Ev.now _) ?_)
  unfold sealB
  rw [if_pos (by omega)]
 ·rw [if_neg h]
  exact evNeg h (Ev.now _)
theorem ev_impl_FrameText (a b c d e f g : Int) : Ev (fun k => impl_FrameText.f k a b c d e f g) (frameS a b c d e f g) := by
 simp only [impl_FrameText.f]
 refine Ev.bind (ev_impl_FrameOk a b c d e f g) ?_
 unfold frameS
 by_cases h : frameB a b c d e f g = true
 ·obtain ⟨_, hc, hg, _⟩ := frameB_facts h
  have s1 := varS_size c hc.2
  have s2 := varS_size g hg.2
  have hr := frameRaw_size (a := a) (b := b) (d := d) (e := e) (f := f) hc.2 hg.2
  have hsz2 (x y : Int) : (strOfNums [x, y]).size = 2 := by rw [strOfNums_size]; rfl
  have hsz1 (x : Int) : (strOfNums [x]).size = 1 := by rw [strOfNums_size]; rfl
  rw [if_pos h]
  refine evPos h ?_
  refine Ev.bind (ev_impl_VarText_ok c (by omega) hc.2) (Ev.bind (ev_impl_VarText_ok g (by omega) hg.2) ?_)
  simp only [Option.bind_some, impl_four4]
  refine evPos (by rw [hsz2]; omega) (evPos (by simp only [sizeApp, hsz2, hsz1]; omega) (evPos (by simp only [sizeApp, hsz2, hsz1, four4_size]; omega) (evPos (by simp only [sizeApp, hsz2, hsz1, four4_size]; omega) (evPos (by simp only [sizeApp, hsz2, hsz1, four4_size]; omega) ?_))))
  refine Ev.bind (ev_impl_Sealed (frameRaw a b c d e f g) (by omega)) (evEq (Ev.now _) ?_)
  unfold sealB
  rw [if_pos (by omega)]
 ·rw [if_neg h]
  exact evNeg h (Ev.now _)
def entryS (b c d e f g : Int) : ByteArray := (frameS 1 b c d e f g).1
theorem entryS_size (b c d e f g : Int) : (entryS b c d e f g).size ≤ 25 := frameS_size 1 b c d e f g
theorem ev_spec_EntryText (b c d e f g : Int) : Ev (fun k => spec_EntryText.f k b c d e f g) (entryS b c d e f g) := by
 simp only [spec_EntryText.f]
 exact Ev.bind (ev_spec_FrameText 1 b c d e f g) (Ev.now _)
theorem ev_impl_EntryText (b c d e f g : Int) : Ev (fun k => impl_EntryText.f k b c d e f g) (entryS b c d e f g) := by
 simp only [impl_EntryText.f]
 exact Ev.bind (ev_impl_FrameText 1 b c d e f g) (Ev.now _)
open DigestEq (dig dig_spec dig_impl)
theorem one48 : (⟨#[48]⟩ : ByteArray).size = 1 := rfl
def leafS (b c d e f g : Int) : ByteArray := dig ((⟨#[48]⟩ : ByteArray) ++ entryS b c d e f g)
theorem ev_spec_LeafOf (b c d e f g : Int) : Ev (fun k => spec_LeafOf.f k b c d e f g) (leafS b c d e f g) := by
 have h := entryS_size b c d e f g
 simp only [spec_LeafOf.f]
 refine Ev.bind (ev_spec_EntryText b c d e f g) (evPos (by omega) ?_)
 rw [dig_spec _ (by rw [sizeApp, one48]; omega)]
 exact Ev.now _
theorem ev_impl_LeafOf (b c d e f g : Int) : Ev (fun k => impl_LeafOf.f k b c d e f g) (leafS b c d e f g) := by
 have h := entryS_size b c d e f g
 simp only [impl_LeafOf.f]
 refine Ev.bind (ev_impl_EntryText b c d e f g) (evPos (by omega) ?_)
 exact Ev.bind (dig_impl _ (by rw [sizeApp, one48]; omega)) (Ev.now _)
theorem dig_size (s : ByteArray) : (dig s).size = 32 := by
 unfold DigestEq.dig
 rw [strOfNums_size, PH.f4_len, PH.hs_len]
def half (n : Nat) : Nat := 2 ^ Nat.log2 (n - 1)
theorem half_lt (n : Nat) (h : 2 ≤ n) : half n < n := by
 have := Nat.log2_self_le (n := n - 1) (by omega)
 unfold half; omega
theorem half_pos (n : Nat) : 0 < half n := Nat.pow_pos (by omega)
theorem half_step (n j : Nat) (h : 2 ≤ n) (hj : j ≤ Nat.log2 (n - 1)) : (2 * 2 ^ j < n ∧ j + 1 ≤ Nat.log2 (n - 1)) ∨ (¬ 2 * 2 ^ j < n ∧ half n = 2 ^ j) := by
 by_cases hc : 2 * 2 ^ j < n
 ·exact Or.inl ⟨hc, (Nat.le_log2 (by omega)).2 (by rw [Nat.pow_succ]; omega)⟩
 ·refine Or.inr ⟨hc, ?_⟩
  have : ¬ j + 1 ≤ Nat.log2 (n - 1) := fun h' => by
   have := (Nat.le_log2 (by omega)).1 h'
   rw [Nat.pow_succ] at this; omega
  unfold half
  rw [show Nat.log2 (n - 1) = j by omega]
theorem pow_le_half (n j : Nat) (h : 2 ≤ n) (hj : j ≤ Nat.log2 (n - 1)) : 2 ^ j < n := by
 have := (Nat.le_log2 (n := n - 1) (k := j) (by omega)).1 hj
 omega
theorem ev_spec_half (n : Nat) (h : 2 ≤ n) (hb : n ≤ 140737488351232) : Ev (fun k => spec_l27Half.f k (n : Int)) (half n : Int) := by
 have key : ∀ d j, j + d = Nat.log2 (n - 1) → Ev (fun k => spec_l27Half.l0 k (n : Int) ((2 ^ j : Nat) : Int)) (half n : Int) := by
  intro d
  induction d with
  | zero =>
   intro j hj
   have hp := pow_le_half n j h (by omega)
   have hp0 : 0 < 2 ^ j := Nat.pow_pos (by omega)
   refine evSucc ?_
   simp only [spec_l27Half.l0]
   rw [w64 (by omega) (by omega)]
   rcases half_step n j h (by omega) with ⟨_, h2⟩ | ⟨h1, h2⟩
   ·omega
   ·rw [h2]; exact evNeg (by omega) (Ev.now _)
  | succ d ih =>
   intro j hj
   have hp := pow_le_half n j h (by omega)
   have hp0 : 0 < 2 ^ j := Nat.pow_pos (by omega)
   refine evSucc ?_
   simp only [spec_l27Half.l0]
   rw [w64 (by omega) (by omega)]
   rcases half_step n j h (by omega) with ⟨h1, _⟩ | ⟨h1, h2⟩
   ·refine evPos (by omega) ?_
    have := ih (j + 1) (by omega)
    rw [show 2 * ((2 ^ j : Nat) : Int) = ((2 ^ (j + 1) : Nat) : Int) by rw [Nat.pow_succ]; omega]
    exact this
   ·rw [h2]; exact evNeg (by omega) (Ev.now _)
 exact key _ 0 (Nat.zero_add _)
theorem ev_impl_half (n : Nat) (h : 2 ≤ n) (hb : n ≤ 140737488351232) : Ev (fun k => impl_firsts.f k (n : Int)) (half n : Int) := by
 have key : ∀ d j, j + d = Nat.log2 (n - 1) → Ev (fun k => impl_firsts.l0 k (n : Int) ((2 ^ j : Nat) : Int)) (half n : Int) := by
  intro d
  induction d with
  | zero =>
   intro j hj
   have hp := pow_le_half n j h (by omega)
   have hp0 : 0 < 2 ^ j := Nat.pow_pos (by omega)
   refine evSucc ?_
   simp only [impl_firsts.l0]
   rw [w64 (by omega) (by omega)]
   rcases half_step n j h (by omega) with ⟨_, h2⟩ | ⟨h1, h2⟩
   ·omega
   ·rw [h2]; exact evNeg (by omega) (Ev.now _)
  | succ d ih =>
   intro j hj
   have hp := pow_le_half n j h (by omega)
   have hp0 : 0 < 2 ^ j := Nat.pow_pos (by omega)
   refine evSucc ?_
   simp only [impl_firsts.l0]
   rw [w64 (by omega) (by omega)]
   rcases half_step n j h (by omega) with ⟨h1, _⟩ | ⟨h1, h2⟩
   ·refine evPos (by omega) ?_
    have := ih (j + 1) (by omega)
    rw [show 2 * ((2 ^ j : Nat) : Int) = ((2 ^ (j + 1) : Nat) : Int) by rw [Nat.pow_succ]; omega]
    exact this
   ·rw [h2]; exact evNeg (by omega) (Ev.now _)
 exact key _ 0 (Nat.zero_add _)
def leafT (x : S70) : ByteArray := leafS x.f0 x.f1 x.f2.f0 x.f2.f1 x.f2.f2 x.f2.f3
def nodeS (a b : ByteArray) : ByteArray := dig (((⟨#[49]⟩ : ByteArray) ++ a) ++ b)
theorem spec_nodeS (a b : ByteArray) (ha : a.size ≤ 16777216) (hb : b.size ≤ 16777216) : spec_NodeOf.f a b = some (nodeS a b) := by
 have s0 : ((⟨#[49]⟩ : ByteArray) ++ a).size = 1 + a.size := by rw [sizeApp]; rfl
 unfold spec_NodeOf.f nodeS
 rw [if_pos (by omega), if_pos (by rw [s0]; omega), dig_spec _ (by rw [sizeApp, s0]; omega)]
 rfl
theorem ev_impl_NodeOf (a b : ByteArray) (ha : a.size ≤ 16777216) (hb : b.size ≤ 16777216) : Ev (fun k => impl_NodeOf.f k a b) (nodeS a b) := by
 have s0 : ((⟨#[49]⟩ : ByteArray) ++ a).size = 1 + a.size := by rw [sizeApp]; rfl
 simp only [impl_NodeOf.f]
 exact evPos (by omega) (evPos (by rw [s0]; omega) (Ev.bind (dig_impl _ (by rw [sizeApp, s0]; omega)) (Ev.now _)))
def rootS (l : List S70) : ByteArray :=
 if h0 : l.length = 0 then dig ⟨#[]⟩ else if h1 : l.length = 1 then leafT (rd_T70 l 0)
 else nodeS (rootS (l.take (half l.length))) (rootS (l.drop (half l.length)))
 termination_by l.length
 decreasing_by
  ·have := half_lt l.length (by omega); simp; omega
  ·have := half_pos l.length; simp; omega
theorem rootS_size (l : List S70) : (rootS l).size = 32 := by
 rw [rootS]
 split
 ·exact dig_size _
 ·split
  ·exact dig_size _
  ·exact dig_size _
theorem ev_impl_RootOf (n : Nat) : ∀ (l : List S70), l.length = n → l.length ≤ 16777216 → Ev (fun k => impl_RootOf.f k l) (rootS l) := by
 induction n using Nat.strongRecOn with
 | ind n ih =>
  intro l hn hl
  refine evSucc ?_
  simp only [impl_RootOf.f]
  rw [rootS]
  by_cases h0 : l.length = 0
  ·rw [dif_pos h0]
   refine evPos (by omega) (Ev.bind (dig_impl _ (by show (⟨#[]⟩ : ByteArray).size ≤ _; decide)) (Ev.now _))
  rw [dif_neg h0]
  by_cases h1 : l.length = 1
  ·rw [dif_pos h1]
   exact evNeg (by omega) (evPos (by omega) (evPos (by omega) (Ev.bind (ev_impl_LeafOf _ _ _ _ _ _) (Ev.now _))))
  rw [dif_neg h1]
  have hk := half_lt l.length (by omega)
  have hp := half_pos l.length
  refine evNeg (by omega) (evNeg (by omega) (Ev.bind (ev_impl_half l.length (by omega) (by omega)) (evPos (by omega) (evPos (by omega) ?_))))
  rw [Int.toNat_natCast]
  refine Ev.bind (ih _ (by rw [List.length_take]; omega) (l.take (half l.length)) rfl (by rw [List.length_take]; omega)) (Ev.bind (ih _ (by rw [List.length_drop]; omega) (l.drop (half l.length)) rfl (by rw [List.length_drop]; omega)) ?_)
  exact Ev.bind (ev_impl_NodeOf _ _ (by rw [rootS_size]; omega) (by rw [rootS_size]; omega)) (Ev.now _)
theorem rdS (l : List ByteArray) (i : Nat) (hi : i < l.length) : rdOf ByteArray.empty l (i : Int) = l[i] := by simp [rdOf, hi]
def topS (leaf : ByteArray) (n : Nat) (i : Int) (p : List ByteArray) : ByteArray × Bool :=
 if n = 1 then (leaf, decide (p.length = 0)) else if h0 : p.length = 0 then (⟨#[]⟩, false)
 else if i < (half n : Int) then (nodeS (topS leaf (half n) i (p.take (p.length - 1))).1 (rdOf ByteArray.empty p ((p.length - 1 : Nat) : Int)), (topS leaf (half n) i (p.take (p.length - 1))).2)
 else (nodeS (rdOf ByteArray.empty p ((p.length - 1 : Nat) : Int)) (topS leaf (n - half n) (i - (half n : Int)) (p.take (p.length - 1))).1, (topS leaf (n - half n) (i - (half n : Int)) (p.take (p.length - 1))).2)
 termination_by p.length
 decreasing_by all_goals (rw [List.length_take]; omega)
theorem topS_size (leaf : ByteArray) (n : Nat) (i : Int) (p : List ByteArray) (hl : leaf.size ≤ 32) : (topS leaf n i p).1.size ≤ 32 := by
 rw [topS]
 split
 ·exact hl
 ·split
  ·decide
  ·split
   ·exact Nat.le_of_eq (dig_size _)
   ·exact Nat.le_of_eq (dig_size _)
theorem lastSize (p : List ByteArray) (h0 : p.length ≠ 0) (hs : ∀ x ∈ p, (x.size : Int) ≤ 1048576) : (rdOf ByteArray.empty p ((p.length - 1 : Nat) : Int)).size ≤ 1048576 := by
 rw [rdS p _ (by omega)]
 have := hs _ (List.getElem_mem (show p.length - 1 < p.length by omega))
 omega
theorem ev_spec_l27Up (leaf : ByteArray) (hf : leaf.size ≤ 32) (m : Nat) : ∀ (p : List ByteArray) (n : Nat) (i : Int), p.length = m → p.length ≤ 1048576 → (∀ x ∈ p, (x.size : Int) ≤ 1048576) → 1 ≤ n → n ≤ 200 → 0 ≤ i → i < n → Ev (fun k => spec_l27Up.f k (n : Int) i leaf p) (topS leaf n i p) := by
 induction m with
 | zero =>
  intro p n i hm _ _ h1 h2 _ _
  refine evSucc ?_
  simp only [spec_l27Up.f]
  rw [topS]
  by_cases hn : n = 1
  ·rw [if_pos hn]
   refine evPos (by omega) (evEq (Ev.now _) ?_)
   simp [hm]
  ·rw [if_neg hn, dif_pos hm]
   exact evNeg (by omega) (evPos (by omega) (Ev.now _))
 | succ m ih =>
  intro p n i hm hl hs h1 h2 h3 h4
  refine evSucc ?_
  simp only [spec_l27Up.f]
  rw [topS]
  by_cases hn : n = 1
  ·rw [if_pos hn]
   refine evPos (by omega) (evEq (Ev.now _) ?_)
   rw [hm]
   have e1 : (((m + 1 : Nat) : Int) == 0) = false := by simp; omega
   rw [e1]; simp
  ·have hk := half_lt n (by omega)
   have hp := half_pos n
   rw [if_neg hn, dif_neg (by omega)]
   have hw : wrap64 ((p.length : Int) - 1) = ((p.length - 1 : Nat) : Int) := by rw [w64 (by omega) (by omega)]; omega
   refine evNeg (by omega) (evNeg (by omega) (Ev.bind (ev_spec_half n (by omega) (by omega)) ?_))
   rw [hw, Int.toNat_natCast, w64 (x := (n : Int) - (half n : Int)) (by omega) (by omega), w64 (x := i - (half n : Int)) (by omega) (by omega)]
   refine evPos (by omega) (evPos (by omega) (evPos (by omega) ?_))
   have hs' : ∀ x ∈ p.take (p.length - 1), (x.size : Int) ≤ 1048576 := fun x hx => hs x (List.mem_of_mem_take hx)
   have hlast := lastSize p (by omega) hs
   by_cases hc : i < (half n : Int)
   ·rw [if_pos hc]
    refine evPos hc (Ev.bind (ih (p.take (p.length - 1)) (half n) i (by rw [List.length_take]; omega) (by rw [List.length_take]; omega) hs' (by omega) (by omega) (by omega) hc) ?_)
    exact evBindS (spec_nodeS _ _ (by have := topS_size leaf (half n) i (p.take (p.length - 1)) hf; omega) (by omega)) (Ev.now _)
   ·rw [if_neg hc]
    have := ih (p.take (p.length - 1)) (n - half n) (i - (half n : Int)) (by rw [List.length_take]; omega) (by rw [List.length_take]; omega) hs' (by omega) (by omega) (by omega) (by omega)
    rw [show ((n - half n : Nat) : Int) = (n : Int) - (half n : Int) by omega] at this
    refine evNeg hc (Ev.bind this ?_)
    exact evBindS (spec_nodeS _ _ (by omega) (by have := topS_size leaf (n - half n) (i - (half n : Int)) (p.take (p.length - 1)) hf; omega)) (Ev.now _)
theorem ev_impl_topOf (leaf : ByteArray) (hf : leaf.size ≤ 32) (m : Nat) : ∀ (p : List ByteArray) (n : Nat) (i : Int), p.length = m → p.length ≤ 1048576 → (∀ x ∈ p, (x.size : Int) ≤ 1048576) → 1 ≤ n → n ≤ 200 → 0 ≤ i → i < n → Ev (fun k => impl_topOf.f k leaf (n : Int) i p) (topS leaf n i p) := by
 induction m with
 | zero =>
  intro p n i hm _ _ h1 h2 _ _
  refine evSucc ?_
  simp only [impl_topOf.f]
  rw [topS]
  by_cases hn : n = 1
  ·rw [if_pos hn]
   refine evPos (by omega) (evEq (Ev.now _) ?_)
   simp [hm]
  ·rw [if_neg hn, dif_pos hm]
   exact evNeg (by omega) (evPos (by omega) (Ev.now _))
 | succ m ih =>
  intro p n i hm hl hs h1 h2 h3 h4
  refine evSucc ?_
  simp only [impl_topOf.f]
  rw [topS]
  by_cases hn : n = 1
  ·rw [if_pos hn]
   refine evPos (by omega) (evEq (Ev.now _) ?_)
   rw [hm]
   have e1 : (((m + 1 : Nat) : Int) == 0) = false := by simp; omega
   rw [e1]; simp
  ·have hk := half_lt n (by omega)
   have hp := half_pos n
   rw [if_neg hn, dif_neg (by omega)]
   have hw : wrap64 ((p.length : Int) - 1) = ((p.length - 1 : Nat) : Int) := by rw [w64 (by omega) (by omega)]; omega
   refine evNeg (by omega) (evNeg (by omega) ?_)
   rw [hw, Int.toNat_natCast]
   refine evPos (by omega) (evPos (by omega) (evPos (by omega) (Ev.bind (ev_impl_half n (by omega) (by omega)) ?_)))
   rw [w64 (x := (n : Int) - (half n : Int)) (by omega) (by omega), w64 (x := i - (half n : Int)) (by omega) (by omega)]
   have hs' : ∀ x ∈ p.take (p.length - 1), (x.size : Int) ≤ 1048576 := fun x hx => hs x (List.mem_of_mem_take hx)
   have hlast := lastSize p (by omega) hs
   by_cases hc : i < (half n : Int)
   ·rw [if_pos hc]
    refine evPos hc (Ev.bind (ih (p.take (p.length - 1)) (half n) i (by rw [List.length_take]; omega) (by rw [List.length_take]; omega) hs' (by omega) (by omega) (by omega) hc) ?_)
    exact Ev.bind (ev_impl_NodeOf _ _ (by have := topS_size leaf (half n) i (p.take (p.length - 1)) hf; omega) (by omega)) (Ev.now _)
   ·rw [if_neg hc]
    have := ih (p.take (p.length - 1)) (n - half n) (i - (half n : Int)) (by rw [List.length_take]; omega) (by rw [List.length_take]; omega) hs' (by omega) (by omega) (by omega) (by omega)
    rw [show ((n - half n : Nat) : Int) = (n : Int) - (half n : Int) by omega] at this
    refine evNeg hc (Ev.bind this ?_)
    exact Ev.bind (ev_impl_NodeOf _ _ (by omega) (by have := topS_size leaf (n - half n) (i - (half n : Int)) (p.take (p.length - 1)) hf; omega)) (Ev.now _)
def pathB (root : ByteArray) (n i : Int) (x : S70) (p : List ByteArray) : Bool :=
 if 1 ≤ n ∧ n ≤ 200 ∧ 0 ≤ i ∧ i < n then (topS (leafT x) n.toNat i p).2 && ((topS (leafT x) n.toNat i p).1.toList == root.toList) else false
theorem ev_spec_PathOk (root : ByteArray) (n i : Int) (x : S70) (p : List ByteArray) (hn : -9223372036854775808 ≤ n) (hl : p.length ≤ 1048576) (hs : ∀ x ∈ p, (x.size : Int) ≤ 1048576) : Ev (fun k => spec_PathOk.f k root n i x.f0 x.f1 x.f2.f0 x.f2.f1 x.f2.f2 x.f2.f3 p) (pathB root n i x p) := by
 simp only [spec_PathOk.f, spec_in, Option.bind_some]
 unfold pathB
 by_cases h1 : 1 ≤ n ∧ n ≤ 200
 ·rw [show rng n 1 200 = true by unfold rng; simp [h1]]
  refine evPos rfl (evSucc ?_)
  rw [w64 (x := n - 1) (by omega) (by omega)]
  simp only [spec_PathOk.j0]
  by_cases h2 : 0 ≤ i ∧ i < n
  ·rw [if_pos ⟨h1.1, h1.2, h2.1, h2.2⟩, show rng i 0 (n - 1) = true by unfold rng; simp; omega]
   refine evNeg (by simp) (Ev.bind (ev_spec_LeafOf _ _ _ _ _ _) ?_)
   have := ev_spec_l27Up (leafT x) (Nat.le_of_eq (dig_size _)) p.length p n.toNat i rfl hl hs (by omega) (by omega) h2.1 (by omega)
   rw [Int.toNat_of_nonneg (by omega)] at this
   refine Ev.bind this ?_
   cases hb : (topS (leafT x) n.toNat i p).2
   ·exact evNeg (by simp) (Ev.now _)
   ·exact evPos rfl (Ev.now _)
  ·rw [if_neg (by omega), show rng i 0 (n - 1) = false by unfold rng; simp; omega]
   exact evPos rfl (Ev.now _)
 ·rw [if_neg (by omega), show rng n 1 200 = false by unfold rng; simp; omega]
  refine evNeg (by simp) (evSucc ?_)
  simp only [spec_PathOk.j0]
  exact evPos (by simp) (Ev.now _)
theorem ev_impl_PathOk (root : ByteArray) (n i : Int) (x : S70) (p : List ByteArray) (hn : -9223372036854775808 ≤ n) (hl : p.length ≤ 1048576) (hs : ∀ x ∈ p, (x.size : Int) ≤ 1048576) : Ev (fun k => impl_PathOk.f k root n i x.f0 x.f1 x.f2.f0 x.f2.f1 x.f2.f2 x.f2.f3 p) (pathB root n i x p) := by
 simp only [impl_PathOk.f, impl_in, Option.bind_some]
 unfold pathB
 by_cases h1 : 1 ≤ n ∧ n ≤ 200
 ·rw [show rng n 1 200 = true by unfold rng; simp [h1]]
  refine evPos rfl (evSucc ?_)
  rw [w64 (x := n - 1) (by omega) (by omega)]
  simp only [impl_PathOk.j0]
  by_cases h2 : 0 ≤ i ∧ i < n
  ·rw [if_pos ⟨h1.1, h1.2, h2.1, h2.2⟩, show rng i 0 (n - 1) = true by unfold rng; simp; omega]
   refine evNeg (by simp) (Ev.bind (ev_impl_LeafOf _ _ _ _ _ _) ?_)
   have := ev_impl_topOf (leafT x) (Nat.le_of_eq (dig_size _)) p.length p n.toNat i rfl hl hs (by omega) (by omega) h2.1 (by omega)
   rw [Int.toNat_of_nonneg (by omega)] at this
   refine Ev.bind this ?_
   cases hb : (topS (leafT x) n.toNat i p).2
   ·exact evNeg (by simp) (Ev.now _)
   ·exact evPos rfl (Ev.now _)
  ·rw [if_neg (by omega), show rng i 0 (n - 1) = false by unfold rng; simp; omega]
   exact evPos rfl (Ev.now _)
 ·rw [if_neg (by omega), show rng n 1 200 = false by unfold rng; simp; omega]
  refine evNeg (by simp) (evSucc ?_)
  simp only [impl_PathOk.j0]
  exact evPos (by simp) (Ev.now _)
def pathS (l : List S70) (i : Nat) : List ByteArray :=
 if h1 : l.length ≤ 1 then []
 else if i < half l.length then pathS (l.take (half l.length)) i ++ [rootS (l.drop (half l.length))]
 else pathS (l.drop (half l.length)) (i - half l.length) ++ [rootS (l.take (half l.length))]
 termination_by l.length
 decreasing_by
  ·have := half_lt l.length (by omega); rw [List.length_take]; omega
  ·have := half_pos l.length; rw [List.length_drop]; omega
theorem pathS_len (n : Nat) : ∀ (l : List S70) (i : Nat), l.length = n → (pathS l i).length ≤ l.length := by
 induction n using Nat.strongRecOn with
 | ind n ih =>
  intro l i hn
  rw [pathS]
  split
  ·exact Nat.zero_le _
  ·have h1 := half_lt l.length (by omega)
   have h2 := half_pos l.length
   split
   ·have := ih (l.take (half l.length)).length (by rw [List.length_take]; omega) (l.take (half l.length)) i rfl
    rw [List.length_append, List.length_singleton]
    rw [List.length_take] at this
    omega
   ·have := ih (l.drop (half l.length)).length (by rw [List.length_drop]; omega) (l.drop (half l.length)) (i - half l.length) rfl
    rw [List.length_append, List.length_singleton]
    rw [List.length_drop] at this
    omega
theorem ev_impl_path (n : Nat) : ∀ (l : List S70) (i : Nat), l.length = n → l.length ≤ 200 → i < l.length → Ev (fun k => impl_path.f k l (i : Int)) (pathS l i) := by
 induction n using Nat.strongRecOn with
 | ind n ih =>
  intro l i hn hl hi
  have hpl := pathS_len l.length l i rfl
  refine evSucc ?_
  simp only [impl_path.f]
  rw [pathS] at hpl ⊢
  by_cases h1 : l.length = 1
  ·rw [dif_pos (by omega)]
   exact evPos (by omega) (Ev.now _)
  rw [dif_neg (by omega)] at hpl ⊢
  have hk := half_lt l.length (by omega)
  have hp := half_pos l.length
  refine evNeg (by omega) (Ev.bind (ev_impl_half l.length (by omega) (by omega)) ?_)
  rw [Int.toNat_natCast]
  by_cases hc : i < half l.length
  ·rw [if_pos hc] at hpl ⊢
   rw [List.length_append, List.length_singleton] at hpl
   refine evPos (by omega) (evPos (by omega) (evPos (by omega) (Ev.bind (ih _ (by rw [List.length_take]; omega) (l.take (half l.length)) i rfl (by rw [List.length_take]; omega) (by rw [List.length_take]; omega)) (Ev.bind (ev_impl_RootOf _ _ rfl (by rw [List.length_drop]; omega)) (evPos (by omega) (Ev.now _))))))
  ·rw [if_neg hc] at hpl ⊢
   rw [List.length_append, List.length_singleton] at hpl
   rw [w64 (x := (i : Int) - (half l.length : Int)) (by omega) (by omega), show (i : Int) - (half l.length : Int) = ((i - half l.length : Nat) : Int) by omega]
   refine evNeg (by omega) (evPos (by omega) (evPos (by omega) (Ev.bind (ih _ (by rw [List.length_drop]; omega) (l.drop (half l.length)) (i - half l.length) rfl (by rw [List.length_drop]; omega) (by rw [List.length_drop]; omega)) (Ev.bind (ev_impl_RootOf _ _ rfl (by rw [List.length_take]; omega)) (evPos (by omega) (Ev.now _))))))
def pathOfB (l : List S70) (i : Int) : List ByteArray × Bool := if l.length ≤ 200 ∧ 0 ≤ i ∧ i < l.length then (pathS l i.toNat, true) else ([], false)
theorem ev_impl_PathOf (l : List S70) (i : Int) (hl : l.length ≤ 16777216) : Ev (fun k => impl_PathOf.f k l i) (pathOfB l i) := by
 simp only [impl_PathOf.f, impl_in, Option.bind_some]
 unfold pathOfB
 by_cases h : l.length ≤ 200
 ·refine evNeg (by omega) ?_
  rw [w64 (x := (l.length : Int) - 1) (by omega) (by omega)]
  by_cases h2 : 0 ≤ i ∧ i < l.length
  ·rw [if_pos ⟨h, h2.1, h2.2⟩, show rng i 0 ((l.length : Int) - 1) = true by unfold rng; simp; omega]
   have := ev_impl_path l.length l i.toNat rfl h (by omega)
   rw [Int.toNat_of_nonneg h2.1] at this
   exact evPos rfl (Ev.bind this (Ev.now _))
  ·rw [if_neg (fun z => h2 z.2), show rng i 0 ((l.length : Int) - 1) = false by unfold rng; simp; omega]
   exact evNeg (by simp) (Ev.now _)
 ·rw [if_neg (fun z => h z.1)]
  exact evPos (by omega) (Ev.now _)
theorem and255 (x : Int) : 0 ≤ Go.bits .and .i64 x 255 ∧ Go.bits .and .i64 x 255 ≤ 255 := by
 have e : Go.bits .and .i64 x 255 = (((BitVec.ofInt 64 x).toNat % 256 : Nat) : Int) := by
  rw [bits_nat]
  show IntKind.wrap .i64 ((BitVec.ofInt 64 x &&& BitVec.ofInt 64 ((255 : Nat) : Int)).toNat : Int) = _
  rw [BitVec.toNat_and, ofInt_nat64 255 (by omega), wrap_i64]
  have : (BitVec.ofInt 64 x).toNat &&& 255 = (BitVec.ofInt 64 x).toNat % 256 := Nat.and_two_pow_sub_one_eq_mod _ 8
  rw [this, w64 (by omega) (by omega)]
 rw [e]
 omega
theorem drawByte (b : List Int) (i h : Int) (h0 : 0 ≤ i) (h1 : i ≤ b.length) (hb : b.length ≤ 16777216) : ∃ x i' h', spec_l01Byte.f b i h = some (x, i', h') ∧ 0 ≤ x ∧ x ≤ 255 ∧ 0 ≤ i' ∧ i' ≤ b.length := by
 unfold spec_l01Byte.f
 by_cases hc : i < (b.length : Int)
 ·rw [if_pos hc, if_pos h0, w64 (x := i + 1) (by omega) (by omega)]
  refine ⟨_, _, _, rfl, (and255 _).1, (and255 _).2, by omega, by omega⟩
 ·rw [if_neg hc]
  exact ⟨_, _, _, rfl, (and255 _).1, (and255 _).2, h0, h1⟩
theorem drawBelow (b : List Int) (i h n : Int) (h0 : 0 ≤ i) (h1 : i ≤ b.length) (hb : b.length ≤ 16777216) (hn : 0 < n) : ∃ x i' h', spec_l01Below.f b i h n = some (x, i', h') ∧ 0 ≤ x ∧ x < n ∧ 0 ≤ i' ∧ i' ≤ b.length := by
 unfold spec_l01Below.f
 rw [if_neg (by omega)]
 by_cases hc : n ≤ 256
 ·obtain ⟨x, i', h', e, x0, x1, i0, i1⟩ := drawByte b i h h0 h1 hb
  rw [if_pos hc, e]
  simp only [Option.bind_some]
  rw [if_neg (by omega), Int.tmod_eq_emod_of_nonneg x0]
  exact ⟨_, _, _, rfl, Int.emod_nonneg _ (by omega), Int.emod_lt_of_pos _ hn, i0, i1⟩
 ·obtain ⟨x, i1, h1', e1, x0, x1, j0, j1⟩ := drawByte b i h h0 h1 hb
  obtain ⟨y, i2, h2', e2, y0, y1, k0, k1⟩ := drawByte b i1 h1' j0 j1 hb
  obtain ⟨z, i3, h3', e3, z0, z1, l0, l1⟩ := drawByte b i2 h2' k0 k1 hb
  obtain ⟨v, i4, h4', e4, v0, v1, m0, m1⟩ := drawByte b i3 h3' l0 l1 hb
  rw [if_neg hc, e1]
  simp only [Option.bind_some, e2, e3, e4]
  rw [if_neg (by omega), w64 (x := x * 16777216) (by omega) (by omega), w64 (x := y * 65536) (by omega) (by omega), w64 (x := x * 16777216 + y * 65536) (by omega) (by omega), w64 (x := z * 256) (by omega) (by omega), w64 (x := x * 16777216 + y * 65536 + z * 256) (by omega) (by omega), w64 (x := x * 16777216 + y * 65536 + z * 256 + v) (by omega) (by omega), Int.tmod_eq_emod_of_nonneg (by omega)]
  exact ⟨_, _, _, rfl, Int.emod_nonneg _ (by omega), Int.emod_lt_of_pos _ hn, m0, m1⟩
theorem drawOnce (b : List Int) (i h n : Int) (h0 : 0 ≤ i) (h1 : i ≤ b.length) (hb : b.length ≤ 16777216) (hn : 0 < n) : ∃ (x : Bool) (i' h' : Int), spec_l01Once.f b i h n = some (x, i', h') ∧ 0 ≤ i' ∧ i' ≤ b.length := by
 unfold spec_l01Once.f
 obtain ⟨x, i', h', e, x0, x1, i0, i1⟩ := drawBelow b i h n h0 h1 hb hn
 rw [e]
 exact ⟨_, _, _, rfl, i0, i1⟩
theorem drawNew (b : List Int) (hb : b.length ≤ 16777216) : ∃ h : Int, Ev (fun k => spec_l01New.f k b) (b, 0, h) := by
 have key : ∀ d (i : Nat) (h : Int), i + d = b.length → ∃ h', Ev (fun k => spec_l01New.l0 k b h (i : Int)) (b, 0, h') := by
  intro d
  induction d with
  | zero =>
   intro i h hi
   refine ⟨h, evSucc ?_⟩
   simp only [spec_l01New.l0]
   exact evNeg (by omega) (Ev.now _)
  | succ d ih =>
   intro i h hi
   by_cases h4 : (i : Int) < 4000
   ·obtain ⟨h', hh⟩ := ih (i + 1) (Go.bits .and .i64 (wrap64 ((wrap64 ((wrap64 (h * 131)) + (wrap64 (rd b (i : Int))))) + 7)) 1073741823) (by omega)
    refine ⟨h', evSucc ?_⟩
    simp only [spec_l01New.l0]
    refine evPos (by omega) (evPos h4 (evPos (by omega) ?_))
    rw [w64 (x := (i : Int) + 1) (by omega) (by omega), ci]
    exact hh
   ·refine ⟨h, evSucc ?_⟩
    simp only [spec_l01New.l0]
    exact evPos (by omega) (evNeg h4 (Ev.now _))
 simp only [spec_l01New.f]
 exact key b.length 0 _ (by omega)
def okE (x : S70) : Bool := frameB 1 x.f0 x.f1 x.f2.f0 x.f2.f1 x.f2.f2 x.f2.f3
theorem drawHalf (b : List Int) (i h : Int) (h0 : 0 ≤ i) (h1 : i ≤ b.length) (hb : b.length ≤ 16777216) : ∃ x i' h', spec_l04Half.f b i h = some (x, i', h') ∧ 0 ≤ x ∧ x ≤ 4294967295 ∧ 0 ≤ i' ∧ i' ≤ b.length := by
 unfold spec_l04Half.f
 obtain ⟨x, i1, h1', e1, x0, x1, j0, j1⟩ := drawBelow b i h 12 h0 h1 hb (by omega)
 rw [e1]
 simp only [Option.bind_some]
 unfold spec_l01PickInt.f
 obtain ⟨y, i2, h2', e2, y0, y1, k0, k1⟩ := drawBelow b i1 h1' (([0, 1, 2, 3, 5, 7, 255, 4294967295, 2147483648, x] : List Int).length : Int) j0 j1 hb (by simp)
 rw [e2]
 simp only [Option.bind_some]
 rw [if_pos y0, if_pos y1]
 simp only [Option.bind_some]
 have hy : y < 10 := y1
 refine ⟨_, _, _, rfl, ?_, ?_, k0, k1⟩
 all_goals
  have hc : y = 0 ∨ y = 1 ∨ y = 2 ∨ y = 3 ∨ y = 4 ∨ y = 5 ∨ y = 6 ∨ y = 7 ∨ y = 8 ∨ y = 9 := by omega
  rcases hc with rfl | rfl | rfl | rfl | rfl | rfl | rfl | rfl | rfl | rfl <;> simp [rd] <;> omega
theorem drawItem (b : List Int) (i h : Int) (h0 : 0 ≤ i) (h1 : i ≤ b.length) (hb : b.length ≤ 16777216) : ∃ c d e f i' h', spec_l17Item.f b i h = some (c, d, e, f, i', h') ∧ itemB c d e f = true ∧ 0 ≤ i' ∧ i' ≤ b.length := by
 unfold spec_l17Item.f
 obtain ⟨x, i1, h1', e1, j0, j1⟩ := drawOnce b i h 3 h0 h1 hb (by omega)
 rw [e1]
 simp only [Option.bind_some]
 cases x
 ·rw [if_neg (by simp)]
  obtain ⟨y, i2, h2', e2, y0, y1, k0, k1⟩ := drawBelow b i1 h1' 9 j0 j1 hb (by omega)
  rw [e2]
  simp only [Option.bind_some]
  obtain ⟨z, i3, h3', e3, z0, z1, l0, l1⟩ := drawHalf b i2 h2' k0 k1 hb
  rw [e3]
  refine ⟨_, _, _, _, _, _, rfl, ?_, l0, l1⟩
  unfold itemB rng
  simp
  omega
 ·rw [if_pos rfl]
  obtain ⟨y, i2, h2', e2, y0, y1, k0, k1⟩ := drawBelow b i1 h1' 5 j0 j1 hb (by omega)
  rw [e2]
  simp only [Option.bind_some]
  rw [w64 (x := 1 + y) (by omega) (by omega)]
  refine ⟨_, _, _, _, _, _, rfl, ?_, k0, k1⟩
  unfold itemB rng
  simp
  omega
theorem drawEntriesGo (b : List Int) (hb : b.length ≤ 16777216) : ∀ (d : Nat) (i h : Int) (n : Nat) (out : List S70), 0 ≤ i → i ≤ b.length → n + d = 5 → out.length = n → out.all okE = true →
 ∃ l i' h', Ev (fun k => spec_l19Entries.l0 k out (n : Int) b i h) (l, i', h') ∧ l.length ≤ 5 ∧ l.all okE = true ∧ 0 ≤ i' ∧ i' ≤ b.length := by
 intro d
 induction d with
 | zero =>
  intro i h n out h0 h1 hn ho ha
  obtain ⟨x, i1, h1', e1, x0, x1, j0, j1⟩ := drawBelow b i h 6 h0 h1 hb (by omega)
  refine ⟨out, i1, h1', evSucc ?_, by omega, ha, j0, j1⟩
  simp only [spec_l19Entries.l0]
  exact evBindS e1 (evNeg (by omega) (Ev.now _))
 | succ d ih =>
  intro i h n out h0 h1 hn ho ha
  obtain ⟨x, i1, h1', e1, x0, x1, j0, j1⟩ := drawBelow b i h 6 h0 h1 hb (by omega)
  by_cases hx : (n : Int) < x
  ·obtain ⟨y, i2, h2', e2, y0, y1, k0, k1⟩ := drawBelow b i1 h1' 3 j0 j1 hb (by omega)
   obtain ⟨z, i3, h3', e3, z0, z1, l0, l1⟩ := drawBelow b i2 h2' 5 k0 k1 hb (by omega)
   obtain ⟨c, e, f, g, i4, h4', e4, hi, m0, m1⟩ := drawItem b i3 h3' l0 l1 hb
   obtain ⟨l, i', h', hev, hl, hall, q0, q1⟩ := ih i4 h4' (n + 1) (out ++ [⟨y, 1 + z, ⟨c, e, f, g⟩⟩]) m0 m1 (by omega) (by simp; omega) (by
    rw [List.all_append, ha]
    simp
    show frameB 1 y (1 + z) c e f g = true
    unfold frameB
    rw [if_pos rfl, hi]
    unfold rng
    simp
    omega)
   refine ⟨l, i', h', evSucc ?_, hl, hall, q0, q1⟩
   simp only [spec_l19Entries.l0]
   refine evBindS e1 (evPos hx (evBindS e2 (evBindS e3 (evBindS e4 (evPos (by omega) ?_)))))
   rw [w64 (x := (n : Int) + 1) (by omega) (by omega), w64 (x := 1 + z) (by omega) (by omega), ci]
   exact hev
  ·refine ⟨out, i1, h1', evSucc ?_, by omega, ha, j0, j1⟩
   simp only [spec_l19Entries.l0]
   exact evBindS e1 (evNeg hx (Ev.now _))
theorem drawEntriesAt (b : List Int) (hb : b.length ≤ 16777216) (i h : Int) (h0 : 0 ≤ i) (h1 : i ≤ b.length) :
 ∃ l i' h', Ev (fun k => spec_l19Entries.f k b i h) (l, i', h') ∧ l.length ≤ 5 ∧ l.all okE = true ∧ 0 ≤ i' ∧ i' ≤ b.length :=
 drawEntriesGo b hb 5 i h 0 [] h0 h1 (by omega) rfl rfl
theorem drawEntries (b : List Int) (hb : b.length ≤ 16777216) : ∃ l, Ev (fun k => spec_DrawEntries.f k b) l ∧ l.length ≤ 5 ∧ l.all okE = true := by
 obtain ⟨h, e⟩ := drawNew b hb
 obtain ⟨l, i', h', e2, hl, ha, _, _⟩ := drawEntriesAt b hb 0 h (by omega) (by omega)
 refine ⟨l, ?_, hl, ha⟩
 simp only [spec_DrawEntries.f]
 exact Ev.bind e (Ev.bind e2 (Ev.now _))
theorem half_ge (n : Nat) (h : 2 ≤ n) : n ≤ 2 * half n := by
 have := Nat.lt_log2_self (n := n - 1)
 unfold half
 rw [Nat.pow_succ] at this
 omega
theorem half_le (n j : Nat) (h : 2 ≤ n) (hj : n ≤ 2 ^ (j + 1)) : half n ≤ 2 ^ j := by
 have : Nat.log2 (n - 1) < j + 1 := (Nat.log2_lt (by omega)).2 (by omega)
 unfold half
 exact Nat.pow_le_pow_right (by omega) (by omega)
theorem pathS_depth (j : Nat) : ∀ (l : List S70) (i : Nat), l.length ≤ 2 ^ j → (pathS l i).length ≤ j := by
 induction j with
 | zero =>
  intro l i h
  rw [pathS, dif_pos (by simpa using h)]
  exact Nat.le_refl _
 | succ j ih =>
  intro l i h
  rw [pathS]
  split
  ·exact Nat.zero_le _
  ·have h1 := half_ge l.length (by omega)
   have h2 := half_le l.length j (by omega) h
   split
   ·have := ih (l.take (half l.length)) i (by rw [List.length_take]; omega)
    rw [List.length_append, List.length_singleton]; omega
   ·have := ih (l.drop (half l.length)) (i - half l.length) (by rw [List.length_drop]; rw [Nat.pow_succ] at h; omega)
    rw [List.length_append, List.length_singleton]; omega
theorem rootS_two (l : List S70) (h : 2 ≤ l.length) : rootS l = nodeS (rootS (l.take (half l.length))) (rootS (l.drop (half l.length))) := by
 rw [rootS, dif_neg (by omega), dif_neg (by omega)]
theorem rootS_one (l : List S70) (h : l.length = 1) : rootS l = leafT (rd_T70 l 0) := by
 rw [rootS, dif_neg (by omega), dif_pos h]
theorem snocLast (p : List ByteArray) (x : ByteArray) : rdOf ByteArray.empty (p ++ [x]) (((p ++ [x]).length - 1 : Nat) : Int) = x ∧ (p ++ [x]).take ((p ++ [x]).length - 1) = p := by
 constructor
 ·rw [rdS _ _ (by simp)]
  simp
 ·simp
theorem rdE' (l : List S70) (i : Nat) (hi : i < l.length) : rd_T70 l (i : Int) = l[i] := by simp [rd_T70, hi]
theorem topS_path (n : Nat) : ∀ (l : List S70) (i : Nat) (hi : i < l.length), l.length = n → topS (leafT l[i]) n (i : Int) (pathS l i) = (rootS l, true) := by
 induction n using Nat.strongRecOn with
 | ind n ih =>
  intro l i hi hn
  by_cases h1 : l.length = 1
  ·have e : pathS l i = [] := by rw [pathS, dif_pos (by omega)]
   obtain rfl : i = 0 := by omega
   have h0 := rdE' l 0 hi
   rw [show ((0 : Nat) : Int) = 0 from rfl] at h0
   rw [e, topS, if_pos (by omega), rootS_one l h1, h0]
   rfl
  ·have hk := half_lt l.length (by omega)
   have hp := half_pos l.length
   rw [rootS_two l (by omega)]
   by_cases hc : i < half l.length
   ·have e : pathS l i = pathS (l.take (half l.length)) i ++ [rootS (l.drop (half l.length))] := by rw [pathS, dif_neg (by omega), if_pos hc]
    have hs := snocLast (pathS (l.take (half l.length)) i) (rootS (l.drop (half l.length)))
    have hlt : (l.take (half l.length)).length = half l.length := by rw [List.length_take]; omega
    have h := ih (half l.length) (by omega) (l.take (half l.length)) i (by omega) hlt
    rw [List.getElem_take] at h
    subst hn
    rw [e, topS, if_neg h1, dif_neg (by simp), if_pos (by omega), hs.1, hs.2, h]
   ·have e : pathS l i = pathS (l.drop (half l.length)) (i - half l.length) ++ [rootS (l.take (half l.length))] := by rw [pathS, dif_neg (by omega), if_neg hc]
    have hs := snocLast (pathS (l.drop (half l.length)) (i - half l.length)) (rootS (l.take (half l.length)))
    have hlt : (l.drop (half l.length)).length = l.length - half l.length := by rw [List.length_drop]
    have h := ih (l.length - half l.length) (by omega) (l.drop (half l.length)) (i - half l.length) (by omega) hlt
    have hg : (l.drop (half l.length))[i - half l.length]'(by omega) = l[i] := by
     rw [List.getElem_drop]
     congr 1
     omega
    rw [hg] at h
    subst hn
    rw [e, topS, if_neg h1, dif_neg (by simp), if_neg (by omega), hs.1, hs.2, show (i : Int) - (half l.length : Int) = ((i - half l.length : Nat) : Int) by omega, h]
theorem pathB_ok (l : List S70) (i : Nat) (hi : i < l.length) (hl : l.length ≤ 200) : pathB (rootS l) (l.length : Int) (i : Int) l[i] (pathS l i) = true := by
 have h := topS_path l.length l i hi rfl
 unfold pathB
 rw [if_pos (by omega), Int.toNat_natCast, h]
 simp
theorem pathS_sizes (n : Nat) : ∀ (l : List S70) (i : Nat), l.length = n → ∀ x ∈ pathS l i, (x.size : Int) ≤ 1048576 := by
 induction n using Nat.strongRecOn with
 | ind n ih =>
  intro l i hn x hx
  rw [pathS] at hx
  split at hx
  ·cases hx
  ·have hk := half_lt l.length (by omega)
   have hp := half_pos l.length
   split at hx
   ·rcases List.mem_append.1 hx with hx | hx
    ·exact ih _ (by rw [List.length_take]; omega) (l.take (half l.length)) i rfl x hx
    ·rw [List.mem_singleton.1 hx, rootS_size]; omega
   ·rcases List.mem_append.1 hx with hx | hx
    ·exact ih _ (by rw [List.length_drop]; omega) (l.drop (half l.length)) (i - half l.length) rfl x hx
    ·rw [List.mem_singleton.1 hx, rootS_size]; omega
theorem FnTree : PureFnTree.Stated := by
 intro code ⟨_, hb⟩
 refine Ev.rounds ?_
 simp only [laws_FnTree.f, laws_big.f, Option.bind_some]
 by_cases hc : (code.length : Int) > 1048576
 ·exact evPos (by simpa using hc) (Ev.now _)
 refine evNeg (by simpa using hc) ?_
 obtain ⟨a, ea, la, _⟩ := drawEntries code (by omega)
 obtain ⟨b, eb, lb, _⟩ := drawEntries ([5] ++ code) (by simp; omega)
 refine Ev.bind ea (evPos (by simp; omega) (evPos (by simp; omega) (Ev.bind eb (evPos (by simp; omega) ?_))))
 rw [List.nil_append]
 have hl : (a ++ b).length ≤ 10 := by simp; omega
 generalize a ++ b = l at hl ⊢
 refine Ev.bind (ev_impl_RootOf _ l rfl (by omega)) ?_
 have key := evUp (r := true) l.length (fun i k => laws_FnTree.l0 k l (rootS l) (l.length : Int) (i : Int)) ?_ ?_
 ·exact key
 ·intro i hi ih
  refine evSucc ?_
  simp only [laws_FnTree.l0]
  have hp : pathOfB l (i : Int) = (pathS l i, true) := by
   unfold pathOfB
   rw [if_pos (by omega), Int.toNat_natCast]
  have hd := pathS_depth 4 l i (by omega)
  have hd' : ((pathS l i, true) : List ByteArray × Bool).1.length ≤ 4 := hd
  have ho := pathB_ok l i hi (by omega)
  have hs := pathS_sizes _ l i rfl
  refine evPos (by omega) (Ev.bind (evEq (ev_impl_PathOf l (i : Int) (by omega)) hp) (evPos rfl (evNeg (by omega) (evPos (by omega) (evPos (by omega) ?_)))))
  rw [rdE' l i hi, w64 (x := (i : Int) + 1) (by omega) (by omega), ci]
  refine Ev.bind (evEq (ev_impl_PathOk (rootS l) _ _ l[i] _ (by omega) (by omega) hs) ho) (evPos rfl ?_)
  exact Ev.bind (evEq (ev_spec_PathOk (rootS l) _ _ l[i] _ (by omega) (by omega) hs) ho) (evPos rfl ih)
 ·refine evSucc ?_
  simp only [laws_FnTree.l0]
  have hp : pathOfB l (l.length : Int) = ([], false) := by
   unfold pathOfB
   rw [if_neg (by omega)]
  refine evNeg (by omega) (Ev.bind (evEq (ev_impl_PathOf l _ (by omega)) hp) (evNeg (by simp) (evPos (by rw [rootS_size]; rfl) ?_)))
  by_cases h1 : l.length = 1
  ·refine evPos (by omega) (evPos (by omega) (Ev.bind (ev_impl_LeafOf _ _ _ _ _ _) (evPos ?_ (evPos (by omega) (Ev.now _)))))
   rw [rootS_one l h1]
   rfl
  ·refine evNeg (by omega) ?_
   by_cases h2 : 0 < l.length
   ·exact evPos (by omega) (Ev.now _)
   ·refine evNeg (by omega) (evBindS (dig_spec _ (by show (⟨#[]⟩ : ByteArray).size ≤ _; decide)) (evEq (Ev.now _) ?_))
    rw [rootS, dif_pos (by omega)]
    simp

end Go.Proofs.YtdhjolglbcoijaaDoor.Pure
