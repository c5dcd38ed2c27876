/- Contracts of functions of the program and of the reference, and plain lemmas on what they compute: a part of the proof of the law FnTreeParts. No condition. -/
import Derived.Test.YtdhjolglbcoijaaDoorG7ebe2x0
import Derived.Test.YtdhjolglbcoijaaDoorG2bc1bx0
import Derived.Test.YtdhjolglbcoijaaDoorGff98bx0
import Derived.Test.YtdhjolglbcoijaaDoorGee5d4x0
import Derived.Test.YtdhjolglbcoijaaDoorGe8c03x0
import Derived.Test.YtdhjolglbcoijaaDoorWWords
import Derived.ChangeArms
import Derived.ChangeOld
import Derived.WideShapes
import Derived.OpenShut
import Derived.DataElems
import Derived.Test.YtdhjolglbcoijaaDoorWMore
import Derived.Test.YtdhjolglbcoijaaDoorG7ebe2x2
import Derived.Test.YtdhjolglbcoijaaDoorRows
import Derived.WalkKit
import Derived.ProofKit
import Derived.ShutString
import Derived.Below
import Derived.SizedLaws
import Derived.Carry
import Derived.LaidLaws
import Derived.LaidMore
import Derived.MakeChecks
import Derived.Stop.Joined
import Derived.ChangeVars
import Derived.Lib.LaidTab
import Derived.Test.YtdhjolglbcoijaaDoorCards
import Derived.Test.YtdhjolglbcoijaaDoorTie
import Derived.SevenTiedAt
import Derived.Test.YtdhjolglbcoijaaDoorShort
namespace Go.Proofs.YtdhjolglbcoijaaDoor.PA
open Go.RowKit Go.Proofs.YtdhjolglbcoijaaDoor.Short Go.Proofs.YtdhjolglbcoijaaDoorW.PrintWords Go.Proofs.YtdhjolglbcoijaaDoorW.PrintLast Go.Proofs.YtdhjolglbcoijaaDoorW.PrintMore
attribute [local go_sem] max2_int min2_int max_two min_two max_three min_three max_four min_four   -- for this text's walks alone
set_option linter.unusedVariables false
set_option linter.unusedSimpArgs false

/-! ### laws_FnTreeParts: function 10 -/
def laws_FnTreeParts.l0 : Nat → List (S70) → Int → Int → Option (Bool)
 | 0, _, _, _ => none
 | k + 1, x3, x4, x5 => if (wrap64 (2 * x5)) < x4 then (laws_FnTreeParts.l0 k x3 x4 (wrap64 (2 * x5))) else (if 0 ≤ x5 then (if x5 ≤ (x3.length : Int) then ((impl_RootOf.f k (x3.take (x5 : Int).toNat)).bind fun t974 => ((impl_RootOf.f k (x3.drop (x5 : Int).toNat)).bind fun t979 => ((impl_PathOf.f k x3 (wrap64 (x4 - 1))).bind fun bt980 => ((impl_NodeOf.f k t974 t979).bind fun t984 => ((impl_RootOf.f k x3).bind fun t985 => (if t984.toList = t985.toList then (if bt980.2 = true then (if (bt980.1.length : Int) > 0 then (if 0 ≤ (wrap64 ((bt980.1.length : Int) - 1)) then (if (wrap64 ((bt980.1.length : Int) - 1)) < (bt980.1.length : Int) then (if (rdOf ByteArray.empty bt980.1 (wrap64 ((bt980.1.length : Int) - 1))).toList = t974.toList then ((impl_NodeOf.f k t974 t979).bind fun t987 => ((spec_NodeOf.f t974 t979).bind fun t988 => (some (t987.toList == t988.toList)))) else (some false)) else (none)) else (none)) else (some false)) else (some false)) else (some false))))))) else (none)) else (none))
def laws_FnTreeParts.f (k : Nat) (l0 : List Int) : Option (Bool) := (laws_big.f l0).bind fun t946 => (if t946 = true then (some true) else ((some (([] : List (S70)) : List (S70))).bind fun y947 => ((spec_DrawEntries.f k l0).bind fun t950 => (if y947.length + t950.length < 2932031007402 then ((some (y947 ++ t950 : List (S70))).bind fun y953 => ((some (([5] : List Int) : List Int)).bind fun y956 => (if y956.length + l0.length < 140737488355328 then ((spec_DrawEntries.f k (y956 ++ l0)).bind fun t962 => (if y953.length + t962.length < 2932031007402 then ((some (y953 ++ t962 : List (S70))).bind fun y965 => (if (y965.length : Int) < 2 then ((impl_RootOf.f k y965).bind fun t968 => ((spec_RootOf.f k y965).bind fun t969 => (some (t968.toList == t969.toList)))) else (laws_FnTreeParts.l0 k y965 (y965.length : Int) 1))) else (none))) else (none)))) else (none)))))
theorem laws_FnTreeParts.mono_l : ∀ k, (∀ y0 y1 y2, LeO (laws_FnTreeParts.l0 k y0 y1 y2) (laws_FnTreeParts.l0 (k + 1) y0 y1 y2))
 | 0 => fun _ _ _ r h => by simp [laws_FnTreeParts.l0] at h
 | k + 1 => by
  have ih0 := laws_FnTreeParts.mono_l k
  ·intro y0 y1 y2
   unfold laws_FnTreeParts.l0
   repeat' first
   | (with_reducible exact ih0 _ _ _)
   | (with_reducible exact impl_NodeOf.mono _ _ _)
   | (with_reducible exact impl_PathOf.mono _ _ _)
   | (with_reducible exact impl_RootOf.mono _ _)
   | (with_reducible exact spec_DrawEntries.mono _ _)
   | (with_reducible exact spec_RootOf.mono _ _)
   | (with_reducible exact LeO.refl _)
   | (with_reducible exact LeO.none _)
   | (with_reducible refine LeO.ite ?_ ?_)
   | (with_reducible refine LeO.bind ?_ (fun _ => ?_))
   | exact ih0 _ _ _
   | exact impl_NodeOf.mono _ _ _
   | exact impl_PathOf.mono _ _ _
   | exact impl_RootOf.mono _ _
   | exact spec_DrawEntries.mono _ _
   | exact spec_RootOf.mono _ _
   | exact LeO.none _
   | refine LeO.ite ?_ ?_
   | refine LeO.bind ?_ (fun _ => ?_)
theorem laws_FnTreeParts.mono : ∀ a0 k, LeO (laws_FnTreeParts.f k a0) (laws_FnTreeParts.f (k + 1) a0) := by
 intro a0 k
 have ih0 := laws_FnTreeParts.mono_l k
 unfold laws_FnTreeParts.f
 repeat' first
  | (with_reducible exact ih0 _ _ _)
  | (with_reducible exact impl_NodeOf.mono _ _ _)
  | (with_reducible exact impl_PathOf.mono _ _ _)
  | (with_reducible exact impl_RootOf.mono _ _)
  | (with_reducible exact spec_DrawEntries.mono _ _)
  | (with_reducible exact spec_RootOf.mono _ _)
  | (with_reducible exact LeO.refl _)
  | (with_reducible exact LeO.none _)
  | (with_reducible refine LeO.ite ?_ ?_)
  | (with_reducible refine LeO.bind ?_ (fun _ => ?_))
  | exact ih0 _ _ _
  | exact impl_NodeOf.mono _ _ _
  | exact impl_PathOf.mono _ _ _
  | exact impl_RootOf.mono _ _
  | exact spec_DrawEntries.mono _ _
  | exact spec_RootOf.mono _ _
  | exact LeO.none _
  | refine LeO.ite ?_ ?_
  | refine LeO.bind ?_ (fun _ => ?_)
set_option maxHeartbeats 8000000 in
set_option maxRecDepth 100000 in
theorem laws_FnTreeParts.calls (k : Nat) (A0 : Option Addr) (c0 : Nat) (l0 : List Int) (r : Bool) (w : World) (hr0 : Kd.C (Kd.int .u8) w A0 l0.length l0) (hc0 : l0.length ≤ c0) (hT : Tab w) (hr1 : r = true) (h : laws_FnTreeParts.f k l0 = some r) :
 Calls Tryd.prog 10 #[.slice A0 l0.length c0] w fun e w' => e = .returned (.bool r) ∧ Below w.heap.size w w' := by
 have HR0 := Aside0.mk hr0
 have HC0 := Aside0.mk hc0
 clear hr0 hc0
 have HT := Aside0.mk hT
 clear hT
 have HR1 := Aside0.mk hr1
 clear hr1
 have HB := Aside0.mk (Below.refl w.heap.size w)
 have H : ((laws_big.f l0).bind fun t946 => (if t946 = true then (some true) else ((some (([] : List (S70)) : List (S70))).bind fun y947 => ((spec_DrawEntries.f k l0).bind fun t950 => (if y947.length + t950.length < 2932031007402 then ((some (y947 ++ t950 : List (S70))).bind fun y953 => ((some (([5] : List Int) : List Int)).bind fun y956 => (if y956.length + l0.length < 140737488355328 then ((spec_DrawEntries.f k (y956 ++ l0)).bind fun t962 => (if y953.length + t962.length < 2932031007402 then ((some (y953 ++ t962 : List (S70))).bind fun y965 => (if (y965.length : Int) < 2 then ((impl_RootOf.f k y965).bind fun t968 => ((spec_RootOf.f k y965).bind fun t969 => (some (t968.toList == t969.toList)))) else (laws_FnTreeParts.l0 k y965 (y965.length : Int) 1))) else (none))) else (none)))) else (none)))))) = some r := h
 clear h
 replace H := Option.bind_eq_some_iff.mp H
 obtain ⟨t946, A20, H⟩ := H
 replace H : (if t946 = true then (some true) else ((some (([] : List (S70)) : List (S70))).bind fun y947 => ((spec_DrawEntries.f k l0).bind fun t950 => (if y947.length + t950.length < 2932031007402 then ((some (y947 ++ t950 : List (S70))).bind fun y953 => ((some (([5] : List Int) : List Int)).bind fun y956 => (if y956.length + l0.length < 140737488355328 then ((spec_DrawEntries.f k (y956 ++ l0)).bind fun t962 => (if y953.length + t962.length < 2932031007402 then ((some (y953 ++ t962 : List (S70))).bind fun y965 => (if (y965.length : Int) < 2 then ((impl_RootOf.f k y965).bind fun t968 => ((spec_RootOf.f k y965).bind fun t969 => (some (t968.toList == t969.toList)))) else (laws_FnTreeParts.l0 k y965 (y965.length : Int) 1))) else (none))) else (none)))) else (none))))) = some r := H
 have A2 := Aside0.mk A20
 clear A20
 by_cases c3 : t946 = true
 ·subst c3
  have H1 : (some true) = some r := by rw [if_pos rfl] at H; exact H
  clear H
  have H := H1
  clear H1
  obtain rfl := Option.some.inj H
  go_enter Tryd.func10, Tryd.ntmps10
  go_wp2_with (first | ((with_reducible refine gate_callee (f := 47) rfl ?_); refine goesL_ (some 11) rfl rfl Tryd.func47 (by kernel_rfl) rfl #[.slice A0 l0.length c0] rfl lm_ ?_; (with_reducible refine (laws_big.calls _ _ l0 true _ ?side1 ?side2 A2.out).mono ?_); (case side1 => repeat (first | exact HR0.out | (with_reducible refine Kd.C_alloc ?_ _) | (with_reducible refine Kd.C_drewN ?_ _) | (with_reducible refine Kd.C_drew ?_))); (case side2 => exact HC0.out); rintro e w' ⟨rfl, ⟨nd, rfl⟩⟩; refine ⟨_, rfl, ?_⟩))
  go_ret
  exact ⟨by first | rfl | (simp [errW_none, errW_some] <;> rfl) | (simp [*, errW_none, errW_some] <;> rfl), bl_⟩
 ·replace c3 := Bool.eq_false_iff.mpr c3
  subst c3
  have H1 : ((some (([] : List (S70)) : List (S70))).bind fun y947 => ((spec_DrawEntries.f k l0).bind fun t950 => (if y947.length + t950.length < 2932031007402 then ((some (y947 ++ t950 : List (S70))).bind fun y953 => ((some (([5] : List Int) : List Int)).bind fun y956 => (if y956.length + l0.length < 140737488355328 then ((spec_DrawEntries.f k (y956 ++ l0)).bind fun t962 => (if y953.length + t962.length < 2932031007402 then ((some (y953 ++ t962 : List (S70))).bind fun y965 => (if (y965.length : Int) < 2 then ((impl_RootOf.f k y965).bind fun t968 => ((spec_RootOf.f k y965).bind fun t969 => (some (t968.toList == t969.toList)))) else (laws_FnTreeParts.l0 k y965 (y965.length : Int) 1))) else (none))) else (none)))) else (none)))) = some r := by rw [if_neg (show ¬ (false = true) by decide)] at H; exact H
  clear H
  have H := H1
  clear H1
  obtain ⟨y947, hy947⟩ : ∃ y_ : List (S70), y_ = (([] : List (S70))) := ⟨_, rfl⟩
  replace H : ((spec_DrawEntries.f k l0).bind fun t950 => (if y947.length + t950.length < 2932031007402 then ((some (y947 ++ t950 : List (S70))).bind fun y953 => ((some (([5] : List Int) : List Int)).bind fun y956 => (if y956.length + l0.length < 140737488355328 then ((spec_DrawEntries.f k (y956 ++ l0)).bind fun t962 => (if y953.length + t962.length < 2932031007402 then ((some (y953 ++ t962 : List (S70))).bind fun y965 => (if (y965.length : Int) < 2 then ((impl_RootOf.f k y965).bind fun t968 => ((spec_RootOf.f k y965).bind fun t969 => (some (t968.toList == t969.toList)))) else (laws_FnTreeParts.l0 k y965 (y965.length : Int) 1))) else (none))) else (none)))) else (none))) = some r := by first | (rw [hy947]; with_reducible exact H) | (have H2_ := (Option.bind_some _ _).symm.trans H; rw [hy947]; with_reducible exact H2_) | (have H2_ := (Option.bind_some _ _).symm.trans H; with_reducible exact H2_) | with_reducible exact H | (rw [hy947]; exact H) | exact H
  have Ny947 := Aside0.mk hy947
  clear hy947
  replace H := Option.bind_eq_some_iff.mp H
  obtain ⟨t950, A40, H⟩ := H
  replace H : (if y947.length + t950.length < 2932031007402 then ((some (y947 ++ t950 : List (S70))).bind fun y953 => ((some (([5] : List Int) : List Int)).bind fun y956 => (if y956.length + l0.length < 140737488355328 then ((spec_DrawEntries.f k (y956 ++ l0)).bind fun t962 => (if y953.length + t962.length < 2932031007402 then ((some (y953 ++ t962 : List (S70))).bind fun y965 => (if (y965.length : Int) < 2 then ((impl_RootOf.f k y965).bind fun t968 => ((spec_RootOf.f k y965).bind fun t969 => (some (t968.toList == t969.toList)))) else (laws_FnTreeParts.l0 k y965 (y965.length : Int) 1))) else (none))) else (none)))) else (none)) = some r := H
  have A4 := Aside0.mk A40
  clear A40
  by_cases c5 : y947.length + t950.length < 2932031007402
  ·rw [if_pos c5] at H
   have LMc5 := Aside0.mk c5
   clear c5
   obtain ⟨y953, hy953⟩ : ∃ y_ : List (S70), y_ = (y947 ++ t950) := ⟨_, rfl⟩
   replace H : ((some (([5] : List Int) : List Int)).bind fun y956 => (if y956.length + l0.length < 140737488355328 then ((spec_DrawEntries.f k (y956 ++ l0)).bind fun t962 => (if y953.length + t962.length < 2932031007402 then ((some (y953 ++ t962 : List (S70))).bind fun y965 => (if (y965.length : Int) < 2 then ((impl_RootOf.f k y965).bind fun t968 => ((spec_RootOf.f k y965).bind fun t969 => (some (t968.toList == t969.toList)))) else (laws_FnTreeParts.l0 k y965 (y965.length : Int) 1))) else (none))) else (none))) = some r := by first | (rw [hy953]; with_reducible exact H) | (have H2_ := (Option.bind_some _ _).symm.trans H; rw [hy953]; with_reducible exact H2_) | (have H2_ := (Option.bind_some _ _).symm.trans H; with_reducible exact H2_) | with_reducible exact H | (rw [hy953]; exact H) | exact H
   have Ny953 := Aside0.mk hy953
   clear hy953
   obtain ⟨y956, hy956⟩ : ∃ y_ : List Int, y_ = (([5] : List Int)) := ⟨_, rfl⟩
   replace H : (if y956.length + l0.length < 140737488355328 then ((spec_DrawEntries.f k (y956 ++ l0)).bind fun t962 => (if y953.length + t962.length < 2932031007402 then ((some (y953 ++ t962 : List (S70))).bind fun y965 => (if (y965.length : Int) < 2 then ((impl_RootOf.f k y965).bind fun t968 => ((spec_RootOf.f k y965).bind fun t969 => (some (t968.toList == t969.toList)))) else (laws_FnTreeParts.l0 k y965 (y965.length : Int) 1))) else (none))) else (none)) = some r := by first | (rw [hy956]; with_reducible exact H) | (have H2_ := (Option.bind_some _ _).symm.trans H; rw [hy956]; with_reducible exact H2_) | (have H2_ := (Option.bind_some _ _).symm.trans H; with_reducible exact H2_) | with_reducible exact H | (rw [hy956]; exact H) | exact H
   have Ny956 := Aside0.mk hy956
   clear hy956
   by_cases c6 : y956.length + l0.length < 140737488355328
   ·rw [if_pos c6] at H
    have LMc6 := Aside0.mk c6
    clear c6
    obtain ⟨y959, hy959⟩ : ∃ y_ : List Int, y_ = (y956 ++ l0) := ⟨_, rfl⟩
    replace H : ((spec_DrawEntries.f k y959).bind fun t962 => (if y953.length + t962.length < 2932031007402 then ((some (y953 ++ t962 : List (S70))).bind fun y965 => (if (y965.length : Int) < 2 then ((impl_RootOf.f k y965).bind fun t968 => ((spec_RootOf.f k y965).bind fun t969 => (some (t968.toList == t969.toList)))) else (laws_FnTreeParts.l0 k y965 (y965.length : Int) 1))) else (none))) = some r := by first | (rw [hy959]; with_reducible exact H) | (have H2_ := (Option.bind_some _ _).symm.trans H; rw [hy959]; with_reducible exact H2_) | (have H2_ := (Option.bind_some _ _).symm.trans H; with_reducible exact H2_) | with_reducible exact H | (rw [hy959]; exact H) | exact H
    have Ny959 := Aside0.mk hy959
    clear hy959
    replace H := Option.bind_eq_some_iff.mp H
    obtain ⟨t962, A70, H⟩ := H
    replace H : (if y953.length + t962.length < 2932031007402 then ((some (y953 ++ t962 : List (S70))).bind fun y965 => (if (y965.length : Int) < 2 then ((impl_RootOf.f k y965).bind fun t968 => ((spec_RootOf.f k y965).bind fun t969 => (some (t968.toList == t969.toList)))) else (laws_FnTreeParts.l0 k y965 (y965.length : Int) 1))) else (none)) = some r := H
    have A7 := Aside0.mk A70
    clear A70
    by_cases c8 : y953.length + t962.length < 2932031007402
    ·rw [if_pos c8] at H
     have LMc8 := Aside0.mk c8
     clear c8
     obtain ⟨y965, hy965⟩ : ∃ y_ : List (S70), y_ = (y953 ++ t962) := ⟨_, rfl⟩
     replace H : (if (y965.length : Int) < 2 then ((impl_RootOf.f k y965).bind fun t968 => ((spec_RootOf.f k y965).bind fun t969 => (some (t968.toList == t969.toList)))) else (laws_FnTreeParts.l0 k y965 (y965.length : Int) 1)) = some r := by first | (rw [hy965]; with_reducible exact H) | (have H2_ := (Option.bind_some _ _).symm.trans H; rw [hy965]; with_reducible exact H2_) | (have H2_ := (Option.bind_some _ _).symm.trans H; with_reducible exact H2_) | with_reducible exact H | (rw [hy965]; exact H) | exact H
     have Ny965 := Aside0.mk hy965
     clear hy965
     by_cases c9 : (y965.length : Int) < 2
     ·rw [if_pos c9] at H
      have c9b0 : decide ((y965.length : Int) < 2) = true := decide_eq_true c9
      have c9b1 : decide (y965.length < 2) = true := decide_eq_true (by omega)
      clear c9
      replace H := Option.bind_eq_some_iff.mp H
      obtain ⟨t968, A100, H⟩ := H
      replace H : ((spec_RootOf.f k y965).bind fun t969 => (some (t968.toList == t969.toList))) = some r := H
      have A10 := Aside0.mk A100
      clear A100
      replace H := Option.bind_eq_some_iff.mp H
      obtain ⟨t969, A110, H⟩ := H
      replace H : (some (t968.toList == t969.toList)) = some r := H
      have A11 := Aside0.mk A110
      clear A110
      obtain rfl := Option.some.inj H
      go_enter Tryd.func10, Tryd.ntmps10
      go_wp2_with (first | ((with_reducible refine gate_callee (f := 47) rfl ?_); refine goesL_ (some 11) rfl rfl Tryd.func47 (by kernel_rfl) rfl #[.slice A0 l0.length c0] rfl lm_ ?_; (with_reducible refine (laws_big.calls _ _ l0 false _ ?side1 ?side2 A2.out).mono ?_); (case side1 => repeat (first | exact HR0.out | (with_reducible refine Kd.C_alloc ?_ _) | (with_reducible refine Kd.C_drewN ?_ _) | (with_reducible refine Kd.C_drew ?_))); (case side2 => exact HC0.out); rintro e w' ⟨rfl, ⟨nd, rfl⟩⟩; refine ⟨_, rfl, ?_⟩) | ((with_reducible refine gate_dst (N := 12) rfl ?_); (try (refine gate_guard (by rfl) ?_; dsimp only)); refine Kd.R_lit k70 _ 70 ?hg (N := 12) ?hd (xs := ([] : List (S70))) (inner := []) (ok := fun _ => True) (okp := fun _ => True) ?hr ?hp (fun _ hk => hk) trivial (Below.refl _ _) (Nat.le_refl _) (by simp) ?_; (case hd => rfl); (case hg => rfl); (case hr => first | (go_simp; done) | (go_simp; rfl)); (case hp => exact (Reps.none _ _)); intro v948 w12 ho13 hb hg_ hnew_; clear hg_ hnew_; (first | rw [← Ny947.out] at ho13 | (simp only [Int.reduceToNat] at ho13; rw [← Ny947.out] at ho13)); have n0_ := Aside0.mk (Kd.R_lower ho13 (below_size bl_)); have n1_ := Aside0.mk (below_step bl_ hb); clear HB; have HO949 := n0_; have HB := n1_; clear n0_ n1_; clear hb ho13) | ((with_reducible refine gate_callee (f := 48) rfl ?_); refine goesL_ (some 14) rfl rfl Tryd.func48 (by kernel_rfl) rfl #[.slice A0 l0.length c0] rfl lm_ ?_; (with_reducible refine (spec_DrawEntries.calls k _ _ l0 t950 _ ?side1 ?side2 A4.out).mono ?_); (case side1 => repeat (first | exact (Kd.C_below HR0.out HB.out) | exact HR0.out | (with_reducible refine Kd.C_alloc ?_ _) | (with_reducible refine Kd.C_drewN ?_ _) | (with_reducible refine Kd.C_drew ?_))); (case side2 => exact HC0.out); rintro e w14 ⟨v951, rfl, ho0, hb⟩; refine ⟨_, rfl, ?_⟩; have n0_ := Aside0.mk (Kd.R_elder' (ra_ HO949.out) (Kd.R_base ho0) hb); have n1_ := Aside0.mk (Kd.R_lower (Kd.R_new' ho0 (Kd.R_lt (ra_ HO949.out))) (below_size bl_)); have n2_ := Aside0.mk (below_step bl_ hb); clear HO949; clear HB; have HO949 := n0_; have HO952 := n1_; have HB := n2_; clear n0_ n1_ n2_; (try clear hb); (try clear hb2); (try clear hk); (try clear hi); (try clear ho0); obtain ⟨Ao16, co16, eo16⟩ := Kd.R_slice HO952.out; subst eo16) | ((with_reducible refine gate_builtin (b := .append) (xs := #[.tmp 12, .tmp 14]) rfl ?_); (try (refine gate_guard (by rfl) ?_; dsimp only)); at_builtin; refine Kd.R_append_rows k70 (w0 := w) w.heap.size rfl (.tmp 12) (.tmp 14) 28 70 (.agg #[(.int .i64 0), (.int .i64 0), (.int .i64 0), (.int .i64 0), (.int .i64 0), (.int .i64 0)]) 48 rfl Tryd.underlying28 info70 rfl (by decide) (by omega) v948 y947 t950 _ _ _ (fun k_ => some k_ ≠ (.slice Ao16 t950.length co16 : Value).ownBlock) (fun _ => False) rfl rfl ?aO ?aR (fun _ _ h => h) (fun _ h => h.elim) ?aF ?aB ?aS ?aL ?_; (case aR => repeat (first | exact (Kd.R_reads' HO952.out).2.2 | (with_reducible refine Kd.C_alloc ?_ _) | (with_reducible refine Kd.C_drewN ?_ _) | (with_reducible refine Kd.C_drew ?_))); (case aB => exact bl_); (case aF => exact (fun k_ hk => Kd.fresh' (Kd.R_lt (ra_ HO952.out)) k_ hk)); (case aO => exact (by (with_reducible repeat (first | apply Kd.R_alloc | apply Kd.R_drewN | apply Kd.R_drew)); exact Kd.R_mono HO949.out (fun _ hk => hk.2))); (case aS => exact (below_size bl_)); (case aL => have := LMc5.out; omega); intro v954 w15 ho hb hg hat; rw [← Ny953.out] at ho; have n0_ := Aside0.mk (Kd.R_after (ok := (fun _ => True)) (ra_ HO952.out) hg hat); have n1_ := Aside0.mk (hb); have n2_ := Aside0.mk (ho); clear HO952; clear HB; clear HO949; have HO952 := n0_; have HB := n1_; have HO955 := n2_; clear n0_ n1_ n2_; clear ho hb hg hat) | ((with_reducible refine gate_dst (N := 16) rfl ?_); (try (refine gate_guard (by rfl) ?_; dsimp only)); refine Kd.R_lit (Kd.int .u8) _ 5 ?hg (N := 16) ?hd (xs := ([5] : List Int)) (inner := [.int .u8 5]) (ok := fun _ => True) (okp := fun _ => True) ?hr ?hp (fun _ hk => hk) trivial (Below.refl _ _) (Nat.le_refl _) (by simp) ?_; (case hd => rfl); (case hg => rfl); (case hr => first | (go_simp; done) | (go_simp; rfl)); (case hp => exact (Reps.one (show Kd.M (Kd.int .u8) _ _ _ 5 [.int .u8 5] from rfl) (Reps.none _ _))); intro v957 w17 ho18 hb hg_ hnew_; clear hg_ hnew_; (first | rw [← Ny956.out] at ho18 | (simp only [Int.reduceToNat] at ho18; rw [← Ny956.out] at ho18)); have n0_ := Aside0.mk (Kd.R_below (ra_ HO952.out) hb); have n1_ := Aside0.mk (Kd.R_below (ra_ HO955.out) hb); have n2_ := Aside0.mk (Kd.R_lower ho18 (below_size bl_)); have n3_ := Aside0.mk (below_step bl_ hb); clear HO952; clear HO955; clear HB; have HO952 := n0_; have HO955 := n1_; have HO958 := n2_; have HB := n3_; clear n0_ n1_ n2_ n3_; clear hb ho18) | ((with_reducible refine gate_builtin (b := .append) (xs := #[.tmp 16, .tmp 17]) rfl ?_); (try (refine gate_guard (by rfl) ?_; dsimp only)); at_builtin; refine Kd.R_append_rows (Kd.int .u8) (w0 := w) w.heap.size rfl (.tmp 16) (.tmp 17) 61 5 (.int .u8 0) 1 rfl Tryd.underlying61 info5 rfl (by decide) (by omega) v957 y956 l0 _ _ _ (fun _ => True) (fun _ => False) rfl rfl ?aO ?aR (fun _ _ h => h) (fun _ h => h.elim) ?aF ?aB ?aS ?aL ?_; (case aR => repeat (first | exact (Kd.C_below HR0.out HB.out) | exact HR0.out | (with_reducible refine Kd.C_alloc ?_ _) | (with_reducible refine Kd.C_drewN ?_ _) | (with_reducible refine Kd.C_drew ?_))); (case aB => exact bl_); (case aF => exact (fun _ _ => trivial)); (case aO => exact (ra_ HO958.out)); (case aS => exact (below_size bl_)); (case aL => have := LMc6.out; omega); intro v960 w19 ho hb hg hat; rw [← Ny959.out] at ho; have n0_ := Aside0.mk (Kd.R_over' (ra_ HO952.out) (Kd.R_typed (ra_ HO958.out)) (by decide) hg); have n1_ := Aside0.mk (Kd.R_over' (ra_ HO955.out) (Kd.R_typed (ra_ HO958.out)) (by decide) hg); have n2_ := Aside0.mk (hb); have n3_ := Aside0.mk (ho); clear HO952; clear HO955; clear HB; clear HO958; have HO952 := n0_; have HO955 := n1_; have HB := n2_; have HO961 := n3_; clear n0_ n1_ n2_ n3_; clear ho hb hg hat; obtain ⟨Ao20, co20, eo20⟩ := Kd.R_slice HO961.out; subst eo20) | ((with_reducible refine gate_callee (f := 48) rfl ?_); refine goesL_ (some 19) rfl rfl Tryd.func48 (by kernel_rfl) rfl #[.slice Ao20 y959.length co20] rfl lm_ ?_; (with_reducible refine (spec_DrawEntries.calls k _ _ y959 t962 _ ?side1 ?side2 A7.out).mono ?_); (case side1 => repeat (first | exact (Kd.R_reads' HO961.out).2.2 | (with_reducible refine Kd.C_alloc ?_ _) | (with_reducible refine Kd.C_drewN ?_ _) | (with_reducible refine Kd.C_drew ?_))); (case side2 => exact (Kd.R_reads' HO961.out).2.1); rintro e w21 ⟨v963, rfl, ho0, hb⟩; refine ⟨_, rfl, ?_⟩; have n0_ := Aside0.mk (Kd.R_elder' (ra_ HO952.out) (Kd.R_base ho0) hb); have n1_ := Aside0.mk (Kd.R_elder' (ra_ HO955.out) (Kd.R_base ho0) hb); have n2_ := Aside0.mk (Kd.R_below (ra_ HO961.out) hb); have n3_ := Aside0.mk (Kd.R_lower (Kd.R_new' (Kd.R_new' ho0 (Kd.R_lt (ra_ HO952.out))) (Kd.R_lt (ra_ HO955.out))) (below_size bl_)); have n4_ := Aside0.mk (below_step bl_ hb); clear HO952; clear HO955; clear HO961; clear HB; have HO952 := n0_; have HO955 := n1_; have HO961 := n2_; have HO964 := n3_; have HB := n4_; clear n0_ n1_ n2_ n3_ n4_; (try clear hb); (try clear hb2); (try clear hk); (try clear hi); (try clear ho0); obtain ⟨Ao23, co23, eo23⟩ := Kd.R_slice HO964.out; subst eo23) | ((with_reducible refine gate_builtin (b := .append) (xs := #[.tmp 15, .tmp 19]) rfl ?_); (try (refine gate_guard (by rfl) ?_; dsimp only)); at_builtin; refine Kd.R_append_rows k70 (w0 := w) w.heap.size rfl (.tmp 15) (.tmp 19) 28 70 (.agg #[(.int .i64 0), (.int .i64 0), (.int .i64 0), (.int .i64 0), (.int .i64 0), (.int .i64 0)]) 48 rfl Tryd.underlying28 info70 rfl (by decide) (by omega) v954 y953 t962 _ _ _ (fun k_ => some k_ ≠ (.slice Ao16 t950.length co16 : Value).ownBlock ∧ some k_ ≠ (.slice Ao23 t962.length co23 : Value).ownBlock) (fun _ => False) rfl rfl ?aO ?aR (fun _ _ h => h) (fun _ h => h.elim) ?aF ?aB ?aS ?aL ?_; (case aR => repeat (first | exact (Kd.R_reads' HO964.out).2.2 | (with_reducible refine Kd.C_alloc ?_ _) | (with_reducible refine Kd.C_drewN ?_ _) | (with_reducible refine Kd.C_drew ?_))); (case aB => exact bl_); (case aF => exact (fun k_ hk => ⟨Kd.fresh' (Kd.R_lt (ra_ HO952.out)) k_ hk, Kd.fresh' (Kd.R_lt (ra_ HO964.out)) k_ hk⟩)); (case aO => exact (ra_ HO955.out)); (case aS => exact (below_size bl_)); (case aL => have := LMc8.out; omega); intro v966 w22 ho hb hg hat; rw [← Ny965.out] at ho; have n0_ := Aside0.mk (Kd.R_after (ok := (fun k_ => some k_ ≠ (.slice Ao23 t962.length co23 : Value).ownBlock)) (by (with_reducible repeat (first | apply Kd.R_alloc | apply Kd.R_drewN | apply Kd.R_drew)); exact Kd.R_mono HO952.out (fun _ hk => ⟨hk.2, hk.1.2⟩)) hg hat); have n1_ := Aside0.mk (Kd.R_over' (ra_ HO961.out) (Kd.R_typed (ra_ HO955.out)) (by decide) hg); have n2_ := Aside0.mk (Kd.R_after (ok := (fun k_ => some k_ ≠ (.slice Ao16 t950.length co16 : Value).ownBlock)) (by (with_reducible repeat (first | apply Kd.R_alloc | apply Kd.R_drewN | apply Kd.R_drew)); exact Kd.R_mono HO964.out (fun _ hk => ⟨hk.1.2, hk.2⟩)) hg hat); have n3_ := Aside0.mk (hb); have n4_ := Aside0.mk (ho); clear HO952; clear HO961; clear HO964; clear HB; clear HO955; have HO952 := n0_; have HO961 := n1_; have HO964 := n2_; have HB := n3_; have HO967 := n4_; clear n0_ n1_ n2_ n3_ n4_; clear ho hb hg hat; obtain ⟨Ao24, co24, eo24⟩ := Kd.R_slice HO967.out; subst eo24) | ((with_reducible refine gate_callee (f := 49) rfl ?_); refine goesL_ (some 26) rfl rfl Tryd.func49 (by kernel_rfl) rfl #[.slice Ao24 y965.length co24] rfl lm_ ?_; (with_reducible refine (impl_RootOf.calls k _ _ y965 t968 _ ?side1 ?side2 ?side3 A10.out).mono ?_); (case side1 => repeat (first | exact (Kd.R_reads' HO967.out).2.2 | (with_reducible refine Kd.C_alloc ?_ _) | (with_reducible refine Kd.C_drewN ?_ _) | (with_reducible refine Kd.C_drew ?_))); (case side2 => exact (Kd.R_reads' HO967.out).2.1); (case side3 => exact tab_of HT.out bl_); rintro e w25 ⟨rfl, hb⟩; refine ⟨_, rfl, ?_⟩; have n0_ := Aside0.mk (Kd.R_below (ra_ HO952.out) hb); have n1_ := Aside0.mk (Kd.R_below (ra_ HO961.out) hb); have n2_ := Aside0.mk (Kd.R_below (ra_ HO964.out) hb); have n3_ := Aside0.mk (Kd.R_below (ra_ HO967.out) hb); have n4_ := Aside0.mk (below_step bl_ hb); clear HO952; clear HO961; clear HO964; clear HO967; clear HB; have HO952 := n0_; have HO961 := n1_; have HO964 := n2_; have HO967 := n3_; have HB := n4_; clear n0_ n1_ n2_ n3_ n4_; (try clear hb); (try clear hb2); (try clear hk); (try clear hi)) | ((with_reducible refine gate_callee (f := 50) rfl ?_); refine goesL_ (some 28) rfl rfl Tryd.func50 (by kernel_rfl) rfl #[.slice Ao24 y965.length co24] rfl lm_ ?_; (with_reducible refine (spec_RootOf.calls k _ _ y965 t969 _ ?side1 ?side2 A11.out).mono ?_); (case side1 => repeat (first | exact (Kd.R_reads' HO967.out).2.2 | (with_reducible refine Kd.C_alloc ?_ _) | (with_reducible refine Kd.C_drewN ?_ _) | (with_reducible refine Kd.C_drew ?_))); (case side2 => exact (Kd.R_reads' HO967.out).2.1); rintro e w26 ⟨rfl, hb⟩; refine ⟨_, rfl, ?_⟩; have n0_ := Aside0.mk (Kd.R_below (ra_ HO952.out) hb); have n1_ := Aside0.mk (Kd.R_below (ra_ HO961.out) hb); have n2_ := Aside0.mk (Kd.R_below (ra_ HO964.out) hb); have n3_ := Aside0.mk (Kd.R_below (ra_ HO967.out) hb); have n4_ := Aside0.mk (below_step bl_ hb); clear HO952; clear HO961; clear HO964; clear HO967; clear HB; have HO952 := n0_; have HO961 := n1_; have HO964 := n2_; have HO967 := n3_; have HB := n4_; clear n0_ n1_ n2_ n3_ n4_; (try clear hb); (try clear hb2); (try clear hk); (try clear hi)))
      go_ret
      exact ⟨by first | rfl | (simp [errW_none, errW_some] <;> rfl) | (simp [*, errW_none, errW_some] <;> rfl), bl_⟩
     ·rw [if_neg c9] at H
      have c9b0 : decide ((y965.length : Int) < 2) = false := decide_eq_false c9
      have c9b1 : decide (y965.length < 2) = false := decide_eq_false (by omega)
      clear c9
      have H' := Aside0.mk H
      clear H
      go_enter Tryd.func10, Tryd.ntmps10
      go_wp2_with (first | ((with_reducible refine gate_callee (f := 47) rfl ?_); refine goesL_ (some 11) rfl rfl Tryd.func47 (by kernel_rfl) rfl #[.slice A0 l0.length c0] rfl lm_ ?_; (with_reducible refine (laws_big.calls _ _ l0 false _ ?side1 ?side2 A2.out).mono ?_); (case side1 => repeat (first | exact HR0.out | (with_reducible refine Kd.C_alloc ?_ _) | (with_reducible refine Kd.C_drewN ?_ _) | (with_reducible refine Kd.C_drew ?_))); (case side2 => exact HC0.out); rintro e w' ⟨rfl, ⟨nd, rfl⟩⟩; refine ⟨_, rfl, ?_⟩) | ((with_reducible refine gate_dst (N := 12) rfl ?_); (try (refine gate_guard (by rfl) ?_; dsimp only)); refine Kd.R_lit k70 _ 70 ?hg (N := 12) ?hd (xs := ([] : List (S70))) (inner := []) (ok := fun _ => True) (okp := fun _ => True) ?hr ?hp (fun _ hk => hk) trivial (Below.refl _ _) (Nat.le_refl _) (by simp) ?_; (case hd => rfl); (case hg => rfl); (case hr => first | (go_simp; done) | (go_simp; rfl)); (case hp => exact (Reps.none _ _)); intro v948 w27 ho28 hb hg_ hnew_; clear hg_ hnew_; (first | rw [← Ny947.out] at ho28 | (simp only [Int.reduceToNat] at ho28; rw [← Ny947.out] at ho28)); have n0_ := Aside0.mk (Kd.R_lower ho28 (below_size bl_)); have n1_ := Aside0.mk (below_step bl_ hb); clear HB; have HO949 := n0_; have HB := n1_; clear n0_ n1_; clear hb ho28) | ((with_reducible refine gate_callee (f := 48) rfl ?_); refine goesL_ (some 14) rfl rfl Tryd.func48 (by kernel_rfl) rfl #[.slice A0 l0.length c0] rfl lm_ ?_; (with_reducible refine (spec_DrawEntries.calls k _ _ l0 t950 _ ?side1 ?side2 A4.out).mono ?_); (case side1 => repeat (first | exact (Kd.C_below HR0.out HB.out) | exact HR0.out | (with_reducible refine Kd.C_alloc ?_ _) | (with_reducible refine Kd.C_drewN ?_ _) | (with_reducible refine Kd.C_drew ?_))); (case side2 => exact HC0.out); rintro e w29 ⟨v951, rfl, ho0, hb⟩; refine ⟨_, rfl, ?_⟩; have n0_ := Aside0.mk (Kd.R_elder' (ra_ HO949.out) (Kd.R_base ho0) hb); have n1_ := Aside0.mk (Kd.R_lower (Kd.R_new' ho0 (Kd.R_lt (ra_ HO949.out))) (below_size bl_)); have n2_ := Aside0.mk (below_step bl_ hb); clear HO949; clear HB; have HO949 := n0_; have HO952 := n1_; have HB := n2_; clear n0_ n1_ n2_; (try clear hb); (try clear hb2); (try clear hk); (try clear hi); (try clear ho0); obtain ⟨Ao31, co31, eo31⟩ := Kd.R_slice HO952.out; subst eo31) | ((with_reducible refine gate_builtin (b := .append) (xs := #[.tmp 12, .tmp 14]) rfl ?_); (try (refine gate_guard (by rfl) ?_; dsimp only)); at_builtin; refine Kd.R_append_rows k70 (w0 := w) w.heap.size rfl (.tmp 12) (.tmp 14) 28 70 (.agg #[(.int .i64 0), (.int .i64 0), (.int .i64 0), (.int .i64 0), (.int .i64 0), (.int .i64 0)]) 48 rfl Tryd.underlying28 info70 rfl (by decide) (by omega) v948 y947 t950 _ _ _ (fun k_ => some k_ ≠ (.slice Ao31 t950.length co31 : Value).ownBlock) (fun _ => False) rfl rfl ?aO ?aR (fun _ _ h => h) (fun _ h => h.elim) ?aF ?aB ?aS ?aL ?_; (case aR => repeat (first | exact (Kd.R_reads' HO952.out).2.2 | (with_reducible refine Kd.C_alloc ?_ _) | (with_reducible refine Kd.C_drewN ?_ _) | (with_reducible refine Kd.C_drew ?_))); (case aB => exact bl_); (case aF => exact (fun k_ hk => Kd.fresh' (Kd.R_lt (ra_ HO952.out)) k_ hk)); (case aO => exact (by (with_reducible repeat (first | apply Kd.R_alloc | apply Kd.R_drewN | apply Kd.R_drew)); exact Kd.R_mono HO949.out (fun _ hk => hk.2))); (case aS => exact (below_size bl_)); (case aL => have := LMc5.out; omega); intro v954 w30 ho hb hg hat; rw [← Ny953.out] at ho; have n0_ := Aside0.mk (Kd.R_after (ok := (fun _ => True)) (ra_ HO952.out) hg hat); have n1_ := Aside0.mk (hb); have n2_ := Aside0.mk (ho); clear HO952; clear HB; clear HO949; have HO952 := n0_; have HB := n1_; have HO955 := n2_; clear n0_ n1_ n2_; clear ho hb hg hat) | ((with_reducible refine gate_dst (N := 16) rfl ?_); (try (refine gate_guard (by rfl) ?_; dsimp only)); refine Kd.R_lit (Kd.int .u8) _ 5 ?hg (N := 16) ?hd (xs := ([5] : List Int)) (inner := [.int .u8 5]) (ok := fun _ => True) (okp := fun _ => True) ?hr ?hp (fun _ hk => hk) trivial (Below.refl _ _) (Nat.le_refl _) (by simp) ?_; (case hd => rfl); (case hg => rfl); (case hr => first | (go_simp; done) | (go_simp; rfl)); (case hp => exact (Reps.one (show Kd.M (Kd.int .u8) _ _ _ 5 [.int .u8 5] from rfl) (Reps.none _ _))); intro v957 w32 ho33 hb hg_ hnew_; clear hg_ hnew_; (first | rw [← Ny956.out] at ho33 | (simp only [Int.reduceToNat] at ho33; rw [← Ny956.out] at ho33)); have n0_ := Aside0.mk (Kd.R_below (ra_ HO952.out) hb); have n1_ := Aside0.mk (Kd.R_below (ra_ HO955.out) hb); have n2_ := Aside0.mk (Kd.R_lower ho33 (below_size bl_)); have n3_ := Aside0.mk (below_step bl_ hb); clear HO952; clear HO955; clear HB; have HO952 := n0_; have HO955 := n1_; have HO958 := n2_; have HB := n3_; clear n0_ n1_ n2_ n3_; clear hb ho33) | ((with_reducible refine gate_builtin (b := .append) (xs := #[.tmp 16, .tmp 17]) rfl ?_); (try (refine gate_guard (by rfl) ?_; dsimp only)); at_builtin; refine Kd.R_append_rows (Kd.int .u8) (w0 := w) w.heap.size rfl (.tmp 16) (.tmp 17) 61 5 (.int .u8 0) 1 rfl Tryd.underlying61 info5 rfl (by decide) (by omega) v957 y956 l0 _ _ _ (fun _ => True) (fun _ => False) rfl rfl ?aO ?aR (fun _ _ h => h) (fun _ h => h.elim) ?aF ?aB ?aS ?aL ?_; (case aR => repeat (first | exact (Kd.C_below HR0.out HB.out) | exact HR0.out | (with_reducible refine Kd.C_alloc ?_ _) | (with_reducible refine Kd.C_drewN ?_ _) | (with_reducible refine Kd.C_drew ?_))); (case aB => exact bl_); (case aF => exact (fun _ _ => trivial)); (case aO => exact (ra_ HO958.out)); (case aS => exact (below_size bl_)); (case aL => have := LMc6.out; omega); intro v960 w34 ho hb hg hat; rw [← Ny959.out] at ho; have n0_ := Aside0.mk (Kd.R_over' (ra_ HO952.out) (Kd.R_typed (ra_ HO958.out)) (by decide) hg); have n1_ := Aside0.mk (Kd.R_over' (ra_ HO955.out) (Kd.R_typed (ra_ HO958.out)) (by decide) hg); have n2_ := Aside0.mk (hb); have n3_ := Aside0.mk (ho); clear HO952; clear HO955; clear HB; clear HO958; have HO952 := n0_; have HO955 := n1_; have HB := n2_; have HO961 := n3_; clear n0_ n1_ n2_ n3_; clear ho hb hg hat; obtain ⟨Ao35, co35, eo35⟩ := Kd.R_slice HO961.out; subst eo35) | ((with_reducible refine gate_callee (f := 48) rfl ?_); refine goesL_ (some 19) rfl rfl Tryd.func48 (by kernel_rfl) rfl #[.slice Ao35 y959.length co35] rfl lm_ ?_; (with_reducible refine (spec_DrawEntries.calls k _ _ y959 t962 _ ?side1 ?side2 A7.out).mono ?_); (case side1 => repeat (first | exact (Kd.R_reads' HO961.out).2.2 | (with_reducible refine Kd.C_alloc ?_ _) | (with_reducible refine Kd.C_drewN ?_ _) | (with_reducible refine Kd.C_drew ?_))); (case side2 => exact (Kd.R_reads' HO961.out).2.1); rintro e w36 ⟨v963, rfl, ho0, hb⟩; refine ⟨_, rfl, ?_⟩; have n0_ := Aside0.mk (Kd.R_elder' (ra_ HO952.out) (Kd.R_base ho0) hb); have n1_ := Aside0.mk (Kd.R_elder' (ra_ HO955.out) (Kd.R_base ho0) hb); have n2_ := Aside0.mk (Kd.R_below (ra_ HO961.out) hb); have n3_ := Aside0.mk (Kd.R_lower (Kd.R_new' (Kd.R_new' ho0 (Kd.R_lt (ra_ HO952.out))) (Kd.R_lt (ra_ HO955.out))) (below_size bl_)); have n4_ := Aside0.mk (below_step bl_ hb); clear HO952; clear HO955; clear HO961; clear HB; have HO952 := n0_; have HO955 := n1_; have HO961 := n2_; have HO964 := n3_; have HB := n4_; clear n0_ n1_ n2_ n3_ n4_; (try clear hb); (try clear hb2); (try clear hk); (try clear hi); (try clear ho0); obtain ⟨Ao38, co38, eo38⟩ := Kd.R_slice HO964.out; subst eo38) | ((with_reducible refine gate_builtin (b := .append) (xs := #[.tmp 15, .tmp 19]) rfl ?_); (try (refine gate_guard (by rfl) ?_; dsimp only)); at_builtin; refine Kd.R_append_rows k70 (w0 := w) w.heap.size rfl (.tmp 15) (.tmp 19) 28 70 (.agg #[(.int .i64 0), (.int .i64 0), (.int .i64 0), (.int .i64 0), (.int .i64 0), (.int .i64 0)]) 48 rfl Tryd.underlying28 info70 rfl (by decide) (by omega) v954 y953 t962 _ _ _ (fun k_ => some k_ ≠ (.slice Ao31 t950.length co31 : Value).ownBlock ∧ some k_ ≠ (.slice Ao38 t962.length co38 : Value).ownBlock) (fun _ => False) rfl rfl ?aO ?aR (fun _ _ h => h) (fun _ h => h.elim) ?aF ?aB ?aS ?aL ?_; (case aR => repeat (first | exact (Kd.R_reads' HO964.out).2.2 | (with_reducible refine Kd.C_alloc ?_ _) | (with_reducible refine Kd.C_drewN ?_ _) | (with_reducible refine Kd.C_drew ?_))); (case aB => exact bl_); (case aF => exact (fun k_ hk => ⟨Kd.fresh' (Kd.R_lt (ra_ HO952.out)) k_ hk, Kd.fresh' (Kd.R_lt (ra_ HO964.out)) k_ hk⟩)); (case aO => exact (ra_ HO955.out)); (case aS => exact (below_size bl_)); (case aL => have := LMc8.out; omega); intro v966 w37 ho hb hg hat; rw [← Ny965.out] at ho; have n0_ := Aside0.mk (Kd.R_after (ok := (fun k_ => some k_ ≠ (.slice Ao38 t962.length co38 : Value).ownBlock)) (by (with_reducible repeat (first | apply Kd.R_alloc | apply Kd.R_drewN | apply Kd.R_drew)); exact Kd.R_mono HO952.out (fun _ hk => ⟨hk.2, hk.1.2⟩)) hg hat); have n1_ := Aside0.mk (Kd.R_over' (ra_ HO961.out) (Kd.R_typed (ra_ HO955.out)) (by decide) hg); have n2_ := Aside0.mk (Kd.R_after (ok := (fun k_ => some k_ ≠ (.slice Ao31 t950.length co31 : Value).ownBlock)) (by (with_reducible repeat (first | apply Kd.R_alloc | apply Kd.R_drewN | apply Kd.R_drew)); exact Kd.R_mono HO964.out (fun _ hk => ⟨hk.1.2, hk.2⟩)) hg hat); have n3_ := Aside0.mk (hb); have n4_ := Aside0.mk (ho); clear HO952; clear HO961; clear HO964; clear HB; clear HO955; have HO952 := n0_; have HO961 := n1_; have HO964 := n2_; have HB := n3_; have HO967 := n4_; clear n0_ n1_ n2_ n3_ n4_; clear ho hb hg hat; obtain ⟨Ao39, co39, eo39⟩ := Kd.R_slice HO967.out; subst eo39))
      go_loopg [5] k (fun kq v5 w' => ∃ (x5_1 : Int), v5 = .int .i64 x5_1 ∧ Aside0 (laws_FnTreeParts.l0 kq y965 (y965.length : Int) x5_1 = some r) ∧ Aside0 (kq ≤ k) ∧ Aside0 (Kd.R k70 70 w' w.heap.size (fun _ => True) (.slice Ao39 y965.length co39) y965) ∧ Aside0 (Below w.heap.size w w'))
      case atStart => exact ⟨(1), (by first | rfl | (simp; done) | (simp [*]; done)), H', ⟨Nat.le_refl _⟩, ⟨by (with_reducible repeat (first | apply Kd.R_alloc | apply Kd.R_drewN | apply Kd.R_drew)); exact Kd.R_mono HO967.out (fun _ hk => trivial)⟩, ⟨bl_⟩⟩
      case round =>
       clear H'
       try clear c1
       try clear p2
       try clear c3
       try clear c4
       try clear c5
       try clear c6
       try clear c8
       try clear c9
       try clear c9b0
       try clear c9b1
       try clear c10
       obtain ⟨x5_1, rfl, HA, HK1, HO_3, HB⟩ := hrel
       cases gk with
       | zero => exact absurd HA.out (by simp [laws_FnTreeParts.l0])
       | succ k1 =>
        have H := HA.out
        clear HA
        simp only [laws_FnTreeParts.l0] at H
        by_cases c40 : (wrap64 (2 * x5_1)) < (y965.length : Int)
        ·rw [if_pos c40] at H
         have c40b0 : decide ((wrap64 (2 * x5_1)) < (y965.length : Int)) = true := decide_eq_true c40
         clear c40
         have H' := Aside0.mk H
         clear H
         go_wp2
         go_roundg k1
         case measure => have := HK1.out; omega
         case rel => exact ⟨(wrap64 (2 * x5_1)), (by first | rfl | (simp; done) | (simp [*]; done)), H', ⟨by have := HK1.out; omega⟩, ⟨ra_ HO_3.out⟩, ⟨bl_⟩⟩
        ·rw [if_neg c40] at H
         have c40b0 : decide ((wrap64 (2 * x5_1)) < (y965.length : Int)) = false := decide_eq_false c40
         clear c40
         by_cases c41 : 0 ≤ x5_1
         ·rw [if_pos c41] at H
          have c41b0 := eq_true c41
          have c41b1 : decide (0 ≤ x5_1) = true := decide_eq_true c41
          clear c41
          by_cases c42 : x5_1 ≤ (y965.length : Int)
          ·rw [if_pos c42] at H
           have c42b0 := eq_true c42
           have c42b1 : decide (x5_1 ≤ (y965.length : Int)) = true := decide_eq_true c42
           clear c42
           obtain ⟨y970, hy970⟩ : ∃ y_ : List (S70), y_ = (y965.take (x5_1 : Int).toNat) := ⟨_, rfl⟩
           replace H : ((impl_RootOf.f k1 y970).bind fun t974 => ((impl_RootOf.f k1 (y965.drop (x5_1 : Int).toNat)).bind fun t979 => ((impl_PathOf.f k1 y965 (wrap64 ((y965.length : Int) - 1))).bind fun bt980 => ((impl_NodeOf.f k1 t974 t979).bind fun t984 => ((impl_RootOf.f k1 y965).bind fun t985 => (if t984.toList = t985.toList then (if bt980.2 = true then (if (bt980.1.length : Int) > 0 then (if 0 ≤ (wrap64 ((bt980.1.length : Int) - 1)) then (if (wrap64 ((bt980.1.length : Int) - 1)) < (bt980.1.length : Int) then (if (rdOf ByteArray.empty bt980.1 (wrap64 ((bt980.1.length : Int) - 1))).toList = t974.toList then ((impl_NodeOf.f k1 t974 t979).bind fun t987 => ((spec_NodeOf.f t974 t979).bind fun t988 => (some (t987.toList == t988.toList)))) else (some false)) else (none)) else (none)) else (some false)) else (some false)) else (some false))))))) = some r := by first | (rw [hy970]; with_reducible exact H) | (have H2_ := (Option.bind_some _ _).symm.trans H; rw [hy970]; with_reducible exact H2_) | (have H2_ := (Option.bind_some _ _).symm.trans H; with_reducible exact H2_) | with_reducible exact H | (rw [hy970]; exact H) | exact H
           have Ny970 := Aside0.mk hy970
           clear hy970
           replace H := Option.bind_eq_some_iff.mp H
           obtain ⟨t974, A430, H⟩ := H
           replace H : ((impl_RootOf.f k1 (y965.drop (x5_1 : Int).toNat)).bind fun t979 => ((impl_PathOf.f k1 y965 (wrap64 ((y965.length : Int) - 1))).bind fun bt980 => ((impl_NodeOf.f k1 t974 t979).bind fun t984 => ((impl_RootOf.f k1 y965).bind fun t985 => (if t984.toList = t985.toList then (if bt980.2 = true then (if (bt980.1.length : Int) > 0 then (if 0 ≤ (wrap64 ((bt980.1.length : Int) - 1)) then (if (wrap64 ((bt980.1.length : Int) - 1)) < (bt980.1.length : Int) then (if (rdOf ByteArray.empty bt980.1 (wrap64 ((bt980.1.length : Int) - 1))).toList = t974.toList then ((impl_NodeOf.f k1 t974 t979).bind fun t987 => ((spec_NodeOf.f t974 t979).bind fun t988 => (some (t987.toList == t988.toList)))) else (some false)) else (none)) else (none)) else (some false)) else (some false)) else (some false)))))) = some r := H
           have A43 := Aside0.mk A430
           clear A430
           have c44b0 := eq_true (of_decide_eq_true as_ : 0 ≤ x5_1)
           have c45b0 := eq_true (of_decide_eq_true as_ : x5_1 ≤ (y965.length : Int))
           obtain ⟨y975, hy975⟩ : ∃ y_ : List (S70), y_ = (y965.drop (x5_1 : Int).toNat) := ⟨_, rfl⟩
           replace H : ((impl_RootOf.f k1 y975).bind fun t979 => ((impl_PathOf.f k1 y965 (wrap64 ((y965.length : Int) - 1))).bind fun bt980 => ((impl_NodeOf.f k1 t974 t979).bind fun t984 => ((impl_RootOf.f k1 y965).bind fun t985 => (if t984.toList = t985.toList then (if bt980.2 = true then (if (bt980.1.length : Int) > 0 then (if 0 ≤ (wrap64 ((bt980.1.length : Int) - 1)) then (if (wrap64 ((bt980.1.length : Int) - 1)) < (bt980.1.length : Int) then (if (rdOf ByteArray.empty bt980.1 (wrap64 ((bt980.1.length : Int) - 1))).toList = t974.toList then ((impl_NodeOf.f k1 t974 t979).bind fun t987 => ((spec_NodeOf.f t974 t979).bind fun t988 => (some (t987.toList == t988.toList)))) else (some false)) else (none)) else (none)) else (some false)) else (some false)) else (some false)))))) = some r := by first | (rw [hy975]; with_reducible exact H) | (have H2_ := (Option.bind_some _ _).symm.trans H; rw [hy975]; with_reducible exact H2_) | (have H2_ := (Option.bind_some _ _).symm.trans H; with_reducible exact H2_) | with_reducible exact H | (rw [hy975]; exact H) | exact H
           have Ny975 := Aside0.mk hy975
           clear hy975
           replace H := Option.bind_eq_some_iff.mp H
           obtain ⟨t979, A460, H⟩ := H
           replace H : ((impl_PathOf.f k1 y965 (wrap64 ((y965.length : Int) - 1))).bind fun bt980 => ((impl_NodeOf.f k1 t974 t979).bind fun t984 => ((impl_RootOf.f k1 y965).bind fun t985 => (if t984.toList = t985.toList then (if bt980.2 = true then (if (bt980.1.length : Int) > 0 then (if 0 ≤ (wrap64 ((bt980.1.length : Int) - 1)) then (if (wrap64 ((bt980.1.length : Int) - 1)) < (bt980.1.length : Int) then (if (rdOf ByteArray.empty bt980.1 (wrap64 ((bt980.1.length : Int) - 1))).toList = t974.toList then ((impl_NodeOf.f k1 t974 t979).bind fun t987 => ((spec_NodeOf.f t974 t979).bind fun t988 => (some (t987.toList == t988.toList)))) else (some false)) else (none)) else (none)) else (some false)) else (some false)) else (some false))))) = some r := H
           have A46 := Aside0.mk A460
           clear A460
           replace H := Option.bind_eq_some_iff.mp H
           obtain ⟨⟨t980, t981⟩, A470, H⟩ := H
           replace H : ((impl_NodeOf.f k1 t974 t979).bind fun t984 => ((impl_RootOf.f k1 y965).bind fun t985 => (if t984.toList = t985.toList then (if t981 = true then (if (t980.length : Int) > 0 then (if 0 ≤ (wrap64 ((t980.length : Int) - 1)) then (if (wrap64 ((t980.length : Int) - 1)) < (t980.length : Int) then (if (rdOf ByteArray.empty t980 (wrap64 ((t980.length : Int) - 1))).toList = t974.toList then ((impl_NodeOf.f k1 t974 t979).bind fun t987 => ((spec_NodeOf.f t974 t979).bind fun t988 => (some (t987.toList == t988.toList)))) else (some false)) else (none)) else (none)) else (some false)) else (some false)) else (some false)))) = some r := H
           have A47 := Aside0.mk A470
           clear A470
           replace H := Option.bind_eq_some_iff.mp H
           obtain ⟨t984, A480, H⟩ := H
           replace H : ((impl_RootOf.f k1 y965).bind fun t985 => (if t984.toList = t985.toList then (if t981 = true then (if (t980.length : Int) > 0 then (if 0 ≤ (wrap64 ((t980.length : Int) - 1)) then (if (wrap64 ((t980.length : Int) - 1)) < (t980.length : Int) then (if (rdOf ByteArray.empty t980 (wrap64 ((t980.length : Int) - 1))).toList = t974.toList then ((impl_NodeOf.f k1 t974 t979).bind fun t987 => ((spec_NodeOf.f t974 t979).bind fun t988 => (some (t987.toList == t988.toList)))) else (some false)) else (none)) else (none)) else (some false)) else (some false)) else (some false))) = some r := H
           have A48 := Aside0.mk A480
           clear A480
           replace H := Option.bind_eq_some_iff.mp H
           obtain ⟨t985, A490, H⟩ := H
           replace H : (if t984.toList = t985.toList then (if t981 = true then (if (t980.length : Int) > 0 then (if 0 ≤ (wrap64 ((t980.length : Int) - 1)) then (if (wrap64 ((t980.length : Int) - 1)) < (t980.length : Int) then (if (rdOf ByteArray.empty t980 (wrap64 ((t980.length : Int) - 1))).toList = t974.toList then ((impl_NodeOf.f k1 t974 t979).bind fun t987 => ((spec_NodeOf.f t974 t979).bind fun t988 => (some (t987.toList == t988.toList)))) else (some false)) else (none)) else (none)) else (some false)) else (some false)) else (some false)) = some r := H
           have A49 := Aside0.mk A490
           clear A490
           by_cases c50 : t984.toList = t985.toList
           ·rw [if_pos c50] at H
            have c50b0 : (t984.toList == t985.toList) = true := beq_iff_eq.mpr c50
            have c50b1 : (t984.toList != t985.toList) = false := bne_eq_false_iff_eq.mpr c50
            clear c50
            by_cases c51 : t981 = true
            ·subst c51
             have H1 : (if (t980.length : Int) > 0 then (if 0 ≤ (wrap64 ((t980.length : Int) - 1)) then (if (wrap64 ((t980.length : Int) - 1)) < (t980.length : Int) then (if (rdOf ByteArray.empty t980 (wrap64 ((t980.length : Int) - 1))).toList = t974.toList then ((impl_NodeOf.f k1 t974 t979).bind fun t987 => ((spec_NodeOf.f t974 t979).bind fun t988 => (some (t987.toList == t988.toList)))) else (some false)) else (none)) else (none)) else (some false)) = some r := by rw [if_pos rfl] at H; exact H
             clear H
             have H := H1
             clear H1
             by_cases c52 : (t980.length : Int) > 0
             ·rw [if_pos c52] at H
              have c52b0 : decide (0 < (t980.length : Int)) = true := decide_eq_true c52
              have c52b1 : decide (0 < t980.length) = true := decide_eq_true (by omega)
              clear c52
              obtain ⟨ji53, hji53⟩ : ∃ j_ : Int, (wrap64 ((t980.length : Int) - 1)) = j_ := ⟨_, rfl⟩
              replace H : (if 0 ≤ (ji53) then (if (ji53) < (t980.length : Int) then (if (rdOf ByteArray.empty t980 (ji53)).toList = t974.toList then ((impl_NodeOf.f k1 t974 t979).bind fun t987 => ((spec_NodeOf.f t974 t979).bind fun t988 => (some (t987.toList == t988.toList)))) else (some false)) else (none)) else (none)) = some r := by first | (rw [hji53] at H; exact H) | (simp only [hji53] at H ⊢; exact H)
              (try rw [hji53] at A43)
              (try rw [hji53] at A46)
              (try rw [hji53] at A47)
              (try rw [hji53] at A48)
              (try rw [hji53] at A49)
              have hji53w : (IntKind.i64.wrap ((t980.length : Int) - 1)) = ji53 := (i64_w _).trans hji53
              by_cases c54 : 0 ≤ (ji53)
              ·rw [if_pos c54] at H
               have c54b0 : decide (0 ≤ (ji53)) = true := decide_eq_true c54
               clear c54
               by_cases c55 : (ji53) < (t980.length : Int)
               ·rw [if_pos c55] at H
                have c55b0 : decide ((ji53) < (t980.length : Int)) = true := decide_eq_true c55
                clear c55
                by_cases c56 : (rdOf ByteArray.empty t980 (ji53)).toList = t974.toList
                ·rw [if_pos c56] at H
                 have c56b0 : ((rdOf ByteArray.empty t980 (ji53)).toList == t974.toList) = true := beq_iff_eq.mpr c56
                 have c56b1 : ((rdOf ByteArray.empty t980 (ji53)).toList != t974.toList) = false := bne_eq_false_iff_eq.mpr c56
                 clear c56
                 replace H := Option.bind_eq_some_iff.mp H
                 obtain ⟨t987, A570, H⟩ := H
                 replace H : ((spec_NodeOf.f t974 t979).bind fun t988 => (some (t987.toList == t988.toList))) = some r := H
                 have A57 := Aside0.mk A570
                 clear A570
                 replace H := Option.bind_eq_some_iff.mp H
                 obtain ⟨t988, A580, H⟩ := H
                 replace H : (some (t987.toList == t988.toList)) = some r := H
                 have A58 := Aside0.mk A580
                 clear A580
                 obtain rfl := Option.some.inj H
                 have q59 : (x5_1 : Int) ≤ ((y965.length : Int) : Int) := of_decide_eq_true as_
                 obtain ⟨i059, hi059, _, hsz59, _⟩ := info_parts info70
                 have hroom59 : y965.length ≤ co39 := (Kd.R_reads' HO_3.out).2.1
                 have hC59 : Kd.C k70 _ Ao39 y965.length y965 := (Kd.R_reads' HO_3.out).2.2
                 have hcut59 := cut_to (P := Tryd.prog) 28 70 .i64 Tryd.underlying28 hi059 Ao39 y965.length co39 x5_1 (of_decide_eq_true as_) q59 hroom59
                 have hr59 := Kd.C_take (m := (x5_1 : Int).toNat) hC59 (by omega)
                 have hy59 : y970.length = (x5_1 : Int).toNat := (by rw [Ny970.out, List.length_take]; omega)
                 rw [← Ny970.out] at hr59
                 rw [← hy59] at hcut59
                 have HR973 := Aside0.mk hr59
                 have HC973 := Aside0.mk (show y970.length ≤ co39 from by omega)
                 clear hr59 hC59 hroom59 hi059 hsz59
                 have KY59 := Aside0.mk hy59
                 clear hy59
                 have KL59 := Aside0.mk (show (x5_1 : Int).toNat ≤ y965.length from by omega)
                 replace q59 := eq_true q59
                 go_wp2_with (first | ((with_reducible refine gate_callee (f := 49) rfl ?_); refine goesL_ (some 39) rfl rfl Tryd.func49 (by kernel_rfl) rfl #[.slice Ao39 y970.length co39] rfl lm_ ?_; (with_reducible refine (impl_RootOf.calls k1 _ _ y970 t974 _ ?side1 ?side2 ?side3 A43.out).mono ?_); (case side1 => repeat (first | exact (by repeat (first | (with_reducible exact HR973.out) | (with_reducible refine Kd.C_alloc ?_ _) | (with_reducible refine Kd.C_drewN ?_ _) | (with_reducible refine Kd.C_drew ?_) | exact HR973.out)) | (with_reducible refine Kd.C_alloc ?_ _) | (with_reducible refine Kd.C_drewN ?_ _) | (with_reducible refine Kd.C_drew ?_))); (case side2 => exact HC973.out); (case side3 => exact tab_of HT.out bl_); rintro e w60 ⟨rfl, hb⟩; refine ⟨_, rfl, ?_⟩; have n0_ := Aside0.mk (Kd.R_below (ra_ HO_3.out) hb); have n1_ := Aside0.mk (Kd.C_below (by repeat (first | (with_reducible exact HR973.out) | (with_reducible refine Kd.C_alloc ?_ _) | (with_reducible refine Kd.C_drewN ?_ _) | (with_reducible refine Kd.C_drew ?_) | exact HR973.out)) hb); have n2_ := Aside0.mk (below_step bl_ hb); clear HO_3; clear HR973; clear HB; have HO_3 := n0_; have HR973 := n1_; have HB := n2_; clear n0_ n1_ n2_; (try clear hb); (try clear hb2); (try clear hk); (try clear hi); have q61 : (x5_1 : Int) ≤ ((y965.length : Int) : Int) := of_decide_eq_true as_; obtain ⟨i061, hi061, _, hsz61, _⟩ := info_parts info70; have hroom61 : y965.length ≤ co39 := (Kd.R_reads' HO_3.out).2.1; have hC61 : Kd.C k70 _ Ao39 y965.length y965 := (Kd.R_reads' HO_3.out).2.2; have q061 : (0 : Int) ≤ (x5_1 : Int) := of_decide_eq_true as_; have hcut61 := cut_from (P := Tryd.prog) 28 70 .i64 Tryd.underlying28 hi061 6 hsz61 Ao39 y965.length co39 x5_1 q061 q61; have hr61 := Kd.C_drop (m := (x5_1 : Int).toNat) (c := co39) hC61 (by omega) hroom61; obtain ⟨A61, hA61⟩ : ∃ A1, A1 = (if co39 = (x5_1 : Int).toNat then Ao39 else (Ao39 : Option Addr).map (·.add ((x5_1 : Int).toNat * 6))) := ⟨_, rfl⟩; obtain ⟨c61, hc61⟩ : ∃ c1, c1 = co39 - (x5_1 : Int).toNat := ⟨_, rfl⟩; have hy61 : y975.length = y965.length - (x5_1 : Int).toNat := (by rw [Ny975.out, List.length_drop] <;> omega); rw [show (y965).drop (x5_1 : Int).toNat = y975 from Ny975.out.symm] at hr61; replace hr61 : Kd.C k70 _ A61 y975.length y975 := (by rw [hA61]; exact hr61); rw [← hy61, ← hA61, ← hc61] at hcut61; have HR978 := Aside0.mk hr61; have HC978 := Aside0.mk (show y975.length ≤ c61 from by rw [hy61, hc61]; exact Nat.sub_le_sub_right hroom61 _); clear hr61 hC61 hroom61 hi061 hsz61 hc61; have KY61 := Aside0.mk hy61; have KA61 := Aside0.mk hA61; clear hy61 hA61; have KL61 := Aside0.mk (show (x5_1 : Int).toNat ≤ y965.length from by omega); replace q61 := eq_true q61) | ((with_reducible refine gate_callee (f := 49) rfl ?_); refine goesL_ (some 43) rfl rfl Tryd.func49 (by kernel_rfl) rfl #[.slice A61 y975.length c61] rfl lm_ ?_; (with_reducible refine (impl_RootOf.calls k1 _ _ y975 t979 _ ?side1 ?side2 ?side3 A46.out).mono ?_); (case side1 => repeat (first | exact (by repeat (first | (with_reducible exact HR978.out) | (with_reducible refine Kd.C_alloc ?_ _) | (with_reducible refine Kd.C_drewN ?_ _) | (with_reducible refine Kd.C_drew ?_) | exact HR978.out)) | (with_reducible refine Kd.C_alloc ?_ _) | (with_reducible refine Kd.C_drewN ?_ _) | (with_reducible refine Kd.C_drew ?_))); (case side2 => exact HC978.out); (case side3 => exact tab_of HT.out bl_); rintro e w62 ⟨rfl, hb⟩; refine ⟨_, rfl, ?_⟩; have n0_ := Aside0.mk (Kd.R_below (ra_ HO_3.out) hb); have n1_ := Aside0.mk (Kd.C_below (by repeat (first | (with_reducible exact HR973.out) | (with_reducible refine Kd.C_alloc ?_ _) | (with_reducible refine Kd.C_drewN ?_ _) | (with_reducible refine Kd.C_drew ?_) | exact HR973.out)) hb); have n2_ := Aside0.mk (Kd.C_below (by repeat (first | (with_reducible exact HR978.out) | (with_reducible refine Kd.C_alloc ?_ _) | (with_reducible refine Kd.C_drewN ?_ _) | (with_reducible refine Kd.C_drew ?_) | exact HR978.out)) hb); have n3_ := Aside0.mk (below_step bl_ hb); clear HO_3; clear HR973; clear HR978; clear HB; have HO_3 := n0_; have HR973 := n1_; have HR978 := n2_; have HB := n3_; clear n0_ n1_ n2_ n3_; (try clear hb); (try clear hb2); (try clear hk); (try clear hi)) | ((with_reducible refine gate_callee (f := 27) rfl ?_); refine goesL_ (some 48) rfl rfl Tryd.func27 (by kernel_rfl) rfl #[.slice Ao39 y965.length co39, .int .i64 (wrap64 ((y965.length : Int) - 1))] rfl lm_ ?_; (with_reducible refine (impl_PathOf.calls k1 _ _ y965 (wrap64 ((y965.length : Int) - 1)) t980 true _ ?side1 ?side2 ?side3 A47.out).mono ?_); (case side1 => repeat (first | exact (Kd.R_reads' HO_3.out).2.2 | (with_reducible refine Kd.C_alloc ?_ _) | (with_reducible refine Kd.C_drewN ?_ _) | (with_reducible refine Kd.C_drew ?_))); (case side2 => exact (Kd.R_reads' HO_3.out).2.1); (case side3 => exact tab_of HT.out bl_); rintro e w63 ⟨v982, rfl, ho0, hb⟩; refine ⟨_, rfl, ?_⟩; have n0_ := Aside0.mk (Kd.R_below (ra_ HO_3.out) hb); have n1_ := Aside0.mk (Kd.R_lower ho0 (below_size bl_)); have n2_ := Aside0.mk (Kd.C_below (by repeat (first | (with_reducible exact HR973.out) | (with_reducible refine Kd.C_alloc ?_ _) | (with_reducible refine Kd.C_drewN ?_ _) | (with_reducible refine Kd.C_drew ?_) | exact HR973.out)) hb); have n3_ := Aside0.mk (Kd.C_below (by repeat (first | (with_reducible exact HR978.out) | (with_reducible refine Kd.C_alloc ?_ _) | (with_reducible refine Kd.C_drewN ?_ _) | (with_reducible refine Kd.C_drew ?_) | exact HR978.out)) hb); have n4_ := Aside0.mk (below_step bl_ hb); clear HO_3; clear HR973; clear HR978; clear HB; have HO_3 := n0_; have HO983 := n1_; have HR973 := n2_; have HR978 := n3_; have HB := n4_; clear n0_ n1_ n2_ n3_ n4_; (try clear hb); (try clear hb2); (try clear hk); (try clear hi); (try clear ho0)) | ((with_reducible refine gate_callee (f := 51) rfl ?_); refine goesL_ (some 53) rfl rfl Tryd.func51 (by kernel_rfl) rfl #[.string t974, .string t979] rfl lm_ ?_; (with_reducible refine (impl_NodeOf.calls k1 t974 t979 t984 _ ?side1 A48.out).mono ?_); (case side1 => exact tab_of HT.out bl_); rintro e w64 ⟨rfl, hb⟩; refine ⟨_, rfl, ?_⟩; have n0_ := Aside0.mk (Kd.R_below (ra_ HO_3.out) hb); have n1_ := Aside0.mk (Kd.R_below (ra_ HO983.out) hb); have n2_ := Aside0.mk (Kd.C_below (by repeat (first | (with_reducible exact HR973.out) | (with_reducible refine Kd.C_alloc ?_ _) | (with_reducible refine Kd.C_drewN ?_ _) | (with_reducible refine Kd.C_drew ?_) | exact HR973.out)) hb); have n3_ := Aside0.mk (Kd.C_below (by repeat (first | (with_reducible exact HR978.out) | (with_reducible refine Kd.C_alloc ?_ _) | (with_reducible refine Kd.C_drewN ?_ _) | (with_reducible refine Kd.C_drew ?_) | exact HR978.out)) hb); have n4_ := Aside0.mk (below_step bl_ hb); clear HO_3; clear HO983; clear HR973; clear HR978; clear HB; have HO_3 := n0_; have HO983 := n1_; have HR973 := n2_; have HR978 := n3_; have HB := n4_; clear n0_ n1_ n2_ n3_ n4_; (try clear hb); (try clear hb2); (try clear hk); (try clear hi)) | ((with_reducible refine gate_callee (f := 49) rfl ?_); refine goesL_ (some 55) rfl rfl Tryd.func49 (by kernel_rfl) rfl #[.slice Ao39 y965.length co39] rfl lm_ ?_; (with_reducible refine (impl_RootOf.calls k1 _ _ y965 t985 _ ?side1 ?side2 ?side3 A49.out).mono ?_); (case side1 => repeat (first | exact (Kd.R_reads' HO_3.out).2.2 | (with_reducible refine Kd.C_alloc ?_ _) | (with_reducible refine Kd.C_drewN ?_ _) | (with_reducible refine Kd.C_drew ?_))); (case side2 => exact (Kd.R_reads' HO_3.out).2.1); (case side3 => exact tab_of HT.out bl_); rintro e w65 ⟨rfl, hb⟩; refine ⟨_, rfl, ?_⟩; have n0_ := Aside0.mk (Kd.R_below (ra_ HO_3.out) hb); have n1_ := Aside0.mk (Kd.R_below (ra_ HO983.out) hb); have n2_ := Aside0.mk (Kd.C_below (by repeat (first | (with_reducible exact HR973.out) | (with_reducible refine Kd.C_alloc ?_ _) | (with_reducible refine Kd.C_drewN ?_ _) | (with_reducible refine Kd.C_drew ?_) | exact HR973.out)) hb); have n3_ := Aside0.mk (Kd.C_below (by repeat (first | (with_reducible exact HR978.out) | (with_reducible refine Kd.C_alloc ?_ _) | (with_reducible refine Kd.C_drewN ?_ _) | (with_reducible refine Kd.C_drew ?_) | exact HR978.out)) hb); have n4_ := Aside0.mk (below_step bl_ hb); clear HO_3; clear HO983; clear HR973; clear HR978; clear HB; have HO_3 := n0_; have HO983 := n1_; have HR973 := n2_; have HR978 := n3_; have HB := n4_; clear n0_ n1_ n2_ n3_ n4_; (try clear hb); (try clear hb2); (try clear hk); (try clear hi); obtain ⟨Ao66, co66, eo66⟩ := Kd.R_slice HO983.out; subst eo66; have p986 : 0 ≤ ((ji53) : Int) := of_decide_eq_true as_; have q986 : (ji53) < (t980.length : Int) := of_decide_eq_true as_; obtain ⟨ad986, e986, hx986_0⟩ := Kd.at_string (Kd.R_reads' HO983.out).2.2 (ji53) p986 q986; cases e986; replace p986 := eq_true p986; replace q986 := eq_true q986) | (go_at_call 51; (with_reducible refine (impl_NodeOf.calls k1 t974 t979 t987 _ ?side1 A57.out).mono ?_); (case side1 => exact tab_of HT.out bl_); rintro e w67 ⟨rfl, hb⟩; have n0_ := Aside0.mk (Kd.R_below (ra_ HO_3.out) hb); have n1_ := Aside0.mk (Kd.R_below (ra_ HO983.out) hb); have n2_ := Aside0.mk (Kd.C_below (by repeat (first | (with_reducible exact HR973.out) | (with_reducible refine Kd.C_alloc ?_ _) | (with_reducible refine Kd.C_drewN ?_ _) | (with_reducible refine Kd.C_drew ?_) | exact HR973.out)) hb); have n3_ := Aside0.mk (Kd.C_below (by repeat (first | (with_reducible exact HR978.out) | (with_reducible refine Kd.C_alloc ?_ _) | (with_reducible refine Kd.C_drewN ?_ _) | (with_reducible refine Kd.C_drew ?_) | exact HR978.out)) hb); have n4_ := Aside0.mk (below_step bl_ hb); clear HO_3; clear HO983; clear HR973; clear HR978; clear HB; have HO_3 := n0_; have HO983 := n1_; have HR973 := n2_; have HR978 := n3_; have HB := n4_; clear n0_ n1_ n2_ n3_ n4_; (try clear hb); (try clear hb2); (try clear hk); (try clear hi)) | (go_at_call 52; (with_reducible refine (spec_NodeOf.calls t974 t979 t988 _ A58.out).mono ?_); rintro e w68 ⟨rfl, hb⟩; have n0_ := Aside0.mk (Kd.R_below (ra_ HO_3.out) hb); have n1_ := Aside0.mk (Kd.R_below (ra_ HO983.out) hb); have n2_ := Aside0.mk (Kd.C_below (by repeat (first | (with_reducible exact HR973.out) | (with_reducible refine Kd.C_alloc ?_ _) | (with_reducible refine Kd.C_drewN ?_ _) | (with_reducible refine Kd.C_drew ?_) | exact HR973.out)) hb); have n3_ := Aside0.mk (Kd.C_below (by repeat (first | (with_reducible exact HR978.out) | (with_reducible refine Kd.C_alloc ?_ _) | (with_reducible refine Kd.C_drewN ?_ _) | (with_reducible refine Kd.C_drew ?_) | exact HR978.out)) hb); have n4_ := Aside0.mk (below_step bl_ hb); clear HO_3; clear HO983; clear HR973; clear HR978; clear HB; have HO_3 := n0_; have HO983 := n1_; have HR973 := n2_; have HR978 := n3_; have HB := n4_; clear n0_ n1_ n2_ n3_ n4_; (try clear hb); (try clear hb2); (try clear hk); (try clear hi)))
                 go_ret
                 exact ⟨by first | rfl | (simp [errW_none, errW_some] <;> rfl) | (simp only [← hji53]; first | rfl | (simp [errW_none, errW_some] <;> rfl)) | (simp [*, errW_none, errW_some] <;> rfl), bl_⟩
                ·rw [if_neg c56] at H
                 have c56b0 : ((rdOf ByteArray.empty t980 (ji53)).toList == t974.toList) = false := beq_eq_false_iff_ne.mpr c56
                 have c56b1 : ((rdOf ByteArray.empty t980 (ji53)).toList != t974.toList) = true := bne_iff_ne.mpr c56
                 exact absurd ((Option.some.inj H).trans HR1.out) (by decide)
               ·rw [if_neg c55] at H
                exact absurd H (by simp)
              ·rw [if_neg c54] at H
               exact absurd H (by simp)
             ·rw [if_neg c52] at H
              have c52b0 : decide (0 < (t980.length : Int)) = false := decide_eq_false c52
              have c52b1 : decide (0 < t980.length) = false := decide_eq_false (by omega)
              clear c52
              exact absurd ((Option.some.inj H).trans HR1.out) (by decide)
            ·replace c51 := Bool.eq_false_iff.mpr c51
             subst c51
             have H1 : (some false) = some r := by rw [if_neg (show ¬ (false = true) by decide)] at H; exact H
             clear H
             have H := H1
             clear H1
             exact absurd ((Option.some.inj H).trans HR1.out) (by decide)
           ·rw [if_neg c50] at H
            have c50b0 : (t984.toList == t985.toList) = false := beq_eq_false_iff_ne.mpr c50
            have c50b1 : (t984.toList != t985.toList) = true := bne_iff_ne.mpr c50
            exact absurd ((Option.some.inj H).trans HR1.out) (by decide)
          ·rw [if_neg c42] at H
           exact absurd H (by simp)
         ·rw [if_neg c41] at H
          exact absurd H (by simp)
    ·rw [if_neg c8] at H
     exact absurd H (by simp)
   ·rw [if_neg c6] at H
    exact absurd H (by simp)
  ·rw [if_neg c5] at H
   exact absurd H (by simp)

end Go.Proofs.YtdhjolglbcoijaaDoor.PA

namespace Go.Proofs.YtdhjolglbcoijaaDoor.Op
open Go.RowKit Go.Proofs.YtdhjolglbcoijaaDoorW.PrintWords
set_option linter.unusedVariables false
set_option linter.unusedSimpArgs false

/-- A whole number is one of its kind. -/
abbrev OkInt (k : IntKind) (n : Int) : Prop := (Lit.int k n).wf = true

/-- A value of type t, read as data, is one of the kind d, with G. -/
structure Opens (P : Program) {α : Type} (d : Kd α) (t : TypeId) (G : α → Prop) : Prop where
 sz : d.sz = P.cellsOf t
 op : ∀ {H : Type} {enc : TypeId × Value → H} {w : World} {n : Nat} {cs : List Value} {x : DataW H × List MemPlace},
  DataW.trod enc P w 0 (fun _ => true) true n t cs = some x → ∃ a, d.K w a cs ∧ G a

theorem opInt {P : Program} {t : TypeId} {k : IntKind} (hu : P.underlying t = some (.int k)) (hc : P.cellsOf t = 1) : Opens P (Kd.int k) t (fun n => (Lit.int k n).wf = true) where
 sz := by rw [hc]; rfl
 op := fun h => by
  obtain ⟨n, rfl, _, hw⟩ := DataW.trod_int hu h
  exact ⟨n, rfl, hw⟩

theorem opBool {P : Program} {t : TypeId} (hu : P.underlying t = some .bool) (hc : P.cellsOf t = 1) : Opens P Kd.bool t (fun _ => True) where
 sz := by rw [hc]; rfl
 op := fun h => by
  obtain ⟨n, rfl, _⟩ := DataW.trod_bool hu h
  exact ⟨n, rfl, trivial⟩

theorem opStr {P : Program} {t : TypeId} (hu : P.underlying t = some .string) (hc : P.cellsOf t = 1) : Opens P Kd.string t (fun s => s.size ≤ 9223372036854775807) where
 sz := by rw [hc]; rfl
 op := fun h => by
  obtain ⟨s, rfl, _, hs⟩ := DataW.trod_string hu h
  exact ⟨s, rfl, hs⟩

theorem chooseList {α : Type} {Q : Nat → α → Prop} : ∀ (n : Nat), (∀ i, i < n → ∃ a, Q i a) → ∃ xs : List α, xs.length = n ∧ ∀ i a, xs[i]? = some a → Q i a
 | 0, _ => ⟨[], rfl, fun i a h => by simp at h⟩
 | n + 1, h => by
  obtain ⟨xs, hl, hx⟩ := chooseList n (fun i hi => h i (by omega))
  obtain ⟨a, ha⟩ := h n (by omega)
  refine ⟨xs ++ [a], by simp [hl], fun i b hb => ?_⟩
  by_cases hi : i < n
  ·rw [List.getElem?_append_left (by omega)] at hb
   exact hx i b hb
  ·rw [List.getElem?_append_right (by omega), hl] at hb
   have : i - n = 0 := by
    rcases Nat.eq_zero_or_pos (i - n) with h0 | h0
    ·exact h0
    ·rw [List.getElem?_eq_none (by simp; omega)] at hb
     simp at hb
   rw [this] at hb
   have hin : i = n := by omega
   simp at hb
   rw [hin, ← hb]
   exact ha

theorem cellsAt {w : World} {a : Addr} {n : Nat} {cs : List Value} (h : w.cells? 0 a n = some cs) : cs.length = n ∧ ∀ i u, cs[i]? = some u → w.cell? (a.add i) = some u := by
 unfold World.cells? at h
 rw [if_pos (Nat.zero_le _)] at h
 have hl : cs.length = n := by simpa using mapM_some_length h
 refine ⟨hl, fun i u hu => ?_⟩
 have hi : i < n := by
  rcases Nat.lt_or_ge i n with h1 | h1
  ·exact h1
  ·rw [List.getElem?_eq_none (by omega)] at hu
   simp at hu
 have := mapM_some_get h i i (by simp [hi])
 rw [this, hu]

theorem opSlice {P : Program} {α : Type} {d : Kd α} {t e : TypeId} {G : α → Prop} (hu : P.underlying t = some (.slice e)) (hc : P.cellsOf t = 1) (E : Nat) (o : Opens P d e G) :
 Opens P (Kd.slice E d) t (fun l => (∀ a ∈ l, G a) ∧ l.length ≤ 9223372036854775807) where
 sz := by rw [hc]; rfl
 op := fun {H enc w n cs x} h => by
  rcases DataW.trod_slice hu h with ⟨rfl, _⟩ | ⟨a, len, cap, elems, rest, m, _, rfl, _, _, hl, hcap, hlen, hel, _⟩
  ·exact ⟨[], ⟨none, 0, rfl, Nat.le_refl _, rfl, by simp, fun h0 => by simp at h0⟩, fun a ha => by simp at ha, by simp⟩
  ·have hcap' : cap ≤ 9223372036854775807 := hcap
   have key : ∀ i, i < len → ∃ b, ∃ c, d.K w b c ∧ G b ∧ c.length = d.sz ∧ ∀ j u, c[j]? = some u → w.cell? ((a.add (i * d.sz)).add j) = some u := by
    intro i hi
    have h1 := hel i hi
    rw [List.getElem?_eq_getElem (by omega)] at h1
    obtain ⟨cs', h2, h3⟩ := Option.bind_eq_some_iff.1 h1
    obtain ⟨b, hK, hG⟩ := o.op h3
    obtain ⟨h4, h5⟩ := cellsAt h2
    rw [← o.sz] at h5
    exact ⟨b, cs', hK, hG, d.K_len hK, h5⟩
   obtain ⟨xs, hx, hall⟩ := chooseList len key
   refine ⟨xs, ⟨some a, cap, by rw [hx], by omega, rfl, by omega, fun _ => ⟨a, rfl, fun j p hp => ?_⟩⟩, fun b hb => ?_, by omega⟩
   ·obtain ⟨c, hK, _, hs, hcell⟩ := hall j p hp
    exact ⟨c, hs, hK, fun i u hiu => by rw [← Addr.add_add]; exact hcell i u hiu⟩
   ·obtain ⟨i, hi, rfl⟩ := List.getElem_of_mem hb
    obtain ⟨_, _, hG, _⟩ := hall i _ (List.getElem?_eq_getElem hi)
    exact hG

/-- A struct's fields from one on, one behind the other. -/
structure Fields (P : Program) (off : Nat) (fs : List Field) {α : Type} (d : Kd α) (G : α → Prop) : Prop where
 op : ∀ {H : Type} {enc : TypeId × Value → H} {w : World} {n : Nat} {cs : List Value}, cs.length = off + d.sz →
  (∀ f ∈ fs, ∃ y, DataW.trod enc P w 0 (fun _ => true) true n f.type ((cs.drop f.offset).take (P.cellsOf f.type)) = some y) → ∃ a, d.K w a (cs.drop off) ∧ G a

theorem fieldsOne {P : Program} {off : Nat} {f : Field} {α : Type} {d : Kd α} {G : α → Prop} (o : Opens P d f.type G) (hf : f.offset = off) : Fields P off [f] d G where
 op := fun {H enc w n cs} hl h => by
  obtain ⟨y, hy⟩ := h f (by simp)
  rw [hf, List.take_of_length_le (by rw [← o.sz]; simp; omega)] at hy
  exact o.op hy

theorem fieldsCons {P : Program} {off : Nat} {f : Field} {fs : List Field} {α β : Type} {d : Kd α} {d' : Kd β} {G : α → Prop} {G' : β → Prop} (o : Opens P d f.type G) (hf : f.offset = off) (r : Fields P (off + d.sz) fs d' G') :
 Fields P off (f :: fs) (Kd.pair d d') (fun x => G x.1 ∧ G' x.2) where
 op := fun {H enc w n cs} hl h => by
  have hl' : cs.length = off + (d.sz + d'.sz) := hl
  obtain ⟨y, hy⟩ := h f (by simp)
  rw [hf] at hy
  obtain ⟨a, ha, hg⟩ := o.op hy
  obtain ⟨b, hb, hg'⟩ := r.op (by omega) (fun g hg => h g (by simp [hg]))
  refine ⟨(a, b), ⟨_, _, ?_, ha, hb⟩, hg, hg'⟩
  rw [← o.sz, show cs.drop (off + d.sz) = (cs.drop off).drop d.sz from (List.drop_drop ..).symm]
  exact (List.take_append_drop _ _).symm

theorem opStruct {P : Program} {t : TypeId} {fs : Array Field} {α β : Type} {d : Kd α} {f : β → α} {G : α → Prop} {G' : β → Prop} (hu : P.underlying t = some (.struct fs)) (hc : P.cellsOf t = d.sz)
 (r : Fields P 0 fs.toList d G) (g : α → β) (hfg : ∀ a, f (g a) = a) (hG : ∀ a, G a → G' (g a)) : Opens P (Kd.iso d f) t G' where
 sz := by rw [hc]; rfl
 op := fun {H enc w n cs x} h => by
  obtain ⟨xs, m, rfl, _, hl, hxs, hall⟩ := DataW.trod_struct hu h
  obtain ⟨a, ha, hGa⟩ := r.op (w := w) (n := m) (cs := cs) (by omega) (fun f' hf' => by
   obtain ⟨i, hi, rfl⟩ := List.getElem_of_mem hf'
   have hi' : i < fs.size := by simpa using hi
   have h1 := hall i fs.toList[i] (by simp [hi'])
   rw [List.getElem?_eq_getElem (by omega)] at h1
   exact ⟨_, h1⟩)
  rw [List.drop_zero] at ha
  refine ⟨g a, ?_, hG a hGa⟩
  show d.K w (f (g a)) cs
  rw [hfg]
  exact ha
end Go.Proofs.YtdhjolglbcoijaaDoor.Op

namespace Go.Proofs.YtdhjolglbcoijaaDoor.PureFnTreeParts
open Go.RowKit Go.Proofs.YtdhjolglbcoijaaDoor.PA
def Stated : Prop := ∀ (x0 : List Int), ((∀ e_ ∈ x0, Op.OkInt .u8 e_) ∧ x0.length ≤ 9223372036854775807) → ∃ k, laws_FnTreeParts.f k x0 = some true
end Go.Proofs.YtdhjolglbcoijaaDoor.PureFnTreeParts

namespace Go.Proofs.YtdhjolglbcoijaaDoor.Kit
open Go.RowKit Go.Proofs.YtdhjolglbcoijaaDoorW.PrintWords Go.Proofs.YtdhjolglbcoijaaDoorW.PrintLast Go.Proofs.YtdhjolglbcoijaaDoorW.PrintMore
set_option linter.unusedVariables false
set_option linter.unusedSimpArgs false

theorem w64 {x : Int} (h0 : -9223372036854775808 ≤ x) (h1 : x ≤ 9223372036854775807) : wrap64 x = x := by unfold wrap64; omega

section
variable {α β : Type}
theorem evSucc {g : Nat → Option α} {r : α} (h : Ev (fun k => g (k + 1)) r) : Ev g r := Ev.step (fun _ => rfl) h
theorem evPos {c : Prop} [Decidable c] {g f : Nat → Option α} {r : α} (hc : c) (h : Ev g r) : Ev (fun k => if c then g k else f k) r := Ev.congr (fun k => if_pos hc) h
theorem evNeg {c : Prop} [Decidable c] {g f : Nat → Option α} {r : α} (hc : ¬ c) (h : Ev f r) : Ev (fun k => if c then g k else f k) r := Ev.congr (fun k => if_neg hc) h
theorem evIte {c : Prop} [Decidable c] {g f : Nat → Option α} {r s : α} (h : c → Ev g r) (h' : ¬ c → Ev f s) : Ev (fun k => if c then g k else f k) (if c then r else s) := by
 by_cases hc : c
 ·rw [if_pos hc]; exact evPos hc (h hc)
 ·rw [if_neg hc]; exact evNeg hc (h' hc)
theorem evSome (r : α) : Ev (fun _ => some r) r := Ev.now r
theorem evEq {g : Nat → Option α} {r s : α} (h : Ev g r) (e : r = s) : Ev g s := e ▸ h
/-- A value that needs no rounds. -/
theorem evBindS {x : Option α} {f : Nat → α → Option β} {a : α} {r : β} (h : x = some a) (k : Ev (fun n => f n a) r) : Ev (fun n => x.bind (f n)) r := by subst h; exact k
theorem evConst {x : Option α} {r : α} (h : x = some r) : Ev (fun _ => x) r := by subst h; exact Ev.now r
end

section
variable {α β : Type}
/-- A loop that counts up: from the last place back to the first. -/
theorem evUp {r : α} (n : Nat) (g : Nat → Nat → Option α) (step : ∀ i, i < n → Ev (g (i + 1)) r → Ev (g i) r) (last : Ev (g n) r) : Ev (g 0) r := by
 have key : ∀ d i, i + d = n → Ev (g i) r := by
  intro d
  induction d with
  | zero => intro i hi; rw [show i = n by omega]; exact last
  | succ d ih => intro i hi; exact step i (by omega) (ih (i + 1) (by omega))
 exact key n 0 (by omega)
theorem fillStep (f : α → β) (z : β) (l : List α) (i : Nat) (hi : i < l.length) :
 ((l.take i).map f ++ List.replicate (l.length - i) z).set i (f l[i]) = (l.take (i + 1)).map f ++ List.replicate (l.length - (i + 1)) z := by
 have h1 : ((l.take i).map f).length = i := by simp; omega
 rw [show l.length - i = (l.length - (i + 1)) + 1 by omega, List.replicate_succ, List.set_append_right _ _ (by omega), h1, Nat.sub_self, List.set_cons_zero,
  List.take_succ_eq_append_getElem hi, List.map_append, List.append_assoc]
 rfl
theorem takeSnoc (l : List α) (i : Nat) (hi : i < l.length) : l.take (i + 1) = l.take i ++ [l[i]] := List.take_succ_eq_append_getElem hi
theorem ci (i : Nat) : (i : Int) + 1 = ((i + 1 : Nat) : Int) := by omega
theorem sizeApp (a b : ByteArray) : (a ++ b).size = a.size + b.size := ByteArray.size_append
end

theorem okI64 {n : Int} (h : (Lit.int .i64 n).wf = true) : -9223372036854775808 ≤ n ∧ n ≤ 9223372036854775807 := by
 simp [Lit.wf, IntKind.min, IntKind.max, IntKind.signed, IntKind.bits] at h
 omega
end Go.Proofs.YtdhjolglbcoijaaDoor.Kit

namespace Go.Proofs.YtdhjolglbcoijaaDoor.DigestEq
open Go.RowKit Go.Proofs.YtdhjolglbcoijaaDoorW.PrintWords Go.Proofs.YtdhjolglbcoijaaDoorW.PrintLast Go.Proofs.YtdhjolglbcoijaaDoorW.PrintMore Go.Proofs.YtdhjolglbcoijaaDoor.Kit Go.Proofs.YtdhjolglbcoijaaDoor.PA
open Go.Proofs.YtdhjolglbcoijaaDoor.PH (hs hs_len padS padS_size blocks f4 f4_len padBytes padZ hFirst shaB shaB_len outs strOfNums_size)
set_option linter.unusedVariables false
theorem strApp (a b : List Int) : strOfNums (a ++ b) = strOfNums a ++ strOfNums b := by
 apply ByteArray.ext
 simp [strOfNums]
theorem strBytes (s : ByteArray) : strOfNums (bytesOf s) = s := by
 apply ByteArray.ext
 apply Array.ext'
 simp [strOfNums, bytesOf, Function.comp_def]
theorem hi8 (N : Int) : (List.range 8).map (fun q => N / 2 ^ (8 * (7 - q)) % 256) = f4 (N / 4294967296) ++ f4 N := by
 have h0 : N / 72057594037927936 % 256 = N / 4294967296 / 16777216 % 256 := by omega
 have h1 : N / 281474976710656 % 256 = N / 4294967296 / 65536 % 256 := by omega
 have h2 : N / 1099511627776 % 256 = N / 4294967296 / 256 % 256 := by omega
 simp [List.range, List.range.loop, f4, h0, h1, h2]
theorem padEq (a0 : ByteArray) (hb : a0.size ≤ 1073741824) : impl_PadText.f a0 = some (padS a0) := by
 have e : Int.tmod (wrap64 (64 - (Int.tmod (wrap64 ((a0.size : Int) + 9)) 64))) 64 = (padZ a0.size : Int) := by
  have c1 : Int.tmod ((a0.size : Int) + 9) 64 = ((a0.size : Int) + 9) % 64 := Int.tmod_eq_emod_of_nonneg (by omega)
  rw [w64 (x := (a0.size : Int) + 9) (by omega) (by omega), c1, w64 (by omega) (by omega)]
  have c2 : Int.tmod (64 - ((a0.size : Int) + 9) % 64) 64 = (64 - ((a0.size : Int) + 9) % 64) % 64 := Int.tmod_eq_emod_of_nonneg (by omega)
  rw [c2]
  unfold padZ
  omega
 have hz : padZ a0.size < 64 := by unfold padZ; omega
 have e8 : wrap64 (8 * (a0.size : Int)) = 8 * (a0.size : Int) := w64 (by omega) (by omega)
 unfold impl_PadText.f impl_four.f
 rw [e, e8, if_pos (by omega), if_pos (by omega), if_pos (by omega)]
 simp only [Option.bind_some, Int.toNat_natCast]
 have s1 : (a0 ++ (⟨#[128]⟩ : ByteArray)).size = a0.size + 1 := by rw [ByteArray.size_append]; rfl
 have s2 : (strOfNums (List.replicate (padZ a0.size) 0)).size = padZ a0.size := by rw [strOfNums_size, List.length_replicate]
 have s3 (x : Int) : (strOfNums [x / 16777216 % 256, x / 65536 % 256, x / 256 % 256, x % 256]).size = 4 := by rw [strOfNums_size]; rfl
 rw [if_pos (by rw [s1, s2]; omega), if_pos (by rw [ByteArray.size_append, s1, s2, s3]; omega), if_pos (by rw [ByteArray.size_append, ByteArray.size_append, s1, s2, s3, s3]; omega)]
 unfold padS padBytes
 have c (l : List Int) : strOfNums (128 :: l) = (⟨#[128]⟩ : ByteArray) ++ strOfNums l := strApp [128] l
 rw [hi8, strApp, c, strApp, strApp, strBytes]
 simp only [← ByteArray.append_assoc]
 rfl
theorem half_first : ∀ x ∈ hFirst, 0 ≤ x ∧ x ≤ 4294967295 := by decide
theorem half_sha (l : List Int) (t : ByteArray) (h : l.length = 8) : ∀ x ∈ shaB l t, 0 ≤ x ∧ x ≤ 4294967295 := by
 intro x hx
 unfold PH.shaB PH.outs at hx
 rw [List.drop_of_length_le (by omega), List.append_nil] at hx
 obtain ⟨i, _, rfl⟩ := List.mem_map.1 hx
 constructor <;> omega
theorem half_hs (p : ByteArray) : ∀ j, ∀ x ∈ hs p j, 0 ≤ x ∧ x ≤ 4294967295
 | 0 => half_first
 | j + 1 => half_sha _ _ (hs_len p j)
theorem rdS (l : List Int) (i : Nat) (hi : i < l.length) : rd l (i : Int) = l[i] := by simp [rd, hi]
theorem ev_out (s : List Int) (h : s.length = 8) : Ev (fun k => impl_Digest.l1 k (⟨#[]⟩ : ByteArray) s (s.length : Int) 0) (strOfNums (s.flatMap f4)) := by
 have key := evUp (r := strOfNums (s.flatMap f4)) 8 (fun i k => impl_Digest.l1 k (strOfNums ((s.take i).flatMap f4)) s (s.length : Int) (i : Int)) ?_ ?_
 ·exact key
 ·intro i hi ih
  refine evSucc ?_
  simp only [impl_Digest.l1]
  have hsz : (strOfNums ((s.take i).flatMap f4)).size = 4 * i := by rw [strOfNums_size, f4_len, List.length_take]; omega
  refine evPos (by omega) (evPos (by omega) (evPos (by omega) (evBindS (a := strOfNums (f4 s[i])) (by rw [rdS s i (by omega)]; rfl) (evPos (by rw [hsz, strOfNums_size]; simp [f4]; omega) ?_))))
  rw [w64 (by omega) (by omega), ci, ← strApp]
  have e : (s.take i).flatMap f4 ++ f4 s[i] = (s.take (i + 1)).flatMap f4 := by
   rw [List.take_succ_eq_append_getElem (by omega), List.flatMap_append]; simp
  rw [e]
  exact ih
 ·refine evSucc ?_
  simp only [impl_Digest.l1]
  refine evNeg (by omega) (evEq (Ev.now _) ?_)
  rw [List.take_of_length_le (by omega)]
def dig (a0 : ByteArray) : ByteArray := strOfNums ((hs (padS a0) (blocks a0.size)).flatMap f4)
theorem dig_spec (a0 : ByteArray) (hb : a0.size ≤ 1073741824) : spec_Digest.f a0 = some (dig a0) := by
 unfold spec_Digest.f; rw [if_pos hb]; rfl
theorem dig_impl (a0 : ByteArray) (hb : a0.size ≤ 1073741824) : Ev (fun k => impl_Digest.f k a0) (dig a0) := by
 simp only [impl_Digest.f]
 refine evBindS (padEq a0 hb) (evBindS (a := hFirst) rfl ?_)
 have hp := padS_size a0
 have hn : blocks a0.size ≤ 16777218 := by unfold PH.blocks; omega
 unfold dig
 generalize blocks a0.size = nb at hp hn ⊢
 generalize padS a0 = p at hp ⊢
 have key := evUp (r := strOfNums ((hs p nb).flatMap f4)) nb (fun i k => impl_Digest.l0 k p (hs p i) (64 * (i : Int))) ?_ ?_
 ·exact key
 ·intro i hi ih
  refine evSucc ?_
  simp only [impl_Digest.l0]
  have hw : wrap64 (64 * (i : Int) + 64) = 64 * (i : Int) + 64 := w64 (by omega) (by omega)
  rw [hw]
  refine evPos (by omega) (evPos (by omega) (evPos (by omega) (evPos (by omega) (evBindS (a := hs p (i + 1)) ?_ ?_))))
  ·rw [show (64 * (i : Int)).toNat = 64 * i by omega, show (64 * (i : Int) + 64).toNat = 64 * i + 64 by omega]
   unfold impl_ShaBlock.f
   rw [if_pos ⟨hs_len p i, by rw [ByteArray.size_extract]; omega, half_hs p i⟩]
   rfl
  ·rw [show 64 * (i : Int) + 64 = 64 * ((i + 1 : Nat) : Int) by omega]
   exact ih
 ·refine evSucc ?_
  simp only [impl_Digest.l0]
  exact evNeg (by omega) (ev_out _ (hs_len p nb))
end Go.Proofs.YtdhjolglbcoijaaDoor.DigestEq

namespace Go.Proofs.YtdhjolglbcoijaaDoor.Pure
open Go.RowKit Go.Proofs.YtdhjolglbcoijaaDoor.PA Go.Proofs.YtdhjolglbcoijaaDoorW.PrintWords Go.Proofs.YtdhjolglbcoijaaDoorW.PrintLast Go.Proofs.YtdhjolglbcoijaaDoorW.PrintMore Go.Proofs.YtdhjolglbcoijaaDoor.Kit Go.Proofs.YtdhjolglbcoijaaDoor.PureFnTreeParts
set_option linter.unusedVariables false
set_option linter.unusedSimpArgs false
def rng (x lo hi : Int) : Bool := decide (lo ≤ x) && decide (x ≤ hi)
theorem spec_in (x lo hi : Int) : spec_l01In.f x lo hi = some (rng x lo hi) := by
 unfold spec_l01In.f rng
 by_cases h : x ≥ lo
 ·simp [h]
 ·simp [h]
  try omega
theorem impl_in (x lo hi : Int) : impl_within.f x lo hi = some (rng x lo hi) := by
 unfold impl_within.f rng
 by_cases h : x ≥ lo
 ·simp [h]
 ·simp [h]
  try omega
theorem bits_nat (op : BinOp) (k : IntKind) (x y : Int) : Go.bits op k x y = match op with
 | .and => k.wrap ((BitVec.ofInt k.bits x &&& BitVec.ofInt k.bits y).toNat : Int)
 | .or => k.wrap ((BitVec.ofInt k.bits x ||| BitVec.ofInt k.bits y).toNat : Int)
 | .xor => k.wrap ((BitVec.ofInt k.bits x ^^^ BitVec.ofInt k.bits y).toNat : Int)
 | .andNot => k.wrap ((BitVec.ofInt k.bits x &&& ~~~BitVec.ofInt k.bits y).toNat : Int)
 | _ => Go.bits op k x y := by
 cases op <;> rfl
theorem ofInt_nat32 (n : Nat) (h : n < 4294967296) : (BitVec.ofInt 32 (n : Int)).toNat = n := by
 rw [BitVec.toNat_ofInt]; omega
theorem ofInt_nat64 (n : Nat) (h : n < 18446744073709551616) : (BitVec.ofInt 64 (n : Int)).toNat = n := by
 rw [BitVec.toNat_ofInt]; omega
theorem wrap_u32 (x : Int) : IntKind.wrap .u32 x = x % 4294967296 := rfl
theorem wrap_i64 (x : Int) : IntKind.wrap .i64 x = wrap64 x := i64_w x
theorem xor_u32_rng (x y : Int) : 0 ≤ Go.bits .xor .u32 x y ∧ Go.bits .xor .u32 x y < 4294967296 := by
 rw [bits_nat]
 show 0 ≤ IntKind.wrap .u32 _ ∧ IntKind.wrap .u32 _ < _
 rw [wrap_u32]
 omega
theorem and_u32_one (x : Int) (h0 : 0 ≤ x) (h1 : x < 4294967296) : Go.bits .and .u32 x 1 = x % 2 := by
 rw [bits_nat]
 show IntKind.wrap .u32 ((BitVec.ofInt 32 x &&& BitVec.ofInt 32 ((1 : Nat) : Int)).toNat : Int) = _
 obtain ⟨n, rfl⟩ := Int.eq_ofNat_of_zero_le h0
 rw [BitVec.toNat_and, ofInt_nat32 n (by omega), ofInt_nat32 1 (by omega), Nat.and_one_is_mod, wrap_u32]
 omega
theorem var_byte (x : Int) (h0 : 0 ≤ x) (h1 : x ≤ 1000000000) : (Go.bits .or .i64 (Go.bits .and .i64 x 127) 128) % 256 = x % 128 + 128 := by
 obtain ⟨n, rfl⟩ := Int.eq_ofNat_of_zero_le h0
 have e1 : Go.bits .and .i64 (n : Int) 127 = ((n % 128 : Nat) : Int) := by
  rw [bits_nat]
  show IntKind.wrap .i64 ((BitVec.ofInt 64 (n : Int) &&& BitVec.ofInt 64 ((127 : Nat) : Int)).toNat : Int) = _
  rw [BitVec.toNat_and, ofInt_nat64 n (by omega), ofInt_nat64 127 (by omega), wrap_i64]
  have : n &&& 127 = n % 128 := Nat.and_two_pow_sub_one_eq_mod n 7
  rw [this, w64 (by omega) (by omega)]
 rw [e1, bits_nat]
 show IntKind.wrap .i64 ((BitVec.ofInt 64 ((n % 128 : Nat) : Int) ||| BitVec.ofInt 64 ((128 : Nat) : Int)).toNat : Int) % 256 = _
 rw [BitVec.toNat_or, ofInt_nat64 (n % 128) (by omega), ofInt_nat64 128 (by omega), wrap_i64]
 have h : ∀ m : Fin 128, (m.val ||| 128) = m.val + 128 := by decide
 have hm := h ⟨n % 128, by omega⟩
 have e2 : (n % 128 ||| 128) = n % 128 + 128 := hm
 rw [e2, w64 (by omega) (by omega)]
 omega
def varL (n : Nat) : List Int := if h : n ≤ 127 then [(n : Int)] else ((n % 128 + 128 : Nat) : Int) :: varL (n / 128)
 termination_by n
 decreasing_by omega
theorem varL_small (n : Nat) (h : n ≤ 127) : varL n = [(n : Int)] := by rw [varL, dif_pos h]
theorem varL_big (n : Nat) (h : 127 < n) : varL n = ((n % 128 + 128 : Nat) : Int) :: varL (n / 128) := by rw [varL, dif_neg (by omega)]
theorem varL_len (n : Nat) (h : n ≤ 1000000000) : (varL n).length ≤ 5 := by
 have key : ∀ (j n : Nat), n < 128 ^ (j + 1) → (varL n).length ≤ j + 1 := by
  intro j
  induction j with
  | zero => intro n h; rw [varL_small n (by omega)]; simp
  | succ j ih =>
   intro n h
   by_cases hn : n ≤ 127
   ·rw [varL_small n hn]; simp
   ·rw [varL_big n (by omega), List.length_cons]
    have := ih (n / 128) (by rw [Nat.pow_succ] at h; omega)
    omega
 exact key 4 n (by omega)
def varS (n : Int) : ByteArray := strOfNums (varL n.toNat)
theorem varS_size (n : Int) (h : n ≤ 1000000000) : (varS n).size ≤ 5 := by
 unfold varS; rw [strOfNums_size]; exact varL_len _ (by omega)
theorem ev_spec_l01Var (n : Int) (h0 : 0 ≤ n) (h1 : n ≤ 1000000000) : Ev (fun k => spec_l01Var.f k n) (varS n) := by
 have key : ∀ (m : Nat) (acc : List Int), m ≤ 1000000000 → acc.length + m ≤ 2000000000 → Ev (fun k => spec_l01Var.l0 k (m : Int) acc) (strOfNums (acc ++ varL m)) := by
  intro m
  induction m using Nat.strongRecOn with
  | ind m ih =>
   intro acc hm ha
   refine evSucc ?_
   simp only [spec_l01Var.l0]
   have e : Int.tdiv (m : Int) 128 = ((m / 128 : Nat) : Int) := by rw [Int.tdiv_eq_ediv_of_nonneg (by omega)]; omega
   have e2 : Int.tmod (m : Int) 128 = ((m % 128 : Nat) : Int) := by rw [Int.tmod_eq_emod_of_nonneg (by omega)]; omega
   by_cases hb : m ≤ 127
   ·refine evNeg (by omega) (evPos (by omega) ?_)
    rw [varL_small m hb, show (m : Int) % 256 = m by omega]
    exact Ev.now _
   ·refine evPos (by omega) (evPos (by omega) ?_)
    rw [e, e2, w64 (by omega) (by omega), w64 (by omega) (by omega), varL_big m (by omega)]
    have := ih (m / 128) (by omega) (acc ++ [((m % 128 + 128 : Nat) : Int)]) (by omega) (by simp; omega)
    rw [List.append_assoc] at this
    rw [show (((m % 128 : Nat) : Int) + 128) % 256 = ((m % 128 + 128 : Nat) : Int) by omega]
    exact this
 have := key n.toNat [] (by omega) (by simp; omega)
 rw [Int.toNat_of_nonneg h0] at this
 exact this
theorem ev_impl_VarText (n : Int) : Ev (fun k => impl_VarText.f k n) (if rng n 0 1000000000 = true then (varS n, true) else (⟨#[]⟩, false)) := by
 simp only [impl_VarText.f, impl_in, Option.bind_some]
 refine evIte (fun h => ?_) (fun h => Ev.now _)
 have hr : 0 ≤ n ∧ n ≤ 1000000000 := by unfold rng at h; simpa using h
 have key : ∀ (m : Nat) (acc : List Int), m ≤ 1000000000 → acc.length + m ≤ 2000000000 → Ev (fun k => impl_VarText.l0 k (m : Int) acc) (strOfNums (acc ++ varL m), true) := by
  intro m
  induction m using Nat.strongRecOn with
  | ind m ih =>
   intro acc hm ha
   refine evSucc ?_
   simp only [impl_VarText.l0]
   by_cases hb : m ≤ 127
   ·refine evNeg (by omega) (evPos (by omega) ?_)
    rw [varL_small m hb, show (m : Int) % 256 = m by omega]
    exact Ev.now _
   ·refine evPos (by omega) (evPos (by omega) ?_)
    rw [var_byte m (by omega) (by omega), varL_big m (by omega)]
    have := ih (m / 128) (by omega) (acc ++ [((m % 128 + 128 : Nat) : Int)]) (by omega) (by simp; omega)
    rw [List.append_assoc] at this
    rw [show (m : Int) / 128 = ((m / 128 : Nat) : Int) by omega, show (m : Int) % 128 + 128 = ((m % 128 + 128 : Nat) : Int) by omega]
    exact this
 have := key n.toNat [] (by omega) (by simp; omega)
 rw [Int.toNat_of_nonneg hr.1] at this
 exact this
theorem ev_impl_VarText_ok (n : Int) (h0 : 0 ≤ n) (h1 : n ≤ 1000000000) : Ev (fun k => impl_VarText.f k n) (varS n, true) :=
 evEq (ev_impl_VarText n) (if_pos (by unfold rng; simp [h0, h1]))
def itemB (a b c d : Int) : Bool := if a = 1 then rng b 0 4294967295 && (rng c 0 4294967295 && d == 0) else if a = 2 then rng d 1 1000000000 && (b == 0 && c == 0) else false
theorem spec_itemB (a b c d : Int) : spec_ItemOk.f a b c d = some (itemB a b c d) := by
 unfold spec_ItemOk.f itemB
 simp only [spec_HalfOk.f, spec_in, Option.bind_some]
 by_cases h1 : a = 1
 ·rw [if_pos h1, if_pos h1]
  cases rng b 0 4294967295 <;> cases rng c 0 4294967295 <;> simp
 ·rw [if_neg h1, if_neg h1]
  by_cases h2 : a = 2
  ·rw [if_pos h2, if_pos h2]
   by_cases hb : b = 0
   ·cases rng d 1 1000000000 <;> simp [hb]
   ·cases rng d 1 1000000000 <;> simp [hb]
  ·rw [if_neg h2, if_neg h2]
theorem impl_itemB (a b c d : Int) : impl_ItemOk.f a b c d = some (itemB a b c d) := by
 unfold impl_ItemOk.f itemB
 simp only [impl_HalfOk.f, impl_in, Option.bind_some]
 by_cases h1 : a = 1
 ·rw [if_pos h1, if_pos h1]
  cases rng b 0 4294967295 <;> cases rng c 0 4294967295 <;> simp
 ·rw [if_neg h1, if_neg h1]
  by_cases h2 : a = 2
  ·rw [if_pos h2, if_pos h2]
   by_cases hb : b = 0
   ·cases rng d 1 1000000000 <;> simp [hb]
   ·cases rng d 1 1000000000 <;> simp [hb]
  ·rw [if_neg h2, if_neg h2]
def frameB (a b c d e f g : Int) : Bool := rng b 0 2 && (rng c 1 1000000000 && (if a = 1 then itemB d e f g else if a = 2 then (d == 0 && (e == 0 && (f == 0 && (g == 0)))) else false))
theorem ev_spec_FrameOk (a b c d e f g : Int) : Ev (fun k => spec_FrameOk.f k a b c d e f g) (frameB a b c d e f g) := by
 simp only [spec_FrameOk.f, spec_in, Option.bind_some]
 unfold frameB
 cases rng b 0 2
 ·refine evNeg (by simp) (evSucc ?_)
  simp only [spec_FrameOk.j0, Bool.false_and]
  exact evPos (by simp) (Ev.now _)
 ·refine evPos rfl (evSucc ?_)
  simp only [spec_FrameOk.j0, spec_itemB, Option.bind_some, Bool.true_and]
  cases rng c 1 1000000000
  ·exact evPos (by decide) (Ev.now _)
  ·refine evNeg (by simp) ?_
   simp only [Bool.true_and]
   exact evIte (fun _ => Ev.now _) (fun _ => evIte (fun _ => Ev.now _) (fun _ => Ev.now _))
theorem ev_impl_FrameOk (a b c d e f g : Int) : Ev (fun k => impl_FrameOk.f k a b c d e f g) (frameB a b c d e f g) := by
 simp only [impl_FrameOk.f, impl_isPid.f, impl_in, Option.bind_some]
 unfold frameB
 cases rng b 0 2
 ·refine evNeg (by simp) (evSucc ?_)
  simp only [impl_FrameOk.j0, Bool.false_and]
  exact evPos (by simp) (Ev.now _)
 ·refine evPos rfl (evSucc ?_)
  simp only [impl_FrameOk.j0, impl_itemB, Option.bind_some, Bool.true_and]
  cases rng c 1 1000000000
  ·exact evPos (by decide) (Ev.now _)
  ·refine evNeg (by simp) ?_
   simp only [Bool.true_and]
   exact evIte (fun _ => Ev.now _) (fun _ => evIte (fun _ => Ev.now _) (fun _ => Ev.now _))
theorem itemB_count {a b c d : Int} (h : itemB a b c d = true) : 0 ≤ d ∧ d ≤ 1000000000 := by
 unfold itemB rng at h
 split at h
 ·simp at h; omega
 ·split at h
  ·simp at h; omega
  ·simp at h
theorem frameB_facts {a b c d e f g : Int} (h : frameB a b c d e f g = true) : (0 ≤ b ∧ b ≤ 2) ∧ (1 ≤ c ∧ c ≤ 1000000000) ∧ (0 ≤ g ∧ g ≤ 1000000000) ∧ (a = 1 ∨ a = 2) := by
 unfold frameB at h
 simp only [Bool.and_eq_true] at h
 obtain ⟨h1, h2, h3⟩ := h
 unfold rng at h1 h2
 simp at h1 h2
 refine ⟨h1, h2, ?_⟩
 split at h3
 ·rename_i ha
  exact ⟨itemB_count h3, Or.inl ha⟩
 ·split at h3
  ·rename_i ha
   simp at h3
   exact ⟨by omega, Or.inr ha⟩
  ·simp at h3
def sumBit (x : Int) : Int := if x % 2 = 1 then Go.bits .xor .u32 (x / 2) 3558460437 else x / 2
def sumByte (x b : Int) : Int := sumBit (sumBit (sumBit (sumBit (sumBit (sumBit (sumBit (sumBit (Go.bits .xor .u32 x b))))))))
def sumAll (x : Int) (s : ByteArray) : Nat → Int
 | 0 => x
 | i + 1 => sumByte (sumAll x s i) (bt s i)
theorem sumBit_rng (x : Int) (h : 0 ≤ x ∧ x < 4294967296) : 0 ≤ sumBit x ∧ sumBit x < 4294967296 := by
 unfold sumBit
 split
 ·exact xor_u32_rng _ _
 ·omega
theorem sumByte_rng (x b : Int) : 0 ≤ sumByte x b ∧ sumByte x b < 4294967296 := by
 unfold sumByte
 repeat (first | exact xor_u32_rng _ _ | apply sumBit_rng)
theorem sumAll_rng (x : Int) (s : ByteArray) (h : 0 ≤ x ∧ x < 4294967296) : ∀ i, 0 ≤ sumAll x s i ∧ sumAll x s i < 4294967296
 | 0 => h
 | _ + 1 => sumByte_rng _ _
theorem sum_impl_step (x : Int) (s : ByteArray) (i j r : Int) (h : 0 ≤ x ∧ x < 4294967296) (hj : j < 8 ∧ 0 ≤ j) (next : Ev (fun k => impl_SumMore.l1 k (sumBit x) s i (j + 1)) r) : Ev (fun k => impl_SumMore.l1 k x s i j) r := by
 refine evSucc ?_
 simp only [impl_SumMore.l1]
 refine evPos hj.1 ?_
 rw [and_u32_one x h.1 h.2, w64 (by omega) (by omega)]
 unfold sumBit at next
 by_cases hx : x % 2 = 1
 ·rw [if_pos hx] at next; exact evPos hx next
 ·rw [if_neg hx] at next; exact evNeg hx next
theorem sum_spec_step (x : Int) (s : ByteArray) (i j r : Int) (h : 0 ≤ x ∧ x < 4294967296) (hj : j < 8 ∧ 0 ≤ j) (next : Ev (fun k => spec_SumMore.l1 k (sumBit x) s i (j + 1)) r) : Ev (fun k => spec_SumMore.l1 k x s i j) r := by
 refine evSucc ?_
 simp only [spec_SumMore.l1]
 refine evPos hj.1 ?_
 rw [Int.tmod_eq_emod_of_nonneg h.1, Int.tdiv_eq_ediv_of_nonneg h.1, w64 (by omega) (by omega), show x / 2 % 4294967296 = x / 2 by omega]
 unfold sumBit at next
 by_cases hx : x % 2 = 1
 ·rw [if_pos hx] at next; exact evPos hx next
 ·rw [if_neg hx] at next; exact evNeg hx next
theorem ev_impl_SumMore (x : Int) (s : ByteArray) (h : 0 ≤ x ∧ x < 4294967296) (hs : s.size ≤ 140737488351232) : Ev (fun k => impl_SumMore.f k x s) (sumAll x s s.size) := by
 have key := evUp (r := sumAll x s s.size) s.size (fun i k => impl_SumMore.l0 k (sumAll x s i) s (i : Int)) ?_ ?_
 ·exact key
 ·intro i hi ih
  refine evSucc ?_
  simp only [impl_SumMore.l0]
  have hb := bt_range s (i : Int)
  refine evPos (by omega) (evPos (by omega) ?_)
  rw [show bt s (i : Int) % 4294967296 = bt s (i : Int) by omega]
  iterate 8 (refine sum_impl_step _ _ _ _ _ (by repeat (first | exact xor_u32_rng _ _ | apply sumBit_rng)) (by decide) ?_)
  refine evSucc ?_
  simp only [impl_SumMore.l1]
  refine evNeg (by decide) ?_
  rw [w64 (by omega) (by omega), ci]
  exact ih
 ·refine evSucc ?_
  simp only [impl_SumMore.l0]
  exact evNeg (by omega) (Ev.now _)
theorem ev_spec_SumMore (x : Int) (s : ByteArray) (h : 0 ≤ x ∧ x < 4294967296) (hs : s.size ≤ 140737488351232) : Ev (fun k => spec_SumMore.f k x s) (sumAll x s s.size) := by
 have key := evUp (r := sumAll x s s.size) s.size (fun i k => spec_SumMore.l0 k (sumAll x s i) s (i : Int)) ?_ ?_
 ·exact key
 ·intro i hi ih
  refine evSucc ?_
  simp only [spec_SumMore.l0]
  have hb := bt_range s (i : Int)
  refine evPos (by omega) (evPos (by omega) ?_)
  rw [show bt s (i : Int) % 4294967296 = bt s (i : Int) by omega]
  iterate 8 (refine sum_spec_step _ _ _ _ _ (by repeat (first | exact xor_u32_rng _ _ | apply sumBit_rng)) (by decide) ?_)
  refine evSucc ?_
  simp only [spec_SumMore.l1]
  refine evNeg (by decide) ?_
  rw [w64 (by omega) (by omega), ci]
  exact ih
 ·refine evSucc ?_
  simp only [spec_SumMore.l0]
  exact evNeg (by omega) (Ev.now _)
def sumS (s : ByteArray) : Int := sumAll 4294967295 s s.size
theorem sumS_rng (s : ByteArray) : 0 ≤ sumS s ∧ sumS s < 4294967296 := sumAll_rng _ _ (by omega) _
def four4 (n : Int) : ByteArray := strOfNums [(n / 16777216) % 256, (n / 65536) % 256, (n / 256) % 256, n % 256]
theorem four4_size (n : Int) : (four4 n).size = 4 := by simp [four4, strOfNums_size]
theorem impl_four4 (n : Int) : impl_four.f n = some (four4 n) := rfl
theorem spec_four4 (n : Int) : spec_l06Four.f n = some (four4 n) := rfl
theorem spec_four2 (n : Int) : spec_l02Four.f n = some (four4 n) := rfl
def sealB (s : ByteArray) : ByteArray × Bool := if s.size ≤ 20000 then (s ++ four4 (sumS s), true) else (⟨#[]⟩, false)
theorem ev_impl_Sealed (s : ByteArray) (hs : s.size ≤ 140737488351232) : Ev (fun k => impl_Sealed.f k s) (sealB s) := by
 simp only [impl_Sealed.f, impl_SumOf.f]
 unfold sealB
 by_cases h : s.size ≤ 20000
 ·have hr := sumS_rng s
  rw [if_pos h]
  refine evNeg (by omega) (Ev.bind (Ev.bind (ev_impl_SumMore _ s (by omega) hs) (Ev.now _)) ?_)
  rw [show sumAll 4294967295 s s.size = sumS s from rfl, w64 (by omega) (by omega)]
  simp only [impl_four4, Option.bind_some]
  exact evPos (by rw [four4_size]; omega) (Ev.now _)
 ·rw [if_neg h]
  exact evPos (by omega) (Ev.now _)
theorem ev_spec_Sealed (s : ByteArray) (hs : s.size ≤ 140737488351232) : Ev (fun k => spec_Sealed.f k s) (sealB s) := by
 simp only [spec_Sealed.f, spec_SumOf.f]
 unfold sealB
 by_cases h : s.size ≤ 20000
 ·rw [if_pos h]
  refine evNeg (by omega) (Ev.bind (Ev.bind (ev_spec_SumMore _ s (by omega) hs) (Ev.now _)) ?_)
  rw [show sumAll 4294967295 s s.size = sumS s from rfl]
  simp only [spec_four2, Option.bind_some]
  exact evPos (by rw [four4_size]; omega) (Ev.now _)
 ·rw [if_neg h]
  exact evPos (by omega) (Ev.now _)
def frameRaw (a b c d e f g : Int) : ByteArray := ((((strOfNums [a % 256, b % 256] ++ varS c) ++ strOfNums [d % 256]) ++ four4 e) ++ four4 f) ++ varS g
theorem frameRaw_size {a b c d e f g : Int} (hc : c ≤ 1000000000) (hg : g ≤ 1000000000) : (frameRaw a b c d e f g).size ≤ 21 := by
 have h1 := varS_size c hc
 have h2 := varS_size g hg
 unfold frameRaw
 simp only [sizeApp, strOfNums_size, four4_size, List.length_cons, List.length_nil]
 omega
def frameS (a b c d e f g : Int) : ByteArray × Bool := if frameB a b c d e f g = true then (frameRaw a b c d e f g ++ four4 (sumS (frameRaw a b c d e f g)), true) else (⟨#[]⟩, false)
theorem frameS_size (a b c d e f g : Int) : (frameS a b c d e f g).1.size ≤ 25 := by
 unfold frameS
 split
 ·rename_i h
  obtain ⟨_, ⟨_, h2⟩, ⟨_, h3⟩, _⟩ := frameB_facts h
  have := frameRaw_size (a := a) (b := b) (d := d) (e := e) (f := f) h2 h3
  rw [sizeApp, four4_size]
  omega
 ·decide
theorem ev_spec_FrameText (a b c d e f g : Int) : Ev (fun k => spec_FrameText.f k a b c d e f g) (frameS a b c d e f g) := by
 simp only [spec_FrameText.f]
 refine Ev.bind (ev_spec_FrameOk a b c d e f g) ?_
 unfold frameS
 by_cases h : frameB a b c d e f g = true
 ·obtain ⟨_, hc, hg, _⟩ := frameB_facts h
  have s1 := varS_size c hc.2
  have s2 := varS_size g hg.2
  have hr := frameRaw_size (a := a) (b := b) (d := d) (e := e) (f := f) hc.2 hg.2
  have hsz2 (x y : Int) : (strOfNums [x, y]).size = 2 := by rw [strOfNums_size]; rfl
  have hsz1 (x : Int) : (strOfNums [x]).size = 1 := by rw [strOfNums_size]; rfl
  rw [if_pos h]
  refine evPos h ?_
  simp only [Option.bind_some, spec_four4]
  refine Ev.bind (ev_spec_l01Var c (by omega) hc.2) (evPos (by rw [hsz2]; omega) (evPos (by simp only [sizeApp, hsz2, hsz1]; omega) (evPos (by simp only [sizeApp, hsz2, hsz1, four4_size]; omega) (evPos (by simp only [sizeApp, hsz2, hsz1, four4_size]; omega) ?_))))
  refine Ev.bind (ev_spec_l01Var g (by omega) hg.2) (evPos (by simp only [sizeApp, hsz2, hsz1, four4_size]; omega) ?_)
  refine Ev.bind (ev_spec_Sealed (frameRaw a b c d e f g) (by omega)) (evEq (Ev.now _) ?_)
  unfold sealB
  rw [if_pos (by omega)]
 ·rw [if_neg h]
  exact evNeg h (Ev.now _)
theorem ev_impl_FrameText (a b c d e f g : Int) : Ev (fun k => impl_FrameText.f k a b c d e f g) (frameS a b c d e f g) := by
 simp only [impl_FrameText.f]
 refine Ev.bind (ev_impl_FrameOk a b c d e f g) ?_
 unfold frameS
 by_cases h : frameB a b c d e f g = true
 ·obtain ⟨_, hc, hg, _⟩ := frameB_facts h
  have s1 := varS_size c hc.2
  have s2 := varS_size g hg.2
  have hr := frameRaw_size (a := a) (b := b) (d := d) (e := e) (f := f) hc.2 hg.2
  have hsz2 (x y : Int) : (strOfNums [x, y]).size = 2 := by rw [strOfNums_size]; rfl
  have hsz1 (x : Int) : (strOfNums [x]).size = 1 := by rw [strOfNums_size]; rfl
  rw [if_pos h]
  refine evPos h ?_
  refine Ev.bind (ev_impl_VarText_ok c (by omega) hc.2) (Ev.bind (ev_impl_VarText_ok g (by omega) hg.2) ?_)
  simp only [Option.bind_some, impl_four4]
  refine evPos (by rw [hsz2]; omega) (evPos (by simp only [sizeApp, hsz2, hsz1]; omega) (evPos (by simp only [sizeApp, hsz2, hsz1, four4_size]; omega) (evPos (by simp only [sizeApp, hsz2, hsz1, four4_size]; omega) (evPos (by simp only [sizeApp, hsz2, hsz1, four4_size]; omega) ?_))))
  refine Ev.bind (ev_impl_Sealed (frameRaw a b c d e f g) (by omega)) (evEq (Ev.now _) ?_)
  unfold sealB
  rw [if_pos (by omega)]
 ·rw [if_neg h]
  exact evNeg h (Ev.now _)
def entryS (b c d e f g : Int) : ByteArray := (frameS 1 b c d e f g).1
theorem entryS_size (b c d e f g : Int) : (entryS b c d e f g).size ≤ 25 := frameS_size 1 b c d e f g
theorem ev_spec_EntryText (b c d e f g : Int) : Ev (fun k => spec_EntryText.f k b c d e f g) (entryS b c d e f g) := by
 simp only [spec_EntryText.f]
 exact Ev.bind (ev_spec_FrameText 1 b c d e f g) (Ev.now _)
theorem ev_impl_EntryText (b c d e f g : Int) : Ev (fun k => impl_EntryText.f k b c d e f g) (entryS b c d e f g) := by
 simp only [impl_EntryText.f]
 exact Ev.bind (ev_impl_FrameText 1 b c d e f g) (Ev.now _)
open DigestEq (dig dig_spec dig_impl)
theorem one48 : (⟨#[48]⟩ : ByteArray).size = 1 := rfl
def leafS (b c d e f g : Int) : ByteArray := dig ((⟨#[48]⟩ : ByteArray) ++ entryS b c d e f g)
theorem ev_spec_LeafOf (b c d e f g : Int) : Ev (fun k => spec_LeafOf.f k b c d e f g) (leafS b c d e f g) := by
 have h := entryS_size b c d e f g
 simp only [spec_LeafOf.f]
 refine Ev.bind (ev_spec_EntryText b c d e f g) (evPos (by omega) ?_)
 rw [dig_spec _ (by rw [sizeApp, one48]; omega)]
 exact Ev.now _
theorem ev_impl_LeafOf (b c d e f g : Int) : Ev (fun k => impl_LeafOf.f k b c d e f g) (leafS b c d e f g) := by
 have h := entryS_size b c d e f g
 simp only [impl_LeafOf.f]
 refine Ev.bind (ev_impl_EntryText b c d e f g) (evPos (by omega) ?_)
 exact Ev.bind (dig_impl _ (by rw [sizeApp, one48]; omega)) (Ev.now _)
theorem dig_size (s : ByteArray) : (dig s).size = 32 := by
 unfold DigestEq.dig
 rw [strOfNums_size, PH.f4_len, PH.hs_len]
def half (n : Nat) : Nat := 2 ^ Nat.log2 (n - 1)
theorem half_lt (n : Nat) (h : 2 ≤ n) : half n < n := by
 have := Nat.log2_self_le (n := n - 1) (by omega)
 unfold half; omega
theorem half_pos (n : Nat) : 0 < half n := Nat.pow_pos (by omega)
theorem half_step (n j : Nat) (h : 2 ≤ n) (hj : j ≤ Nat.log2 (n - 1)) : (2 * 2 ^ j < n ∧ j + 1 ≤ Nat.log2 (n - 1)) ∨ (¬ 2 * 2 ^ j < n ∧ half n = 2 ^ j) := by
 by_cases hc : 2 * 2 ^ j < n
 ·exact Or.inl ⟨hc, (Nat.le_log2 (by omega)).2 (by rw [Nat.pow_succ]; omega)⟩
 ·refine Or.inr ⟨hc, ?_⟩
  have : ¬ j + 1 ≤ Nat.log2 (n - 1) := fun h' => by
   have := (Nat.le_log2 (by omega)).1 h'
   rw [Nat.pow_succ] at this; omega
  unfold half
  rw [show Nat.log2 (n - 1) = j by omega]
theorem pow_le_half (n j : Nat) (h : 2 ≤ n) (hj : j ≤ Nat.log2 (n - 1)) : 2 ^ j < n := by
 have := (Nat.le_log2 (n := n - 1) (k := j) (by omega)).1 hj
 omega
theorem ev_spec_half (n : Nat) (h : 2 ≤ n) (hb : n ≤ 140737488351232) : Ev (fun k => spec_l27Half.f k (n : Int)) (half n : Int) := by
 have key : ∀ d j, j + d = Nat.log2 (n - 1) → Ev (fun k => spec_l27Half.l0 k (n : Int) ((2 ^ j : Nat) : Int)) (half n : Int) := by
  intro d
  induction d with
  | zero =>
   intro j hj
   have hp := pow_le_half n j h (by omega)
   have hp0 : 0 < 2 ^ j := Nat.pow_pos (by omega)
   refine evSucc ?_
   simp only [spec_l27Half.l0]
   rw [w64 (by omega) (by omega)]
   rcases half_step n j h (by omega) with ⟨_, h2⟩ | ⟨h1, h2⟩
   ·omega
   ·rw [h2]; exact evNeg (by omega) (Ev.now _)
  | succ d ih =>
   intro j hj
   have hp := pow_le_half n j h (by omega)
   have hp0 : 0 < 2 ^ j := Nat.pow_pos (by omega)
   refine evSucc ?_
   simp only [spec_l27Half.l0]
   rw [w64 (by omega) (by omega)]
   rcases half_step n j h (by omega) with ⟨h1, _⟩ | ⟨h1, h2⟩
   ·refine evPos (by omega) ?_
    have := ih (j + 1) (by omega)
    rw [show 2 * ((2 ^ j : Nat) : Int) = ((2 ^ (j + 1) : Nat) : Int) by rw [Nat.pow_succ]; omega]
    exact this
   ·rw [h2]; exact evNeg (by omega) (Ev.now _)
 exact key _ 0 (Nat.zero_add _)
theorem ev_impl_half (n : Nat) (h : 2 ≤ n) (hb : n ≤ 140737488351232) : Ev (fun k => impl_firsts.f k (n : Int)) (half n : Int) := by
 have key : ∀ d j, j + d = Nat.log2 (n - 1) → Ev (fun k => impl_firsts.l0 k (n : Int) ((2 ^ j : Nat) : Int)) (half n : Int) := by
  intro d
  induction d with
  | zero =>
   intro j hj
   have hp := pow_le_half n j h (by omega)
   have hp0 : 0 < 2 ^ j := Nat.pow_pos (by omega)
   refine evSucc ?_
   simp only [impl_firsts.l0]
   rw [w64 (by omega) (by omega)]
   rcases half_step n j h (by omega) with ⟨_, h2⟩ | ⟨h1, h2⟩
   ·omega
   ·rw [h2]; exact evNeg (by omega) (Ev.now _)
  | succ d ih =>
   intro j hj
   have hp := pow_le_half n j h (by omega)
   have hp0 : 0 < 2 ^ j := Nat.pow_pos (by omega)
   refine evSucc ?_
   simp only [impl_firsts.l0]
   rw [w64 (by omega) (by omega)]
   rcases half_step n j h (by omega) with ⟨h1, _⟩ | ⟨h1, h2⟩
   ·refine evPos (by omega) ?_
    have := ih (j + 1) (by omega)
    rw [show 2 * ((2 ^ j : Nat) : Int) = ((2 ^ (j + 1) : Nat) : Int) by rw [Nat.pow_succ]; omega]
    exact this
   ·rw [h2]; exact evNeg (by omega) (Ev.now _)
 exact key _ 0 (Nat.zero_add _)
def leafT (x : S70) : ByteArray := leafS x.f0 x.f1 x.f2.f0 x.f2.f1 x.f2.f2 x.f2.f3
def nodeS (a b : ByteArray) : ByteArray := dig (((⟨#[49]⟩ : ByteArray) ++ a) ++ b)
theorem spec_nodeS (a b : ByteArray) (ha : a.size ≤ 16777216) (hb : b.size ≤ 16777216) : spec_NodeOf.f a b = some (nodeS a b) := by
 have s0 : ((⟨#[49]⟩ : ByteArray) ++ a).size = 1 + a.size := by rw [sizeApp]; rfl
 unfold spec_NodeOf.f nodeS
 rw [if_pos (by omega), if_pos (by rw [s0]; omega), dig_spec _ (by rw [sizeApp, s0]; omega)]
 rfl
theorem ev_impl_NodeOf (a b : ByteArray) (ha : a.size ≤ 16777216) (hb : b.size ≤ 16777216) : Ev (fun k => impl_NodeOf.f k a b) (nodeS a b) := by
 have s0 : ((⟨#[49]⟩ : ByteArray) ++ a).size = 1 + a.size := by rw [sizeApp]; rfl
 simp only [impl_NodeOf.f]
 exact evPos (by omega) (evPos (by rw [s0]; omega) (Ev.bind (dig_impl _ (by rw [sizeApp, s0]; omega)) (Ev.now _)))
def rootS (l : List S70) : ByteArray :=
 if h0 : l.length = 0 then dig ⟨#[]⟩ else if h1 : l.length = 1 then leafT (rd_T70 l 0)
 else nodeS (rootS (l.take (half l.length))) (rootS (l.drop (half l.length)))
 termination_by l.length
 decreasing_by
  ·have := half_lt l.length (by omega); simp; omega
  ·have := half_pos l.length; simp; omega
theorem rootS_size (l : List S70) : (rootS l).size = 32 := by
 rw [rootS]
 split
 ·exact dig_size _
 ·split
  ·exact dig_size _
  ·exact dig_size _
theorem ev_spec_RootOf (n : Nat) : ∀ (l : List S70), l.length = n → l.length ≤ 16777216 → Ev (fun k => spec_RootOf.f k l) (rootS l) := by
 induction n using Nat.strongRecOn with
 | ind n ih =>
  intro l hn hl
  refine evSucc ?_
  simp only [spec_RootOf.f]
  rw [rootS]
  by_cases h0 : l.length = 0
  ·rw [dif_pos h0]
   refine evPos (by omega) (evBindS (dig_spec _ (by show (⟨#[]⟩ : ByteArray).size ≤ _; decide)) (Ev.now _))
  rw [dif_neg h0]
  by_cases h1 : l.length = 1
  ·rw [dif_pos h1]
   exact evNeg (by omega) (evPos (by omega) (evPos (by omega) (Ev.bind (ev_spec_LeafOf _ _ _ _ _ _) (Ev.now _))))
  rw [dif_neg h1]
  have hk := half_lt l.length (by omega)
  have hp := half_pos l.length
  refine evNeg (by omega) (evNeg (by omega) (Ev.bind (ev_spec_half l.length (by omega) (by omega)) (evPos (by omega) (evPos (by omega) ?_))))
  rw [Int.toNat_natCast]
  refine Ev.bind (ih _ (by rw [List.length_take]; omega) (l.take (half l.length)) rfl (by rw [List.length_take]; omega)) (Ev.bind (ih _ (by rw [List.length_drop]; omega) (l.drop (half l.length)) rfl (by rw [List.length_drop]; omega)) ?_)
  exact evBindS (spec_nodeS _ _ (by rw [rootS_size]; omega) (by rw [rootS_size]; omega)) (Ev.now _)
theorem ev_impl_RootOf (n : Nat) : ∀ (l : List S70), l.length = n → l.length ≤ 16777216 → Ev (fun k => impl_RootOf.f k l) (rootS l) := by
 induction n using Nat.strongRecOn with
 | ind n ih =>
  intro l hn hl
  refine evSucc ?_
  simp only [impl_RootOf.f]
  rw [rootS]
  by_cases h0 : l.length = 0
  ·rw [dif_pos h0]
   refine evPos (by omega) (Ev.bind (dig_impl _ (by show (⟨#[]⟩ : ByteArray).size ≤ _; decide)) (Ev.now _))
  rw [dif_neg h0]
  by_cases h1 : l.length = 1
  ·rw [dif_pos h1]
   exact evNeg (by omega) (evPos (by omega) (evPos (by omega) (Ev.bind (ev_impl_LeafOf _ _ _ _ _ _) (Ev.now _))))
  rw [dif_neg h1]
  have hk := half_lt l.length (by omega)
  have hp := half_pos l.length
  refine evNeg (by omega) (evNeg (by omega) (Ev.bind (ev_impl_half l.length (by omega) (by omega)) (evPos (by omega) (evPos (by omega) ?_))))
  rw [Int.toNat_natCast]
  refine Ev.bind (ih _ (by rw [List.length_take]; omega) (l.take (half l.length)) rfl (by rw [List.length_take]; omega)) (Ev.bind (ih _ (by rw [List.length_drop]; omega) (l.drop (half l.length)) rfl (by rw [List.length_drop]; omega)) ?_)
  exact Ev.bind (ev_impl_NodeOf _ _ (by rw [rootS_size]; omega) (by rw [rootS_size]; omega)) (Ev.now _)
theorem rdS (l : List ByteArray) (i : Nat) (hi : i < l.length) : rdOf ByteArray.empty l (i : Int) = l[i] := by simp [rdOf, hi]
def pathS (l : List S70) (i : Nat) : List ByteArray :=
 if h1 : l.length ≤ 1 then []
 else if i < half l.length then pathS (l.take (half l.length)) i ++ [rootS (l.drop (half l.length))]
 else pathS (l.drop (half l.length)) (i - half l.length) ++ [rootS (l.take (half l.length))]
 termination_by l.length
 decreasing_by
  ·have := half_lt l.length (by omega); rw [List.length_take]; omega
  ·have := half_pos l.length; rw [List.length_drop]; omega
theorem pathS_len (n : Nat) : ∀ (l : List S70) (i : Nat), l.length = n → (pathS l i).length ≤ l.length := by
 induction n using Nat.strongRecOn with
 | ind n ih =>
  intro l i hn
  rw [pathS]
  split
  ·exact Nat.zero_le _
  ·have h1 := half_lt l.length (by omega)
   have h2 := half_pos l.length
   split
   ·have := ih (l.take (half l.length)).length (by rw [List.length_take]; omega) (l.take (half l.length)) i rfl
    rw [List.length_append, List.length_singleton]
    rw [List.length_take] at this
    omega
   ·have := ih (l.drop (half l.length)).length (by rw [List.length_drop]; omega) (l.drop (half l.length)) (i - half l.length) rfl
    rw [List.length_append, List.length_singleton]
    rw [List.length_drop] at this
    omega
theorem ev_impl_path (n : Nat) : ∀ (l : List S70) (i : Nat), l.length = n → l.length ≤ 200 → i < l.length → Ev (fun k => impl_path.f k l (i : Int)) (pathS l i) := by
 induction n using Nat.strongRecOn with
 | ind n ih =>
  intro l i hn hl hi
  have hpl := pathS_len l.length l i rfl
  refine evSucc ?_
  simp only [impl_path.f]
  rw [pathS] at hpl ⊢
  by_cases h1 : l.length = 1
  ·rw [dif_pos (by omega)]
   exact evPos (by omega) (Ev.now _)
  rw [dif_neg (by omega)] at hpl ⊢
  have hk := half_lt l.length (by omega)
  have hp := half_pos l.length
  refine evNeg (by omega) (Ev.bind (ev_impl_half l.length (by omega) (by omega)) ?_)
  rw [Int.toNat_natCast]
  by_cases hc : i < half l.length
  ·rw [if_pos hc] at hpl ⊢
   rw [List.length_append, List.length_singleton] at hpl
   refine evPos (by omega) (evPos (by omega) (evPos (by omega) (Ev.bind (ih _ (by rw [List.length_take]; omega) (l.take (half l.length)) i rfl (by rw [List.length_take]; omega) (by rw [List.length_take]; omega)) (Ev.bind (ev_impl_RootOf _ _ rfl (by rw [List.length_drop]; omega)) (evPos (by omega) (Ev.now _))))))
  ·rw [if_neg hc] at hpl ⊢
   rw [List.length_append, List.length_singleton] at hpl
   rw [w64 (x := (i : Int) - (half l.length : Int)) (by omega) (by omega), show (i : Int) - (half l.length : Int) = ((i - half l.length : Nat) : Int) by omega]
   refine evNeg (by omega) (evPos (by omega) (evPos (by omega) (Ev.bind (ih _ (by rw [List.length_drop]; omega) (l.drop (half l.length)) (i - half l.length) rfl (by rw [List.length_drop]; omega) (by rw [List.length_drop]; omega)) (Ev.bind (ev_impl_RootOf _ _ rfl (by rw [List.length_take]; omega)) (evPos (by omega) (Ev.now _))))))
def pathOfB (l : List S70) (i : Int) : List ByteArray × Bool := if l.length ≤ 200 ∧ 0 ≤ i ∧ i < l.length then (pathS l i.toNat, true) else ([], false)
theorem ev_impl_PathOf (l : List S70) (i : Int) (hl : l.length ≤ 16777216) : Ev (fun k => impl_PathOf.f k l i) (pathOfB l i) := by
 simp only [impl_PathOf.f, impl_in, Option.bind_some]
 unfold pathOfB
 by_cases h : l.length ≤ 200
 ·refine evNeg (by omega) ?_
  rw [w64 (x := (l.length : Int) - 1) (by omega) (by omega)]
  by_cases h2 : 0 ≤ i ∧ i < l.length
  ·rw [if_pos ⟨h, h2.1, h2.2⟩, show rng i 0 ((l.length : Int) - 1) = true by unfold rng; simp; omega]
   have := ev_impl_path l.length l i.toNat rfl h (by omega)
   rw [Int.toNat_of_nonneg h2.1] at this
   exact evPos rfl (Ev.bind this (Ev.now _))
  ·rw [if_neg (fun z => h2 z.2), show rng i 0 ((l.length : Int) - 1) = false by unfold rng; simp; omega]
   exact evNeg (by simp) (Ev.now _)
 ·rw [if_neg (fun z => h z.1)]
  exact evPos (by omega) (Ev.now _)
theorem and255 (x : Int) : 0 ≤ Go.bits .and .i64 x 255 ∧ Go.bits .and .i64 x 255 ≤ 255 := by
 have e : Go.bits .and .i64 x 255 = (((BitVec.ofInt 64 x).toNat % 256 : Nat) : Int) := by
  rw [bits_nat]
  show IntKind.wrap .i64 ((BitVec.ofInt 64 x &&& BitVec.ofInt 64 ((255 : Nat) : Int)).toNat : Int) = _
  rw [BitVec.toNat_and, ofInt_nat64 255 (by omega), wrap_i64]
  have : (BitVec.ofInt 64 x).toNat &&& 255 = (BitVec.ofInt 64 x).toNat % 256 := Nat.and_two_pow_sub_one_eq_mod _ 8
  rw [this, w64 (by omega) (by omega)]
 rw [e]
 omega
theorem drawByte (b : List Int) (i h : Int) (h0 : 0 ≤ i) (h1 : i ≤ b.length) (hb : b.length ≤ 16777216) : ∃ x i' h', spec_l01Byte.f b i h = some (x, i', h') ∧ 0 ≤ x ∧ x ≤ 255 ∧ 0 ≤ i' ∧ i' ≤ b.length := by
 unfold spec_l01Byte.f
 by_cases hc : i < (b.length : Int)
 ·rw [if_pos hc, if_pos h0, w64 (x := i + 1) (by omega) (by omega)]
  refine ⟨_, _, _, rfl, (and255 _).1, (and255 _).2, by omega, by omega⟩
 ·rw [if_neg hc]
  exact ⟨_, _, _, rfl, (and255 _).1, (and255 _).2, h0, h1⟩
theorem drawBelow (b : List Int) (i h n : Int) (h0 : 0 ≤ i) (h1 : i ≤ b.length) (hb : b.length ≤ 16777216) (hn : 0 < n) : ∃ x i' h', spec_l01Below.f b i h n = some (x, i', h') ∧ 0 ≤ x ∧ x < n ∧ 0 ≤ i' ∧ i' ≤ b.length := by
 unfold spec_l01Below.f
 rw [if_neg (by omega)]
 by_cases hc : n ≤ 256
 ·obtain ⟨x, i', h', e, x0, x1, i0, i1⟩ := drawByte b i h h0 h1 hb
  rw [if_pos hc, e]
  simp only [Option.bind_some]
  rw [if_neg (by omega), Int.tmod_eq_emod_of_nonneg x0]
  exact ⟨_, _, _, rfl, Int.emod_nonneg _ (by omega), Int.emod_lt_of_pos _ hn, i0, i1⟩
 ·obtain ⟨x, i1, h1', e1, x0, x1, j0, j1⟩ := drawByte b i h h0 h1 hb
  obtain ⟨y, i2, h2', e2, y0, y1, k0, k1⟩ := drawByte b i1 h1' j0 j1 hb
  obtain ⟨z, i3, h3', e3, z0, z1, l0, l1⟩ := drawByte b i2 h2' k0 k1 hb
  obtain ⟨v, i4, h4', e4, v0, v1, m0, m1⟩ := drawByte b i3 h3' l0 l1 hb
  rw [if_neg hc, e1]
  simp only [Option.bind_some, e2, e3, e4]
  rw [if_neg (by omega), w64 (x := x * 16777216) (by omega) (by omega), w64 (x := y * 65536) (by omega) (by omega), w64 (x := x * 16777216 + y * 65536) (by omega) (by omega), w64 (x := z * 256) (by omega) (by omega), w64 (x := x * 16777216 + y * 65536 + z * 256) (by omega) (by omega), w64 (x := x * 16777216 + y * 65536 + z * 256 + v) (by omega) (by omega), Int.tmod_eq_emod_of_nonneg (by omega)]
  exact ⟨_, _, _, rfl, Int.emod_nonneg _ (by omega), Int.emod_lt_of_pos _ hn, m0, m1⟩
theorem drawOnce (b : List Int) (i h n : Int) (h0 : 0 ≤ i) (h1 : i ≤ b.length) (hb : b.length ≤ 16777216) (hn : 0 < n) : ∃ (x : Bool) (i' h' : Int), spec_l01Once.f b i h n = some (x, i', h') ∧ 0 ≤ i' ∧ i' ≤ b.length := by
 unfold spec_l01Once.f
 obtain ⟨x, i', h', e, x0, x1, i0, i1⟩ := drawBelow b i h n h0 h1 hb hn
 rw [e]
 exact ⟨_, _, _, rfl, i0, i1⟩
theorem drawNew (b : List Int) (hb : b.length ≤ 16777216) : ∃ h : Int, Ev (fun k => spec_l01New.f k b) (b, 0, h) := by
 have key : ∀ d (i : Nat) (h : Int), i + d = b.length → ∃ h', Ev (fun k => spec_l01New.l0 k b h (i : Int)) (b, 0, h') := by
  intro d
  induction d with
  | zero =>
   intro i h hi
   refine ⟨h, evSucc ?_⟩
   simp only [spec_l01New.l0]
   exact evNeg (by omega) (Ev.now _)
  | succ d ih =>
   intro i h hi
   by_cases h4 : (i : Int) < 4000
   ·obtain ⟨h', hh⟩ := ih (i + 1) (Go.bits .and .i64 (wrap64 ((wrap64 ((wrap64 (h * 131)) + (wrap64 (rd b (i : Int))))) + 7)) 1073741823) (by omega)
    refine ⟨h', evSucc ?_⟩
    simp only [spec_l01New.l0]
    refine evPos (by omega) (evPos h4 (evPos (by omega) ?_))
    rw [w64 (x := (i : Int) + 1) (by omega) (by omega), ci]
    exact hh
   ·refine ⟨h, evSucc ?_⟩
    simp only [spec_l01New.l0]
    exact evPos (by omega) (evNeg h4 (Ev.now _))
 simp only [spec_l01New.f]
 exact key b.length 0 _ (by omega)
def okE (x : S70) : Bool := frameB 1 x.f0 x.f1 x.f2.f0 x.f2.f1 x.f2.f2 x.f2.f3
theorem drawHalf (b : List Int) (i h : Int) (h0 : 0 ≤ i) (h1 : i ≤ b.length) (hb : b.length ≤ 16777216) : ∃ x i' h', spec_l04Half.f b i h = some (x, i', h') ∧ 0 ≤ x ∧ x ≤ 4294967295 ∧ 0 ≤ i' ∧ i' ≤ b.length := by
 unfold spec_l04Half.f
 obtain ⟨x, i1, h1', e1, x0, x1, j0, j1⟩ := drawBelow b i h 12 h0 h1 hb (by omega)
 rw [e1]
 simp only [Option.bind_some]
 unfold spec_l01PickInt.f
 obtain ⟨y, i2, h2', e2, y0, y1, k0, k1⟩ := drawBelow b i1 h1' (([0, 1, 2, 3, 5, 7, 255, 4294967295, 2147483648, x] : List Int).length : Int) j0 j1 hb (by simp)
 rw [e2]
 simp only [Option.bind_some]
 rw [if_pos y0, if_pos y1]
 simp only [Option.bind_some]
 have hy : y < 10 := y1
 refine ⟨_, _, _, rfl, ?_, ?_, k0, k1⟩
 all_goals
  have hc : y = 0 ∨ y = 1 ∨ y = 2 ∨ y = 3 ∨ y = 4 ∨ y = 5 ∨ y = 6 ∨ y = 7 ∨ y = 8 ∨ y = 9 := by omega
  rcases hc with rfl | rfl | rfl | rfl | rfl | rfl | rfl | rfl | rfl | rfl <;> simp [rd] <;> omega
theorem drawItem (b : List Int) (i h : Int) (h0 : 0 ≤ i) (h1 : i ≤ b.length) (hb : b.length ≤ 16777216) : ∃ c d e f i' h', spec_l17Item.f b i h = some (c, d, e, f, i', h') ∧ itemB c d e f = true ∧ 0 ≤ i' ∧ i' ≤ b.length := by
 unfold spec_l17Item.f
 obtain ⟨x, i1, h1', e1, j0, j1⟩ := drawOnce b i h 3 h0 h1 hb (by omega)
 rw [e1]
 simp only [Option.bind_some]
 cases x
 ·rw [if_neg (by simp)]
  obtain ⟨y, i2, h2', e2, y0, y1, k0, k1⟩ := drawBelow b i1 h1' 9 j0 j1 hb (by omega)
  rw [e2]
  simp only [Option.bind_some]
  obtain ⟨z, i3, h3', e3, z0, z1, l0, l1⟩ := drawHalf b i2 h2' k0 k1 hb
  rw [e3]
  refine ⟨_, _, _, _, _, _, rfl, ?_, l0, l1⟩
  unfold itemB rng
  simp
  omega
 ·rw [if_pos rfl]
  obtain ⟨y, i2, h2', e2, y0, y1, k0, k1⟩ := drawBelow b i1 h1' 5 j0 j1 hb (by omega)
  rw [e2]
  simp only [Option.bind_some]
  rw [w64 (x := 1 + y) (by omega) (by omega)]
  refine ⟨_, _, _, _, _, _, rfl, ?_, k0, k1⟩
  unfold itemB rng
  simp
  omega
theorem drawEntriesGo (b : List Int) (hb : b.length ≤ 16777216) : ∀ (d : Nat) (i h : Int) (n : Nat) (out : List S70), 0 ≤ i → i ≤ b.length → n + d = 5 → out.length = n → out.all okE = true →
 ∃ l i' h', Ev (fun k => spec_l19Entries.l0 k out (n : Int) b i h) (l, i', h') ∧ l.length ≤ 5 ∧ l.all okE = true ∧ 0 ≤ i' ∧ i' ≤ b.length := by
 intro d
 induction d with
 | zero =>
  intro i h n out h0 h1 hn ho ha
  obtain ⟨x, i1, h1', e1, x0, x1, j0, j1⟩ := drawBelow b i h 6 h0 h1 hb (by omega)
  refine ⟨out, i1, h1', evSucc ?_, by omega, ha, j0, j1⟩
  simp only [spec_l19Entries.l0]
  exact evBindS e1 (evNeg (by omega) (Ev.now _))
 | succ d ih =>
  intro i h n out h0 h1 hn ho ha
  obtain ⟨x, i1, h1', e1, x0, x1, j0, j1⟩ := drawBelow b i h 6 h0 h1 hb (by omega)
  by_cases hx : (n : Int) < x
  ·obtain ⟨y, i2, h2', e2, y0, y1, k0, k1⟩ := drawBelow b i1 h1' 3 j0 j1 hb (by omega)
   obtain ⟨z, i3, h3', e3, z0, z1, l0, l1⟩ := drawBelow b i2 h2' 5 k0 k1 hb (by omega)
   obtain ⟨c, e, f, g, i4, h4', e4, hi, m0, m1⟩ := drawItem b i3 h3' l0 l1 hb
   obtain ⟨l, i', h', hev, hl, hall, q0, q1⟩ := ih i4 h4' (n + 1) (out ++ [⟨y, 1 + z, ⟨c, e, f, g⟩⟩]) m0 m1 (by omega) (by simp; omega) (by
    rw [List.all_append, ha]
    simp
    show frameB 1 y (1 + z) c e f g = true
    unfold frameB
    rw [if_pos rfl, hi]
    unfold rng
    simp
    omega)
   refine ⟨l, i', h', evSucc ?_, hl, hall, q0, q1⟩
   simp only [spec_l19Entries.l0]
   refine evBindS e1 (evPos hx (evBindS e2 (evBindS e3 (evBindS e4 (evPos (by omega) ?_)))))
   rw [w64 (x := (n : Int) + 1) (by omega) (by omega), w64 (x := 1 + z) (by omega) (by omega), ci]
   exact hev
  ·refine ⟨out, i1, h1', evSucc ?_, by omega, ha, j0, j1⟩
   simp only [spec_l19Entries.l0]
   exact evBindS e1 (evNeg hx (Ev.now _))
theorem drawEntriesAt (b : List Int) (hb : b.length ≤ 16777216) (i h : Int) (h0 : 0 ≤ i) (h1 : i ≤ b.length) :
 ∃ l i' h', Ev (fun k => spec_l19Entries.f k b i h) (l, i', h') ∧ l.length ≤ 5 ∧ l.all okE = true ∧ 0 ≤ i' ∧ i' ≤ b.length :=
 drawEntriesGo b hb 5 i h 0 [] h0 h1 (by omega) rfl rfl
theorem drawEntries (b : List Int) (hb : b.length ≤ 16777216) : ∃ l, Ev (fun k => spec_DrawEntries.f k b) l ∧ l.length ≤ 5 ∧ l.all okE = true := by
 obtain ⟨h, e⟩ := drawNew b hb
 obtain ⟨l, i', h', e2, hl, ha, _, _⟩ := drawEntriesAt b hb 0 h (by omega) (by omega)
 refine ⟨l, ?_, hl, ha⟩
 simp only [spec_DrawEntries.f]
 exact Ev.bind e (Ev.bind e2 (Ev.now _))
theorem half_ge (n : Nat) (h : 2 ≤ n) : n ≤ 2 * half n := by
 have := Nat.lt_log2_self (n := n - 1)
 unfold half
 rw [Nat.pow_succ] at this
 omega
theorem rootS_two (l : List S70) (h : 2 ≤ l.length) : rootS l = nodeS (rootS (l.take (half l.length))) (rootS (l.drop (half l.length))) := by
 rw [rootS, dif_neg (by omega), dif_neg (by omega)]
theorem snocLast (p : List ByteArray) (x : ByteArray) : rdOf ByteArray.empty (p ++ [x]) (((p ++ [x]).length - 1 : Nat) : Int) = x ∧ (p ++ [x]).take ((p ++ [x]).length - 1) = p := by
 constructor
 ·rw [rdS _ _ (by simp)]
  simp
 ·simp
theorem FnTreeParts : PureFnTreeParts.Stated := by
 intro code ⟨_, hb⟩
 refine Ev.rounds ?_
 simp only [laws_FnTreeParts.f, laws_big.f, Option.bind_some]
 by_cases hc : (code.length : Int) > 1048576
 ·exact evPos (by simpa using hc) (Ev.now _)
 refine evNeg (by simpa using hc) ?_
 obtain ⟨a, ea, la, _⟩ := drawEntries code (by omega)
 obtain ⟨b, eb, lb, _⟩ := drawEntries ([5] ++ code) (by simp; omega)
 refine Ev.bind ea (evPos (by simp; omega) (evPos (by simp; omega) (Ev.bind eb (evPos (by simp; omega) ?_))))
 rw [List.nil_append]
 have hl : (a ++ b).length ≤ 10 := by simp; omega
 generalize a ++ b = l at hl ⊢
 by_cases h2 : l.length < 2
 ·refine evPos (by omega) (Ev.bind (ev_impl_RootOf _ l rfl (by omega)) (Ev.bind (ev_spec_RootOf _ l rfl (by omega)) (evEq (Ev.now _) (by simp))))
 refine evNeg (by omega) ?_
 have hk := half_lt l.length (by omega)
 have hp := half_pos l.length
 have last : Ev (fun k => laws_FnTreeParts.l0 k l (l.length : Int) (half l.length : Int)) true := by
  refine evSucc ?_
  simp only [laws_FnTreeParts.l0]
  have hg := half_ge l.length (by omega)
  rw [w64 (x := 2 * (half l.length : Int)) (by omega) (by omega), w64 (x := (l.length : Int) - 1) (by omega) (by omega), Int.toNat_natCast]
  refine evNeg (by omega) (evPos (by omega) (evPos (by omega) ?_))
  have hpo : pathOfB l ((l.length : Int) - 1) = (pathS (l.drop (half l.length)) (l.length - 1 - half l.length) ++ [rootS (l.take (half l.length))], true) := by
   unfold pathOfB
   rw [if_pos (by omega), show ((l.length : Int) - 1).toNat = l.length - 1 by omega, pathS, dif_neg (by omega), if_neg (by omega)]
  have hs := snocLast (pathS (l.drop (half l.length)) (l.length - 1 - half l.length)) (rootS (l.take (half l.length)))
  have hlen : 0 < (pathS (l.drop (half l.length)) (l.length - 1 - half l.length) ++ [rootS (l.take (half l.length))]).length := by simp
  have hlen2 : (pathS (l.drop (half l.length)) (l.length - 1 - half l.length) ++ [rootS (l.take (half l.length))]).length ≤ 11 := by
   have := pathS_len _ (l.drop (half l.length)) (l.length - 1 - half l.length) rfl
   rw [List.length_drop] at this
   rw [List.length_append, List.length_singleton]; omega
  refine Ev.bind (ev_impl_RootOf _ _ rfl (by rw [List.length_take]; omega)) (Ev.bind (ev_impl_RootOf _ _ rfl (by rw [List.length_drop]; omega)) (Ev.bind (evEq (ev_impl_PathOf l _ (by omega)) hpo) (Ev.bind (ev_impl_NodeOf _ _ (by rw [rootS_size]; omega) (by rw [rootS_size]; omega)) (Ev.bind (ev_impl_RootOf _ l rfl (by omega)) (evPos ?_ (evPos rfl (evPos ?_ ?_)))))))
  ·rw [rootS_two l (by omega)]
  ·show ((_ ++ [_] : List ByteArray).length : Int) > 0
   omega
  show Ev (fun k => if 0 ≤ wrap64 (((pathS (l.drop (half l.length)) (l.length - 1 - half l.length) ++ [rootS (l.take (half l.length))]).length : Int) - 1) then _ else _) true
  generalize hpq : pathS (l.drop (half l.length)) (l.length - 1 - half l.length) ++ [rootS (l.take (half l.length))] = p at hs hlen hlen2 ⊢
  have hp1 : ((p, true) : List ByteArray × Bool).1.length = p.length := rfl
  rw [w64 (x := (p.length : Int) - 1) (by omega) (by omega), show (p.length : Int) - 1 = ((p.length - 1 : Nat) : Int) by omega, hs.1]
  refine evPos (by omega) (evPos (by omega) (evPos rfl (Ev.bind (ev_impl_NodeOf _ _ (by rw [rootS_size]; omega) (by rw [rootS_size]; omega)) (evBindS (spec_nodeS _ _ (by rw [rootS_size]; omega) (by rw [rootS_size]; omega)) (evEq (Ev.now _) (by simp))))))
 have key : ∀ d j, j + d = Nat.log2 (l.length - 1) → Ev (fun k => laws_FnTreeParts.l0 k l (l.length : Int) ((2 ^ j : Nat) : Int)) true := by
  intro d
  induction d with
  | zero =>
   intro j hj
   rw [show 2 ^ j = half l.length by unfold half; rw [show j = Nat.log2 (l.length - 1) by omega]]
   exact last
  | succ d ih =>
   intro j hj
   rcases half_step l.length j (by omega) (by omega) with ⟨h1, _⟩ | ⟨_, h2⟩
   ·have hp0 : 0 < 2 ^ j := Nat.pow_pos (by omega)
    refine evSucc ?_
    simp only [laws_FnTreeParts.l0]
    rw [w64 (x := 2 * ((2 ^ j : Nat) : Int)) (by omega) (by omega)]
    refine evPos (by omega) ?_
    rw [show 2 * ((2 ^ j : Nat) : Int) = ((2 ^ (j + 1) : Nat) : Int) by rw [Nat.pow_succ]; omega]
    exact ih (j + 1) (by omega)
   ·rw [← h2]; exact last
 exact key _ 0 (Nat.zero_add _)

end Go.Proofs.YtdhjolglbcoijaaDoor.Pure

namespace Go.Proofs.YtdhjolglbcoijaaDoor.fnTreeParts
open Go.ChangeShapes Go.WideShapes Go.ChangeAt Go.RowKit Go.Proofs.YtdhjolglbcoijaaDoor.PA Go.Proofs.YtdhjolglbcoijaaDoor.PureFnTreeParts Go.Proofs.YtdhjolglbcoijaaDoorW.PrintWords
open Go.ChangeMaps (open_string shut_string)
set_option linter.unusedVariables false
set_option linter.unusedSimpArgs false
theorem own : ownKnob Tryd.prog.godebug = none := by kernel_rfl
theorem laidOut : laidOutB Tryd.prog = true := by kernel_rfl
def laidV : List (String × DataW Unit) := [("loop.example/g00397/impl.shaWords", Rows.laid_loop_example_g00397_impl_shaWords)]
theorem gTab : Tryd.prog.globalNamed "loop.example/g00397/impl.shaWords" = some 0 := by kernel_rfl
theorem gTabType : (Tryd.prog.globals[0]?).map (·.type) = some 107 := by kernel_rfl
theorem door_met (os : Os) (args : Array Value) : laidMetH Tryd.prog laidV ((World.doorLaid Tryd.prog 4000 os).forCall (fun _ _ => 0) ⟨#[], args, []⟩).memory :=
 laidMetH_of_parts3 (fuel := 8) (laidMet_of_run' 8 (by kernel_rfl) (by kernel_rfl)) (by kernel_rfl) (by kernel_rfl)
/-- The table reads behind as before. -/
theorem vars_back {H : Type} {enc : TypeId × Value → H} {W W' : World} (hb : Below W.heap.size W W') {gs : List (DataW H)} {ps : List MemPlace} (h : DataW.TrodVars enc Tryd.prog W (fun _ => true) ["loop.example/g00397/impl.shaWords"] gs ps) :
 DataW.TrodVars enc Tryd.prog W' (fun b => decide (b < W.heap.size)) ["loop.example/g00397/impl.shaWords"] gs ps := by
 obtain ⟨g, t, cs, fu, d, p, rfl, hg, ht, hv, htr, rfl⟩ := trodVars_one h
 have hg2 := hg
 have ht2 := ht
 obtain rfl := Option.some.inj (gTab.symm.trans hg)
 obtain rfl := Option.some.inj (gTabType.symm.trans ht)
 have lt := DataW.trod_lt _ _ _ _ htr
 have hk : DataW.Trod enc Tryd.prog W' 0 (fun b => decide (b < W.heap.size)) true 107 (.agg cs) d p := Below.trod laidOut (by kernel_rfl) (of_decide_eq_true (by kernel_rfl)) (show DataW.Trod enc Tryd.prog W 0 (fun _ => true) true 107 (.agg cs) d p from ⟨fu, htr⟩) hb lt
 obtain ⟨m, hm⟩ := hk
 have hv2 : W'.var? Tryd.prog "loop.example/g00397/impl.shaWords" = some cs := by
  unfold World.var? at hv ⊢
  rw [gTab, Option.bind_some] at hv ⊢
  have hlt : 0 < W.heap.size := by
   rcases Nat.lt_or_ge 0 W.heap.size with h' | h'
   ·exact h'
   ·rw [Array.getElem?_eq_none h'] at hv; cases hv
  rw [hb.block 0 hlt]
  exact hv
 exact trodVars_mk1 hg2 ht2 hv2 hm
set_option maxRecDepth 100000 in
theorem lifted (os : Os) (started : os.Started) (H : Type) (enc : TypeId × Value → H) :
 ReturnsInHanded {} Tryd.checked os 10 .any (fun w args => (Rows.fnTreePartsSpec.pre enc Tryd.prog Tryd.f10 [] false w args ∧ laidMetH Tryd.prog laidV w) ∧ sizedMet enc Tryd.prog Tryd.f10 (OpenSpec.ofChange Rows.fnTreePartsSpec) false w args) (Rows.fnTreePartsSpec.post enc Tryd.prog Tryd.f10 false true false false) := by
 refine returnsInHanded_of_change_and (C := Tryd.checked) (X := fun w _ => laidMetH Tryd.prog laidV w) (fun _ _ _ hh h => h.of_heap hh) own started (by kernel_rfl) Tryd.func10
  (ChangeSpec.witness_shaped (enc := enc) (C := Tryd.checked) (os := os) (X := fun w _ => laidMetH Tryd.prog laidV w) false (World.doorLaid Tryd.prog 4000 os) #[.slice none 0 0] 8 rfl (World.shaped_of_RefB (by kernel_rfl) (by kernel_rfl)) (by kernel_rfl) (by kernel_rfl) (by kernel_rfl) (door_met os _)) ?_
 intro W base args ds gs before hval0 hW _ _ hL _
 have hT : PA.Tab W := by
  rw [MakeChecks.laidMetH_plain _ _ _ (by kernel_rfl)] at hL
  exact Lib.tabIs_of_head (rest := []) gTab gTabType (t := 107) (e := 104) (n := 64) (by kernel_rfl) (by kernel_rfl) (by kernel_rfl) (by kernel_rfl) hL
 have hval : ∀ (j : Nat) t v, Tryd.f10.params[j]? = some t → args[j]? = some v → Value.okWide Tryd.prog W .any base t v := hval0
 have hW' := hW
 obtain ⟨p, q, hA0, hV, rfl, hfz, hnd⟩ := hW
 have hA : DataW.TrodAll enc Tryd.prog W 0 (fun _ => true) true Tryd.f10.params.toList args.toList ds p := hA0
 rw [Tryd.params10] at hA hval
 obtain ⟨v0, vs0, d0, ds0, p0, q0, hargs, rfl, rfl, h0, r0⟩ := trodAll_cons hA
 obtain ⟨rfl, rfl, rfl⟩ := trodAll_nil r0
 obtain rfl : args = #[v0] := by cases args; simp_all
 obtain ⟨g1, t1, cs1, fu1, dv, pv1, rfl, _⟩ := trodVars_one hV
 have k0 := h0
 have lt0 : ∀ x ∈ p0, x.block < W.heap.size := by obtain ⟨m, hm⟩ := k0; exact DataW.trod_lt m _ _ _ hm
 obtain ⟨m0, hm0⟩ := h0
 obtain ⟨A0, n0, c0, rfl⟩ := okWide_slice Tryd.underlying61 (hval 0 61 v0 rfl rfl)
 obtain ⟨x0, ⟨A0', c0', hs0, hc0, hr0⟩, hG0⟩ := (Op.opSlice Tryd.underlying61 (by kernel_rfl) 5 (Op.opInt Tryd.underlying5 (by kernel_rfl))).op hm0
 obtain ⟨rfl, rfl, rfl⟩ : A0 = A0' ∧ n0 = x0.length ∧ c0 = c0' := by simpa [Value.cells] using hs0
 obtain ⟨k, h⟩ := Pure.FnTreeParts x0 hG0
 refine (laws_FnTreeParts.calls k A0 c0 x0 true W hr0 hc0 hT rfl h).mono fun e W' ⟨he, bel⟩ => ?_
 subst he
 exact ⟨_, rfl, _, _, _, [], _, _, hW', trodAll_mk1 (shut_bool Tryd.underlying4 _), (trodAll_cons_mk (Below.trod laidOut (by kernel_rfl) (of_decide_eq_true (by kernel_rfl)) k0 bel lt0) trodAll_mk0), vars_back bel hV, bel.frame _, fun h => by cases h⟩
theorem over : Rows.fnTreePartsRow.holds Tryd.pinned (OpenSpec.ofChange Rows.fnTreePartsSpec) :=
 OpenClaim.holds_of_wide 10 Tryd.f10 rfl rfl rfl rfl rfl rfl rfl ⟨rfl, rfl, rfl, rfl, rfl⟩ rfl rfl rfl rfl rfl (by kernel_rfl) Tryd.func10 (by kernel_rfl)
  (of_decide_eq_true (by kernel_rfl)) (by unfold Func.isWrapper; first | (rw [if_pos (by decide +kernel)]; kernel_rfl) | (rw [if_neg (by decide +kernel)]; exact ⟨rfl, rfl⟩))
  (fun os started H enc _ => lifted os started H enc)
theorem proved : Rows.FnTreePartsSaid := over
#print axioms proved
end Go.Proofs.YtdhjolglbcoijaaDoor.fnTreeParts
namespace Go.Proofs.YtdhjolglbcoijaaDoor
/-- The tied card, under a short name, for the claim. -/
theorem fnTreeParts_holds : Rows.FnTreePartsCardSaid :=
 Claim7.holds_tied_plain_at .later [] [.data] true (true, "86c5b83168afbe62a9fd9dd9b188a8bbcb0f32602a88b45c4d3f3879959306bb") false
  fnTreeParts.proved (fun _ h => by cases h) (by kernel_rfl) (fun _ h => by cases h) fnTreeParts_row_tie rfl ⟨rfl, rfl⟩ (by kernel_rfl) rfl
  (fun f fn hf hfn => by
   obtain rfl : f = 10 := Option.some.inj ((show Tryd.prog.funcNamed "loop.example/g00397/laws.FnTreeParts" = some 10 by kernel_rfl).symm.trans hf) |>.symm
   obtain rfl : fn = Tryd.f10 := (Option.some.inj (Tryd.func10.symm.trans hfn)).symm
   exact ⟨by kernel_rfl, fun j t ht => by
    rw [Tryd.params10] at ht
    have h3 : t = 61 := by
     match j, ht with
     | 0, ht => simp at ht; subst ht; simp
     | _ + 1, ht => simp at ht
    rcases h3 with rfl
    ·exact (show Tryd.prog.wantsStandIn 61 = false by kernel_rfl)⟩)
  (by kernel_rfl)
end Go.Proofs.YtdhjolglbcoijaaDoor
