/- Contracts of functions of the program and of the reference, and plain lemmas on what they compute: a part of the proof of the law FnSegmentsBound. No condition. -/
import Derived.Test.YtdhjolglbcoijaaDoorG7ebe2x0
import Derived.Test.YtdhjolglbcoijaaDoorG1fe55x0
import Derived.Test.YtdhjolglbcoijaaDoorGee5d4x0
import Derived.Test.YtdhjolglbcoijaaDoorJFnSegmentsBound1
import Derived.Test.YtdhjolglbcoijaaDoorWWords
import Derived.ChangeArms
import Derived.ChangeOld
import Derived.WideShapes
import Derived.OpenShut
import Derived.DataElems
import Derived.Test.YtdhjolglbcoijaaDoorWMore
import Derived.Test.YtdhjolglbcoijaaDoorG7ebe2x2
import Derived.Test.YtdhjolglbcoijaaDoorShort
namespace Go.Proofs.YtdhjolglbcoijaaDoor.PA
open Go.RowKit Go.Proofs.YtdhjolglbcoijaaDoor.Short Go.Proofs.YtdhjolglbcoijaaDoorW.PrintWords Go.Proofs.YtdhjolglbcoijaaDoorW.PrintLast Go.Proofs.YtdhjolglbcoijaaDoorW.PrintMore
attribute [local go_sem] max2_int min2_int max_two min_two max_three min_three max_four min_four   -- for this text's walks alone
set_option linter.unusedVariables false
set_option linter.unusedSimpArgs false

/-! ### laws_FnSegmentsBound: function 12 -/
def laws_FnSegmentsBound.f (k : Nat) (l0 : List Int) : Option (Bool) := (laws_big.f l0).bind fun t1103 => (if t1103 = true then (some true) else ((spec_DrawSegments.f k l0).bind fun t1104 => (if (t1104.length : Int) < 2 then ((impl_JoinSegments.f k t1104).bind fun bt1107 => (some bt1107.2)) else ((spec_DrawPlaces.f k l0).bind fun t1111 => (if 0 < (t1111.length : Int) then (if (wrap64 ((t1104.length : Int) - 1)) = 0 then (none) else ((some (([] : List (S30)) : List (S30))).bind fun y1115 => (if 0 ≤ (Int.tmod (rd t1111 0) (wrap64 ((t1104.length : Int) - 1))) then (if (Int.tmod (rd t1111 0) (wrap64 ((t1104.length : Int) - 1))) ≤ (t1104.length : Int) then ((some (t1104.take ((Int.tmod (rd t1111 0) (wrap64 ((t1104.length : Int) - 1))) : Int).toNat : List (S30))).bind fun y1118 => (if y1115.length + y1118.length < 2199023255552 then ((some (y1115 ++ y1118 : List (S30))).bind fun y1123 => (if 0 ≤ (wrap64 ((Int.tmod (rd t1111 0) (wrap64 ((t1104.length : Int) - 1))) + 1)) then (if (wrap64 ((Int.tmod (rd t1111 0) (wrap64 ((t1104.length : Int) - 1))) + 1)) ≤ (t1104.length : Int) then ((some (t1104.drop ((wrap64 ((Int.tmod (rd t1111 0) (wrap64 ((t1104.length : Int) - 1))) + 1)) : Int).toNat : List (S30))).bind fun y1126 => (if y1123.length + y1126.length < 2199023255552 then ((some (([] : List (S30)) : List (S30))).bind fun y1134 => (if y1134.length + t1104.length < 2199023255552 then ((some (y1134 ++ t1104 : List (S30))).bind fun y1137 => (if (Int.tmod (rd t1111 0) (wrap64 ((t1104.length : Int) - 1))) < (y1137.length : Int) then (if (wrap64 ((Int.tmod (rd t1111 0) (wrap64 ((t1104.length : Int) - 1))) + 1)) < (y1137.length : Int) then ((impl_JoinSegments.f k t1104).bind fun bt1145 => ((impl_JoinSegments.f k (y1123 ++ y1126)).bind fun bt1149 => ((impl_JoinSegments.f k ((y1137.set ((Int.tmod (rd t1111 0) (wrap64 ((t1104.length : Int) - 1))) : Int).toNat (⟨(rd_T30 y1137 (wrap64 ((Int.tmod (rd t1111 0) (wrap64 ((t1104.length : Int) - 1))) + 1))).f0, (rd_T30 y1137 (wrap64 ((Int.tmod (rd t1111 0) (wrap64 ((t1104.length : Int) - 1))) + 1))).f1, (rd_T30 y1137 (wrap64 ((Int.tmod (rd t1111 0) (wrap64 ((t1104.length : Int) - 1))) + 1))).f2, (rd_T30 y1137 (wrap64 ((Int.tmod (rd t1111 0) (wrap64 ((t1104.length : Int) - 1))) + 1))).f3⟩ : S30)).set ((wrap64 ((Int.tmod (rd t1111 0) (wrap64 ((t1104.length : Int) - 1))) + 1)) : Int).toNat (⟨(rd_T30 y1137 (Int.tmod (rd t1111 0) (wrap64 ((t1104.length : Int) - 1)))).f0, (rd_T30 y1137 (Int.tmod (rd t1111 0) (wrap64 ((t1104.length : Int) - 1)))).f1, (rd_T30 y1137 (Int.tmod (rd t1111 0) (wrap64 ((t1104.length : Int) - 1)))).f2, (rd_T30 y1137 (Int.tmod (rd t1111 0) (wrap64 ((t1104.length : Int) - 1)))).f3⟩ : S30))).bind fun bt1153 => (if 0 ≤ (wrap64 ((t1104.length : Int) - 1)) then (if (wrap64 ((t1104.length : Int) - 1)) ≤ (t1104.length : Int) then ((impl_JoinSegments.f k (t1104.take ((wrap64 ((t1104.length : Int) - 1)) : Int).toNat)).bind fun bt1162 => (if bt1145.2 = true then (if bt1149.2 = true then (some false) else (if bt1153.2 = true then (some false) else (if bt1162.2 = true then (if (wrap64 ((t1104.length : Int) - 1)) < (t1104.length : Int) then (some ((bt1162.1.length : Int) == ((rd_T30 t1104 (wrap64 ((t1104.length : Int) - 1))).f0))) else (none)) else (some false)))) else (some false))) else (none)) else (none))))) else (none)) else (none))) else (none))) else (none))) else (none)) else (none))) else (none))) else (none)) else (none)))) else (none))))))
theorem laws_FnSegmentsBound.mono : ∀ a0 k, LeO (laws_FnSegmentsBound.f k a0) (laws_FnSegmentsBound.f (k + 1) a0) := by
 intro a0 k
 unfold laws_FnSegmentsBound.f
 repeat' first
  | (with_reducible exact impl_JoinSegments.mono _ _)
  | (with_reducible exact spec_DrawPlaces.mono _ _)
  | (with_reducible exact spec_DrawSegments.mono _ _)
  | (with_reducible exact LeO.refl _)
  | (with_reducible exact LeO.none _)
  | (with_reducible refine LeO.ite ?_ ?_)
  | (with_reducible refine LeO.bind ?_ (fun _ => ?_))
  | exact impl_JoinSegments.mono _ _
  | exact spec_DrawPlaces.mono _ _
  | exact spec_DrawSegments.mono _ _
  | exact LeO.none _
  | refine LeO.ite ?_ ?_
  | refine LeO.bind ?_ (fun _ => ?_)
def laws_FnSegmentsBound.T9 : Bool × List (List Nat × List Nat) := (true, [([], []), ([], []), ([], []), ([1, 2], [1, 2]), ([0, 3], [0, 3]), ([], []), ([], []), ([6], [6]), ([5, 7], [5, 7]), ([4, 8, 4], [4, 8]), ([9, 9, 0, 1, 2, 3, 4, 5, 6, 7, 8, 9], [9])])
def laws_FnSegmentsBound.B9 : List Nat := [0, 0, 0, 6, 15, 0, 0, 64, 224, 511, 1023]
theorem laws_FnSegmentsBound.tab9 : rtab .any (opsOf Tryd.f12 9) = laws_FnSegmentsBound.T9 := by kernel_rfl
theorem laws_FnSegmentsBound.bits9 : waitsOk laws_FnSegmentsBound.T9.2 laws_FnSegmentsBound.B9 = true := by kernel_rfl
set_option maxHeartbeats 8000000 in
set_option maxRecDepth 100000 in
theorem laws_FnSegmentsBound.calls (k : Nat) (A0 : Option Addr) (c0 : Nat) (l0 : List Int) (r : Bool) (w : World) (hr0 : Kd.C (Kd.int .u8) w A0 l0.length l0) (hc0 : l0.length ≤ c0) (hT : Tab w) (hr1 : r = true) (h : laws_FnSegmentsBound.f k l0 = some r) :
 Calls Tryd.prog 12 #[.slice A0 l0.length c0] w fun e w' => e = .returned (.bool r) ∧ Below w.heap.size w w' := by
 have hu30 := Tryd.underlying30
 have HR0 := Aside0.mk hr0
 have HC0 := Aside0.mk hc0
 clear hr0 hc0
 have HT := Aside0.mk hT
 clear hT
 have HR1 := Aside0.mk hr1
 clear hr1
 have HB := Aside0.mk (Below.refl w.heap.size w)
 have H : ((laws_big.f l0).bind fun t1103 => (if t1103 = true then (some true) else ((spec_DrawSegments.f k l0).bind fun t1104 => (if (t1104.length : Int) < 2 then ((impl_JoinSegments.f k t1104).bind fun bt1107 => (some bt1107.2)) else ((spec_DrawPlaces.f k l0).bind fun t1111 => (if 0 < (t1111.length : Int) then (if (wrap64 ((t1104.length : Int) - 1)) = 0 then (none) else ((some (([] : List (S30)) : List (S30))).bind fun y1115 => (if 0 ≤ (Int.tmod (rd t1111 0) (wrap64 ((t1104.length : Int) - 1))) then (if (Int.tmod (rd t1111 0) (wrap64 ((t1104.length : Int) - 1))) ≤ (t1104.length : Int) then ((some (t1104.take ((Int.tmod (rd t1111 0) (wrap64 ((t1104.length : Int) - 1))) : Int).toNat : List (S30))).bind fun y1118 => (if y1115.length + y1118.length < 2199023255552 then ((some (y1115 ++ y1118 : List (S30))).bind fun y1123 => (if 0 ≤ (wrap64 ((Int.tmod (rd t1111 0) (wrap64 ((t1104.length : Int) - 1))) + 1)) then (if (wrap64 ((Int.tmod (rd t1111 0) (wrap64 ((t1104.length : Int) - 1))) + 1)) ≤ (t1104.length : Int) then ((some (t1104.drop ((wrap64 ((Int.tmod (rd t1111 0) (wrap64 ((t1104.length : Int) - 1))) + 1)) : Int).toNat : List (S30))).bind fun y1126 => (if y1123.length + y1126.length < 2199023255552 then ((some (([] : List (S30)) : List (S30))).bind fun y1134 => (if y1134.length + t1104.length < 2199023255552 then ((some (y1134 ++ t1104 : List (S30))).bind fun y1137 => (if (Int.tmod (rd t1111 0) (wrap64 ((t1104.length : Int) - 1))) < (y1137.length : Int) then (if (wrap64 ((Int.tmod (rd t1111 0) (wrap64 ((t1104.length : Int) - 1))) + 1)) < (y1137.length : Int) then ((impl_JoinSegments.f k t1104).bind fun bt1145 => ((impl_JoinSegments.f k (y1123 ++ y1126)).bind fun bt1149 => ((impl_JoinSegments.f k ((y1137.set ((Int.tmod (rd t1111 0) (wrap64 ((t1104.length : Int) - 1))) : Int).toNat (⟨(rd_T30 y1137 (wrap64 ((Int.tmod (rd t1111 0) (wrap64 ((t1104.length : Int) - 1))) + 1))).f0, (rd_T30 y1137 (wrap64 ((Int.tmod (rd t1111 0) (wrap64 ((t1104.length : Int) - 1))) + 1))).f1, (rd_T30 y1137 (wrap64 ((Int.tmod (rd t1111 0) (wrap64 ((t1104.length : Int) - 1))) + 1))).f2, (rd_T30 y1137 (wrap64 ((Int.tmod (rd t1111 0) (wrap64 ((t1104.length : Int) - 1))) + 1))).f3⟩ : S30)).set ((wrap64 ((Int.tmod (rd t1111 0) (wrap64 ((t1104.length : Int) - 1))) + 1)) : Int).toNat (⟨(rd_T30 y1137 (Int.tmod (rd t1111 0) (wrap64 ((t1104.length : Int) - 1)))).f0, (rd_T30 y1137 (Int.tmod (rd t1111 0) (wrap64 ((t1104.length : Int) - 1)))).f1, (rd_T30 y1137 (Int.tmod (rd t1111 0) (wrap64 ((t1104.length : Int) - 1)))).f2, (rd_T30 y1137 (Int.tmod (rd t1111 0) (wrap64 ((t1104.length : Int) - 1)))).f3⟩ : S30))).bind fun bt1153 => (if 0 ≤ (wrap64 ((t1104.length : Int) - 1)) then (if (wrap64 ((t1104.length : Int) - 1)) ≤ (t1104.length : Int) then ((impl_JoinSegments.f k (t1104.take ((wrap64 ((t1104.length : Int) - 1)) : Int).toNat)).bind fun bt1162 => (if bt1145.2 = true then (if bt1149.2 = true then (some false) else (if bt1153.2 = true then (some false) else (if bt1162.2 = true then (if (wrap64 ((t1104.length : Int) - 1)) < (t1104.length : Int) then (some ((bt1162.1.length : Int) == ((rd_T30 t1104 (wrap64 ((t1104.length : Int) - 1))).f0))) else (none)) else (some false)))) else (some false))) else (none)) else (none))))) else (none)) else (none))) else (none))) else (none))) else (none)) else (none))) else (none))) else (none)) else (none)))) else (none))))))) = some r := h
 clear h
 replace H := Option.bind_eq_some_iff.mp H
 obtain ⟨t1103, A20, H⟩ := H
 replace H : (if t1103 = true then (some true) else ((spec_DrawSegments.f k l0).bind fun t1104 => (if (t1104.length : Int) < 2 then ((impl_JoinSegments.f k t1104).bind fun bt1107 => (some bt1107.2)) else ((spec_DrawPlaces.f k l0).bind fun t1111 => (if 0 < (t1111.length : Int) then (if (wrap64 ((t1104.length : Int) - 1)) = 0 then (none) else ((some (([] : List (S30)) : List (S30))).bind fun y1115 => (if 0 ≤ (Int.tmod (rd t1111 0) (wrap64 ((t1104.length : Int) - 1))) then (if (Int.tmod (rd t1111 0) (wrap64 ((t1104.length : Int) - 1))) ≤ (t1104.length : Int) then ((some (t1104.take ((Int.tmod (rd t1111 0) (wrap64 ((t1104.length : Int) - 1))) : Int).toNat : List (S30))).bind fun y1118 => (if y1115.length + y1118.length < 2199023255552 then ((some (y1115 ++ y1118 : List (S30))).bind fun y1123 => (if 0 ≤ (wrap64 ((Int.tmod (rd t1111 0) (wrap64 ((t1104.length : Int) - 1))) + 1)) then (if (wrap64 ((Int.tmod (rd t1111 0) (wrap64 ((t1104.length : Int) - 1))) + 1)) ≤ (t1104.length : Int) then ((some (t1104.drop ((wrap64 ((Int.tmod (rd t1111 0) (wrap64 ((t1104.length : Int) - 1))) + 1)) : Int).toNat : List (S30))).bind fun y1126 => (if y1123.length + y1126.length < 2199023255552 then ((some (([] : List (S30)) : List (S30))).bind fun y1134 => (if y1134.length + t1104.length < 2199023255552 then ((some (y1134 ++ t1104 : List (S30))).bind fun y1137 => (if (Int.tmod (rd t1111 0) (wrap64 ((t1104.length : Int) - 1))) < (y1137.length : Int) then (if (wrap64 ((Int.tmod (rd t1111 0) (wrap64 ((t1104.length : Int) - 1))) + 1)) < (y1137.length : Int) then ((impl_JoinSegments.f k t1104).bind fun bt1145 => ((impl_JoinSegments.f k (y1123 ++ y1126)).bind fun bt1149 => ((impl_JoinSegments.f k ((y1137.set ((Int.tmod (rd t1111 0) (wrap64 ((t1104.length : Int) - 1))) : Int).toNat (⟨(rd_T30 y1137 (wrap64 ((Int.tmod (rd t1111 0) (wrap64 ((t1104.length : Int) - 1))) + 1))).f0, (rd_T30 y1137 (wrap64 ((Int.tmod (rd t1111 0) (wrap64 ((t1104.length : Int) - 1))) + 1))).f1, (rd_T30 y1137 (wrap64 ((Int.tmod (rd t1111 0) (wrap64 ((t1104.length : Int) - 1))) + 1))).f2, (rd_T30 y1137 (wrap64 ((Int.tmod (rd t1111 0) (wrap64 ((t1104.length : Int) - 1))) + 1))).f3⟩ : S30)).set ((wrap64 ((Int.tmod (rd t1111 0) (wrap64 ((t1104.length : Int) - 1))) + 1)) : Int).toNat (⟨(rd_T30 y1137 (Int.tmod (rd t1111 0) (wrap64 ((t1104.length : Int) - 1)))).f0, (rd_T30 y1137 (Int.tmod (rd t1111 0) (wrap64 ((t1104.length : Int) - 1)))).f1, (rd_T30 y1137 (Int.tmod (rd t1111 0) (wrap64 ((t1104.length : Int) - 1)))).f2, (rd_T30 y1137 (Int.tmod (rd t1111 0) (wrap64 ((t1104.length : Int) - 1)))).f3⟩ : S30))).bind fun bt1153 => (if 0 ≤ (wrap64 ((t1104.length : Int) - 1)) then (if (wrap64 ((t1104.length : Int) - 1)) ≤ (t1104.length : Int) then ((impl_JoinSegments.f k (t1104.take ((wrap64 ((t1104.length : Int) - 1)) : Int).toNat)).bind fun bt1162 => (if bt1145.2 = true then (if bt1149.2 = true then (some false) else (if bt1153.2 = true then (some false) else (if bt1162.2 = true then (if (wrap64 ((t1104.length : Int) - 1)) < (t1104.length : Int) then (some ((bt1162.1.length : Int) == ((rd_T30 t1104 (wrap64 ((t1104.length : Int) - 1))).f0))) else (none)) else (some false)))) else (some false))) else (none)) else (none))))) else (none)) else (none))) else (none))) else (none))) else (none)) else (none))) else (none))) else (none)) else (none)))) else (none)))))) = some r := H
 have A2 := Aside0.mk A20
 clear A20
 by_cases c3 : t1103 = true
 ·subst c3
  have H1 : (some true) = some r := by rw [if_pos rfl] at H; exact H
  clear H
  have H := H1
  clear H1
  obtain rfl := Option.some.inj H
  go_enter Tryd.func12, Tryd.ntmps12
  go_wp2_with (first | ((with_reducible refine gate_callee (f := 47) rfl ?_); refine goesL_ (some 20) rfl rfl Tryd.func47 (by kernel_rfl) rfl #[.slice A0 l0.length c0] rfl lm_ ?_; (with_reducible refine (laws_big.calls _ _ l0 true _ ?side1 ?side2 A2.out).mono ?_); (case side1 => repeat (first | exact HR0.out | (with_reducible refine Kd.C_alloc ?_ _) | (with_reducible refine Kd.C_drewN ?_ _) | (with_reducible refine Kd.C_drew ?_))); (case side2 => exact HC0.out); rintro e w' ⟨rfl, ⟨nd, rfl⟩⟩; refine ⟨_, rfl, ?_⟩))
  go_ret
  exact ⟨by first | rfl | (simp [errW_none, errW_some] <;> rfl) | (simp [*, errW_none, errW_some] <;> rfl) | exact False.elim (Bool.noConfusion ((decide_eq_true (of_eq_true (by assumption))).symm.trans (by assumption))), bl_⟩
 ·replace c3 := Bool.eq_false_iff.mpr c3
  subst c3
  have H1 : ((spec_DrawSegments.f k l0).bind fun t1104 => (if (t1104.length : Int) < 2 then ((impl_JoinSegments.f k t1104).bind fun bt1107 => (some bt1107.2)) else ((spec_DrawPlaces.f k l0).bind fun t1111 => (if 0 < (t1111.length : Int) then (if (wrap64 ((t1104.length : Int) - 1)) = 0 then (none) else ((some (([] : List (S30)) : List (S30))).bind fun y1115 => (if 0 ≤ (Int.tmod (rd t1111 0) (wrap64 ((t1104.length : Int) - 1))) then (if (Int.tmod (rd t1111 0) (wrap64 ((t1104.length : Int) - 1))) ≤ (t1104.length : Int) then ((some (t1104.take ((Int.tmod (rd t1111 0) (wrap64 ((t1104.length : Int) - 1))) : Int).toNat : List (S30))).bind fun y1118 => (if y1115.length + y1118.length < 2199023255552 then ((some (y1115 ++ y1118 : List (S30))).bind fun y1123 => (if 0 ≤ (wrap64 ((Int.tmod (rd t1111 0) (wrap64 ((t1104.length : Int) - 1))) + 1)) then (if (wrap64 ((Int.tmod (rd t1111 0) (wrap64 ((t1104.length : Int) - 1))) + 1)) ≤ (t1104.length : Int) then ((some (t1104.drop ((wrap64 ((Int.tmod (rd t1111 0) (wrap64 ((t1104.length : Int) - 1))) + 1)) : Int).toNat : List (S30))).bind fun y1126 => (if y1123.length + y1126.length < 2199023255552 then ((some (([] : List (S30)) : List (S30))).bind fun y1134 => (if y1134.length + t1104.length < 2199023255552 then ((some (y1134 ++ t1104 : List (S30))).bind fun y1137 => (if (Int.tmod (rd t1111 0) (wrap64 ((t1104.length : Int) - 1))) < (y1137.length : Int) then (if (wrap64 ((Int.tmod (rd t1111 0) (wrap64 ((t1104.length : Int) - 1))) + 1)) < (y1137.length : Int) then ((impl_JoinSegments.f k t1104).bind fun bt1145 => ((impl_JoinSegments.f k (y1123 ++ y1126)).bind fun bt1149 => ((impl_JoinSegments.f k ((y1137.set ((Int.tmod (rd t1111 0) (wrap64 ((t1104.length : Int) - 1))) : Int).toNat (⟨(rd_T30 y1137 (wrap64 ((Int.tmod (rd t1111 0) (wrap64 ((t1104.length : Int) - 1))) + 1))).f0, (rd_T30 y1137 (wrap64 ((Int.tmod (rd t1111 0) (wrap64 ((t1104.length : Int) - 1))) + 1))).f1, (rd_T30 y1137 (wrap64 ((Int.tmod (rd t1111 0) (wrap64 ((t1104.length : Int) - 1))) + 1))).f2, (rd_T30 y1137 (wrap64 ((Int.tmod (rd t1111 0) (wrap64 ((t1104.length : Int) - 1))) + 1))).f3⟩ : S30)).set ((wrap64 ((Int.tmod (rd t1111 0) (wrap64 ((t1104.length : Int) - 1))) + 1)) : Int).toNat (⟨(rd_T30 y1137 (Int.tmod (rd t1111 0) (wrap64 ((t1104.length : Int) - 1)))).f0, (rd_T30 y1137 (Int.tmod (rd t1111 0) (wrap64 ((t1104.length : Int) - 1)))).f1, (rd_T30 y1137 (Int.tmod (rd t1111 0) (wrap64 ((t1104.length : Int) - 1)))).f2, (rd_T30 y1137 (Int.tmod (rd t1111 0) (wrap64 ((t1104.length : Int) - 1)))).f3⟩ : S30))).bind fun bt1153 => (if 0 ≤ (wrap64 ((t1104.length : Int) - 1)) then (if (wrap64 ((t1104.length : Int) - 1)) ≤ (t1104.length : Int) then ((impl_JoinSegments.f k (t1104.take ((wrap64 ((t1104.length : Int) - 1)) : Int).toNat)).bind fun bt1162 => (if bt1145.2 = true then (if bt1149.2 = true then (some false) else (if bt1153.2 = true then (some false) else (if bt1162.2 = true then (if (wrap64 ((t1104.length : Int) - 1)) < (t1104.length : Int) then (some ((bt1162.1.length : Int) == ((rd_T30 t1104 (wrap64 ((t1104.length : Int) - 1))).f0))) else (none)) else (some false)))) else (some false))) else (none)) else (none))))) else (none)) else (none))) else (none))) else (none))) else (none)) else (none))) else (none))) else (none)) else (none)))) else (none))))) = some r := by rw [if_neg (show ¬ (false = true) by decide)] at H; exact H
  clear H
  have H := H1
  clear H1
  replace H := Option.bind_eq_some_iff.mp H
  obtain ⟨t1104, A40, H⟩ := H
  replace H : (if (t1104.length : Int) < 2 then ((impl_JoinSegments.f k t1104).bind fun bt1107 => (some bt1107.2)) else ((spec_DrawPlaces.f k l0).bind fun t1111 => (if 0 < (t1111.length : Int) then (if (wrap64 ((t1104.length : Int) - 1)) = 0 then (none) else ((some (([] : List (S30)) : List (S30))).bind fun y1115 => (if 0 ≤ (Int.tmod (rd t1111 0) (wrap64 ((t1104.length : Int) - 1))) then (if (Int.tmod (rd t1111 0) (wrap64 ((t1104.length : Int) - 1))) ≤ (t1104.length : Int) then ((some (t1104.take ((Int.tmod (rd t1111 0) (wrap64 ((t1104.length : Int) - 1))) : Int).toNat : List (S30))).bind fun y1118 => (if y1115.length + y1118.length < 2199023255552 then ((some (y1115 ++ y1118 : List (S30))).bind fun y1123 => (if 0 ≤ (wrap64 ((Int.tmod (rd t1111 0) (wrap64 ((t1104.length : Int) - 1))) + 1)) then (if (wrap64 ((Int.tmod (rd t1111 0) (wrap64 ((t1104.length : Int) - 1))) + 1)) ≤ (t1104.length : Int) then ((some (t1104.drop ((wrap64 ((Int.tmod (rd t1111 0) (wrap64 ((t1104.length : Int) - 1))) + 1)) : Int).toNat : List (S30))).bind fun y1126 => (if y1123.length + y1126.length < 2199023255552 then ((some (([] : List (S30)) : List (S30))).bind fun y1134 => (if y1134.length + t1104.length < 2199023255552 then ((some (y1134 ++ t1104 : List (S30))).bind fun y1137 => (if (Int.tmod (rd t1111 0) (wrap64 ((t1104.length : Int) - 1))) < (y1137.length : Int) then (if (wrap64 ((Int.tmod (rd t1111 0) (wrap64 ((t1104.length : Int) - 1))) + 1)) < (y1137.length : Int) then ((impl_JoinSegments.f k t1104).bind fun bt1145 => ((impl_JoinSegments.f k (y1123 ++ y1126)).bind fun bt1149 => ((impl_JoinSegments.f k ((y1137.set ((Int.tmod (rd t1111 0) (wrap64 ((t1104.length : Int) - 1))) : Int).toNat (⟨(rd_T30 y1137 (wrap64 ((Int.tmod (rd t1111 0) (wrap64 ((t1104.length : Int) - 1))) + 1))).f0, (rd_T30 y1137 (wrap64 ((Int.tmod (rd t1111 0) (wrap64 ((t1104.length : Int) - 1))) + 1))).f1, (rd_T30 y1137 (wrap64 ((Int.tmod (rd t1111 0) (wrap64 ((t1104.length : Int) - 1))) + 1))).f2, (rd_T30 y1137 (wrap64 ((Int.tmod (rd t1111 0) (wrap64 ((t1104.length : Int) - 1))) + 1))).f3⟩ : S30)).set ((wrap64 ((Int.tmod (rd t1111 0) (wrap64 ((t1104.length : Int) - 1))) + 1)) : Int).toNat (⟨(rd_T30 y1137 (Int.tmod (rd t1111 0) (wrap64 ((t1104.length : Int) - 1)))).f0, (rd_T30 y1137 (Int.tmod (rd t1111 0) (wrap64 ((t1104.length : Int) - 1)))).f1, (rd_T30 y1137 (Int.tmod (rd t1111 0) (wrap64 ((t1104.length : Int) - 1)))).f2, (rd_T30 y1137 (Int.tmod (rd t1111 0) (wrap64 ((t1104.length : Int) - 1)))).f3⟩ : S30))).bind fun bt1153 => (if 0 ≤ (wrap64 ((t1104.length : Int) - 1)) then (if (wrap64 ((t1104.length : Int) - 1)) ≤ (t1104.length : Int) then ((impl_JoinSegments.f k (t1104.take ((wrap64 ((t1104.length : Int) - 1)) : Int).toNat)).bind fun bt1162 => (if bt1145.2 = true then (if bt1149.2 = true then (some false) else (if bt1153.2 = true then (some false) else (if bt1162.2 = true then (if (wrap64 ((t1104.length : Int) - 1)) < (t1104.length : Int) then (some ((bt1162.1.length : Int) == ((rd_T30 t1104 (wrap64 ((t1104.length : Int) - 1))).f0))) else (none)) else (some false)))) else (some false))) else (none)) else (none))))) else (none)) else (none))) else (none))) else (none))) else (none)) else (none))) else (none))) else (none)) else (none)))) else (none)))) = some r := H
  have A4 := Aside0.mk A40
  clear A40
  by_cases c5 : (t1104.length : Int) < 2
  ·rw [if_pos c5] at H
   have c5b0 : decide ((t1104.length : Int) < 2) = true := decide_eq_true c5
   have c5b1 : decide (t1104.length < 2) = true := decide_eq_true (by omega)
   clear c5
   replace H := Option.bind_eq_some_iff.mp H
   obtain ⟨⟨t1107, t1108⟩, A60, H⟩ := H
   replace H : (some t1108) = some r := H
   have A6 := Aside0.mk A60
   clear A60
   obtain rfl := Option.some.inj H
   go_enter Tryd.func12, Tryd.ntmps12
   go_wp2_with (first | ((with_reducible refine gate_callee (f := 47) rfl ?_); refine goesL_ (some 20) rfl rfl Tryd.func47 (by kernel_rfl) rfl #[.slice A0 l0.length c0] rfl lm_ ?_; (with_reducible refine (laws_big.calls _ _ l0 false _ ?side1 ?side2 A2.out).mono ?_); (case side1 => repeat (first | exact HR0.out | (with_reducible refine Kd.C_alloc ?_ _) | (with_reducible refine Kd.C_drewN ?_ _) | (with_reducible refine Kd.C_drew ?_))); (case side2 => exact HC0.out); rintro e w' ⟨rfl, ⟨nd, rfl⟩⟩; refine ⟨_, rfl, ?_⟩) | ((with_reducible refine gate_callee (f := 57) rfl ?_); refine goesL_ (some 22) rfl rfl Tryd.func57 (by kernel_rfl) rfl #[.slice A0 l0.length c0] rfl lm_ ?_; (with_reducible refine (spec_DrawSegments.calls k _ _ l0 t1104 _ ?side1 ?side2 A4.out).mono ?_); (case side1 => repeat (first | exact HR0.out | (with_reducible refine Kd.C_alloc ?_ _) | (with_reducible refine Kd.C_drewN ?_ _) | (with_reducible refine Kd.C_drew ?_))); (case side2 => exact HC0.out); rintro e w7 ⟨v1105, rfl, ho0, hb⟩; refine ⟨_, rfl, ?_⟩; have n0_ := Aside0.mk (Kd.N_lower (Kd.N_mono (ok' := fun k_ => True) (Kd.S_N (Kd.S_bound ho0)) (fun k_ hk_ => trivial)) (below_size bl_)); have n1_ := Aside0.mk (below_step bl_ hb); clear HB; have HO1106 := n0_; have HB := n1_; clear n0_ n1_; (try clear hb); (try clear hb2); (try clear hk); (try clear hi); (try clear ho0); obtain ⟨Ao8, co8, eo8⟩ := Kd.N_slice HO1106.out; subst eo8) | ((with_reducible refine gate_callee (f := 41) rfl ?_); refine goesL_ (some 29) rfl rfl Tryd.func41 (by kernel_rfl) rfl #[.slice Ao8 t1104.length co8] rfl lm_ ?_; (with_reducible refine (impl_JoinSegments.calls k _ _ t1104 t1107 t1108 _ ?side1 ?side2 ?side3 A6.out).mono ?_); (case side1 => repeat (first | exact (Kd.N_reads' HO1106.out).2.2 | (with_reducible refine Kd.C_alloc ?_ _) | (with_reducible refine Kd.C_drewN ?_ _) | (with_reducible refine Kd.C_drew ?_))); (case side2 => exact (Kd.N_reads' HO1106.out).2.1); (case side3 => exact tab_of HT.out bl_); rintro e w9 ⟨v1109, rfl, ho0, hb⟩; refine ⟨_, rfl, ?_⟩; have n0_ := Aside0.mk (Kd.N_elder' (by (with_reducible repeat (first | apply Kd.N_alloc | apply Kd.N_drewN | apply Kd.N_drew)); exact HO1106.out) (Kd.R_base ho0) hb); have n1_ := Aside0.mk (Kd.R_lower ho0 (below_size bl_)); have n2_ := Aside0.mk (below_step bl_ hb); clear HO1106; clear HB; have HO1106 := n0_; have HO1110 := n1_; have HB := n2_; clear n0_ n1_ n2_; (try clear hb); (try clear hb2); (try clear hk); (try clear hi); (try clear ho0)))
   go_ret
   exact ⟨by first | rfl | (simp [errW_none, errW_some] <;> rfl) | (simp [*, errW_none, errW_some] <;> rfl) | exact False.elim (Bool.noConfusion ((decide_eq_true (of_eq_true (by assumption))).symm.trans (by assumption))), bl_⟩
  ·rw [if_neg c5] at H
   have c5b0 : decide ((t1104.length : Int) < 2) = false := decide_eq_false c5
   have c5b1 : decide (t1104.length < 2) = false := decide_eq_false (by omega)
   clear c5
   replace H := Option.bind_eq_some_iff.mp H
   obtain ⟨t1111, A100, H⟩ := H
   replace H : (if 0 < (t1111.length : Int) then (if (wrap64 ((t1104.length : Int) - 1)) = 0 then (none) else ((some (([] : List (S30)) : List (S30))).bind fun y1115 => (if 0 ≤ (Int.tmod (rd t1111 0) (wrap64 ((t1104.length : Int) - 1))) then (if (Int.tmod (rd t1111 0) (wrap64 ((t1104.length : Int) - 1))) ≤ (t1104.length : Int) then ((some (t1104.take ((Int.tmod (rd t1111 0) (wrap64 ((t1104.length : Int) - 1))) : Int).toNat : List (S30))).bind fun y1118 => (if y1115.length + y1118.length < 2199023255552 then ((some (y1115 ++ y1118 : List (S30))).bind fun y1123 => (if 0 ≤ (wrap64 ((Int.tmod (rd t1111 0) (wrap64 ((t1104.length : Int) - 1))) + 1)) then (if (wrap64 ((Int.tmod (rd t1111 0) (wrap64 ((t1104.length : Int) - 1))) + 1)) ≤ (t1104.length : Int) then ((some (t1104.drop ((wrap64 ((Int.tmod (rd t1111 0) (wrap64 ((t1104.length : Int) - 1))) + 1)) : Int).toNat : List (S30))).bind fun y1126 => (if y1123.length + y1126.length < 2199023255552 then ((some (([] : List (S30)) : List (S30))).bind fun y1134 => (if y1134.length + t1104.length < 2199023255552 then ((some (y1134 ++ t1104 : List (S30))).bind fun y1137 => (if (Int.tmod (rd t1111 0) (wrap64 ((t1104.length : Int) - 1))) < (y1137.length : Int) then (if (wrap64 ((Int.tmod (rd t1111 0) (wrap64 ((t1104.length : Int) - 1))) + 1)) < (y1137.length : Int) then ((impl_JoinSegments.f k t1104).bind fun bt1145 => ((impl_JoinSegments.f k (y1123 ++ y1126)).bind fun bt1149 => ((impl_JoinSegments.f k ((y1137.set ((Int.tmod (rd t1111 0) (wrap64 ((t1104.length : Int) - 1))) : Int).toNat (⟨(rd_T30 y1137 (wrap64 ((Int.tmod (rd t1111 0) (wrap64 ((t1104.length : Int) - 1))) + 1))).f0, (rd_T30 y1137 (wrap64 ((Int.tmod (rd t1111 0) (wrap64 ((t1104.length : Int) - 1))) + 1))).f1, (rd_T30 y1137 (wrap64 ((Int.tmod (rd t1111 0) (wrap64 ((t1104.length : Int) - 1))) + 1))).f2, (rd_T30 y1137 (wrap64 ((Int.tmod (rd t1111 0) (wrap64 ((t1104.length : Int) - 1))) + 1))).f3⟩ : S30)).set ((wrap64 ((Int.tmod (rd t1111 0) (wrap64 ((t1104.length : Int) - 1))) + 1)) : Int).toNat (⟨(rd_T30 y1137 (Int.tmod (rd t1111 0) (wrap64 ((t1104.length : Int) - 1)))).f0, (rd_T30 y1137 (Int.tmod (rd t1111 0) (wrap64 ((t1104.length : Int) - 1)))).f1, (rd_T30 y1137 (Int.tmod (rd t1111 0) (wrap64 ((t1104.length : Int) - 1)))).f2, (rd_T30 y1137 (Int.tmod (rd t1111 0) (wrap64 ((t1104.length : Int) - 1)))).f3⟩ : S30))).bind fun bt1153 => (if 0 ≤ (wrap64 ((t1104.length : Int) - 1)) then (if (wrap64 ((t1104.length : Int) - 1)) ≤ (t1104.length : Int) then ((impl_JoinSegments.f k (t1104.take ((wrap64 ((t1104.length : Int) - 1)) : Int).toNat)).bind fun bt1162 => (if bt1145.2 = true then (if bt1149.2 = true then (some false) else (if bt1153.2 = true then (some false) else (if bt1162.2 = true then (if (wrap64 ((t1104.length : Int) - 1)) < (t1104.length : Int) then (some ((bt1162.1.length : Int) == ((rd_T30 t1104 (wrap64 ((t1104.length : Int) - 1))).f0))) else (none)) else (some false)))) else (some false))) else (none)) else (none))))) else (none)) else (none))) else (none))) else (none))) else (none)) else (none))) else (none))) else (none)) else (none)))) else (none)) = some r := H
   have A10 := Aside0.mk A100
   clear A100
   by_cases c11 : 0 < (t1111.length : Int)
   ·rw [if_pos c11] at H
    have c11b0 : decide (0 < (t1111.length : Int)) = true := decide_eq_true c11
    have c11b1 : decide (0 < t1111.length) = true := decide_eq_true (by omega)
    clear c11
    by_cases c12 : (wrap64 ((t1104.length : Int) - 1)) = 0
    ·rw [if_pos c12] at H
     exact absurd H (by simp)
    ·rw [if_neg c12] at H
     have c12b0 : ((wrap64 ((t1104.length : Int) - 1)) == 0) = false := beq_eq_false_iff_ne.mpr c12
     have c12b1 : ((wrap64 ((t1104.length : Int) - 1)) != 0) = true := bne_iff_ne.mpr c12
     obtain ⟨y1115, hy1115⟩ : ∃ y_ : List (S30), y_ = (([] : List (S30))) := ⟨_, rfl⟩
     replace H : (if 0 ≤ (Int.tmod (rd t1111 0) (wrap64 ((t1104.length : Int) - 1))) then (if (Int.tmod (rd t1111 0) (wrap64 ((t1104.length : Int) - 1))) ≤ (t1104.length : Int) then ((some (t1104.take ((Int.tmod (rd t1111 0) (wrap64 ((t1104.length : Int) - 1))) : Int).toNat : List (S30))).bind fun y1118 => (if y1115.length + y1118.length < 2199023255552 then ((some (y1115 ++ y1118 : List (S30))).bind fun y1123 => (if 0 ≤ (wrap64 ((Int.tmod (rd t1111 0) (wrap64 ((t1104.length : Int) - 1))) + 1)) then (if (wrap64 ((Int.tmod (rd t1111 0) (wrap64 ((t1104.length : Int) - 1))) + 1)) ≤ (t1104.length : Int) then ((some (t1104.drop ((wrap64 ((Int.tmod (rd t1111 0) (wrap64 ((t1104.length : Int) - 1))) + 1)) : Int).toNat : List (S30))).bind fun y1126 => (if y1123.length + y1126.length < 2199023255552 then ((some (([] : List (S30)) : List (S30))).bind fun y1134 => (if y1134.length + t1104.length < 2199023255552 then ((some (y1134 ++ t1104 : List (S30))).bind fun y1137 => (if (Int.tmod (rd t1111 0) (wrap64 ((t1104.length : Int) - 1))) < (y1137.length : Int) then (if (wrap64 ((Int.tmod (rd t1111 0) (wrap64 ((t1104.length : Int) - 1))) + 1)) < (y1137.length : Int) then ((impl_JoinSegments.f k t1104).bind fun bt1145 => ((impl_JoinSegments.f k (y1123 ++ y1126)).bind fun bt1149 => ((impl_JoinSegments.f k ((y1137.set ((Int.tmod (rd t1111 0) (wrap64 ((t1104.length : Int) - 1))) : Int).toNat (⟨(rd_T30 y1137 (wrap64 ((Int.tmod (rd t1111 0) (wrap64 ((t1104.length : Int) - 1))) + 1))).f0, (rd_T30 y1137 (wrap64 ((Int.tmod (rd t1111 0) (wrap64 ((t1104.length : Int) - 1))) + 1))).f1, (rd_T30 y1137 (wrap64 ((Int.tmod (rd t1111 0) (wrap64 ((t1104.length : Int) - 1))) + 1))).f2, (rd_T30 y1137 (wrap64 ((Int.tmod (rd t1111 0) (wrap64 ((t1104.length : Int) - 1))) + 1))).f3⟩ : S30)).set ((wrap64 ((Int.tmod (rd t1111 0) (wrap64 ((t1104.length : Int) - 1))) + 1)) : Int).toNat (⟨(rd_T30 y1137 (Int.tmod (rd t1111 0) (wrap64 ((t1104.length : Int) - 1)))).f0, (rd_T30 y1137 (Int.tmod (rd t1111 0) (wrap64 ((t1104.length : Int) - 1)))).f1, (rd_T30 y1137 (Int.tmod (rd t1111 0) (wrap64 ((t1104.length : Int) - 1)))).f2, (rd_T30 y1137 (Int.tmod (rd t1111 0) (wrap64 ((t1104.length : Int) - 1)))).f3⟩ : S30))).bind fun bt1153 => (if 0 ≤ (wrap64 ((t1104.length : Int) - 1)) then (if (wrap64 ((t1104.length : Int) - 1)) ≤ (t1104.length : Int) then ((impl_JoinSegments.f k (t1104.take ((wrap64 ((t1104.length : Int) - 1)) : Int).toNat)).bind fun bt1162 => (if bt1145.2 = true then (if bt1149.2 = true then (some false) else (if bt1153.2 = true then (some false) else (if bt1162.2 = true then (if (wrap64 ((t1104.length : Int) - 1)) < (t1104.length : Int) then (some ((bt1162.1.length : Int) == ((rd_T30 t1104 (wrap64 ((t1104.length : Int) - 1))).f0))) else (none)) else (some false)))) else (some false))) else (none)) else (none))))) else (none)) else (none))) else (none))) else (none))) else (none)) else (none))) else (none))) else (none)) else (none)) = some r := by first | (rw [hy1115]; with_reducible exact H) | (have H2_ := (Option.bind_some _ _).symm.trans H; rw [hy1115]; with_reducible exact H2_) | (have H2_ := (Option.bind_some _ _).symm.trans H; with_reducible exact H2_) | with_reducible exact H | (rw [hy1115]; exact H) | exact H
     have Ny1115 := Aside0.mk hy1115
     clear hy1115
     obtain ⟨ji13, hji13⟩ : ∃ j_ : Int, (Int.tmod (rd t1111 0) (wrap64 ((t1104.length : Int) - 1))) = j_ := ⟨_, rfl⟩
     replace H : (if 0 ≤ (ji13) then (if (ji13) ≤ (t1104.length : Int) then ((some (t1104.take ((ji13) : Int).toNat : List (S30))).bind fun y1118 => (if y1115.length + y1118.length < 2199023255552 then ((some (y1115 ++ y1118 : List (S30))).bind fun y1123 => (if 0 ≤ (wrap64 ((ji13) + 1)) then (if (wrap64 ((ji13) + 1)) ≤ (t1104.length : Int) then ((some (t1104.drop ((wrap64 ((ji13) + 1)) : Int).toNat : List (S30))).bind fun y1126 => (if y1123.length + y1126.length < 2199023255552 then ((some (([] : List (S30)) : List (S30))).bind fun y1134 => (if y1134.length + t1104.length < 2199023255552 then ((some (y1134 ++ t1104 : List (S30))).bind fun y1137 => (if (ji13) < (y1137.length : Int) then (if (wrap64 ((ji13) + 1)) < (y1137.length : Int) then ((impl_JoinSegments.f k t1104).bind fun bt1145 => ((impl_JoinSegments.f k (y1123 ++ y1126)).bind fun bt1149 => ((impl_JoinSegments.f k ((y1137.set ((ji13) : Int).toNat (⟨(rd_T30 y1137 (wrap64 ((ji13) + 1))).f0, (rd_T30 y1137 (wrap64 ((ji13) + 1))).f1, (rd_T30 y1137 (wrap64 ((ji13) + 1))).f2, (rd_T30 y1137 (wrap64 ((ji13) + 1))).f3⟩ : S30)).set ((wrap64 ((ji13) + 1)) : Int).toNat (⟨(rd_T30 y1137 (ji13)).f0, (rd_T30 y1137 (ji13)).f1, (rd_T30 y1137 (ji13)).f2, (rd_T30 y1137 (ji13)).f3⟩ : S30))).bind fun bt1153 => (if 0 ≤ (wrap64 ((t1104.length : Int) - 1)) then (if (wrap64 ((t1104.length : Int) - 1)) ≤ (t1104.length : Int) then ((impl_JoinSegments.f k (t1104.take ((wrap64 ((t1104.length : Int) - 1)) : Int).toNat)).bind fun bt1162 => (if bt1145.2 = true then (if bt1149.2 = true then (some false) else (if bt1153.2 = true then (some false) else (if bt1162.2 = true then (if (wrap64 ((t1104.length : Int) - 1)) < (t1104.length : Int) then (some ((bt1162.1.length : Int) == ((rd_T30 t1104 (wrap64 ((t1104.length : Int) - 1))).f0))) else (none)) else (some false)))) else (some false))) else (none)) else (none))))) else (none)) else (none))) else (none))) else (none))) else (none)) else (none))) else (none))) else (none)) else (none)) = some r := by first | (rw [hji13] at H; exact H) | (simp only [hji13] at H ⊢; exact H)
     (try rw [hji13] at A2)
     (try rw [hji13] at A4)
     (try rw [hji13] at A10)
     by_cases c14 : 0 ≤ (ji13)
     ·rw [if_pos c14] at H
      have c14b0 := eq_true c14
      have c14b1 : decide (0 ≤ (ji13)) = true := decide_eq_true c14
      clear c14
      by_cases c15 : (ji13) ≤ (t1104.length : Int)
      ·rw [if_pos c15] at H
       have c15b0 := eq_true c15
       have c15b1 : decide ((ji13) ≤ (t1104.length : Int)) = true := decide_eq_true c15
       clear c15
       obtain ⟨y1118, hy1118⟩ : ∃ y_ : List (S30), y_ = (t1104.take ((ji13) : Int).toNat) := ⟨_, rfl⟩
       replace H : (if y1115.length + y1118.length < 2199023255552 then ((some (y1115 ++ y1118 : List (S30))).bind fun y1123 => (if 0 ≤ (wrap64 ((ji13) + 1)) then (if (wrap64 ((ji13) + 1)) ≤ (t1104.length : Int) then ((some (t1104.drop ((wrap64 ((ji13) + 1)) : Int).toNat : List (S30))).bind fun y1126 => (if y1123.length + y1126.length < 2199023255552 then ((some (([] : List (S30)) : List (S30))).bind fun y1134 => (if y1134.length + t1104.length < 2199023255552 then ((some (y1134 ++ t1104 : List (S30))).bind fun y1137 => (if (ji13) < (y1137.length : Int) then (if (wrap64 ((ji13) + 1)) < (y1137.length : Int) then ((impl_JoinSegments.f k t1104).bind fun bt1145 => ((impl_JoinSegments.f k (y1123 ++ y1126)).bind fun bt1149 => ((impl_JoinSegments.f k ((y1137.set ((ji13) : Int).toNat (⟨(rd_T30 y1137 (wrap64 ((ji13) + 1))).f0, (rd_T30 y1137 (wrap64 ((ji13) + 1))).f1, (rd_T30 y1137 (wrap64 ((ji13) + 1))).f2, (rd_T30 y1137 (wrap64 ((ji13) + 1))).f3⟩ : S30)).set ((wrap64 ((ji13) + 1)) : Int).toNat (⟨(rd_T30 y1137 (ji13)).f0, (rd_T30 y1137 (ji13)).f1, (rd_T30 y1137 (ji13)).f2, (rd_T30 y1137 (ji13)).f3⟩ : S30))).bind fun bt1153 => (if 0 ≤ (wrap64 ((t1104.length : Int) - 1)) then (if (wrap64 ((t1104.length : Int) - 1)) ≤ (t1104.length : Int) then ((impl_JoinSegments.f k (t1104.take ((wrap64 ((t1104.length : Int) - 1)) : Int).toNat)).bind fun bt1162 => (if bt1145.2 = true then (if bt1149.2 = true then (some false) else (if bt1153.2 = true then (some false) else (if bt1162.2 = true then (if (wrap64 ((t1104.length : Int) - 1)) < (t1104.length : Int) then (some ((bt1162.1.length : Int) == ((rd_T30 t1104 (wrap64 ((t1104.length : Int) - 1))).f0))) else (none)) else (some false)))) else (some false))) else (none)) else (none))))) else (none)) else (none))) else (none))) else (none))) else (none)) else (none))) else (none)) = some r := by first | (rw [hy1118]; with_reducible exact H) | (have H2_ := (Option.bind_some _ _).symm.trans H; rw [hy1118]; with_reducible exact H2_) | (have H2_ := (Option.bind_some _ _).symm.trans H; with_reducible exact H2_) | with_reducible exact H | (rw [hy1118]; exact H) | exact H
       have Ny1118 := Aside0.mk hy1118
       clear hy1118
       by_cases c16 : y1115.length + y1118.length < 2199023255552
       ·rw [if_pos c16] at H
        have LMc16 := Aside0.mk c16
        clear c16
        obtain ⟨y1123, hy1123⟩ : ∃ y_ : List (S30), y_ = (y1115 ++ y1118) := ⟨_, rfl⟩
        replace H : (if 0 ≤ (wrap64 ((ji13) + 1)) then (if (wrap64 ((ji13) + 1)) ≤ (t1104.length : Int) then ((some (t1104.drop ((wrap64 ((ji13) + 1)) : Int).toNat : List (S30))).bind fun y1126 => (if y1123.length + y1126.length < 2199023255552 then ((some (([] : List (S30)) : List (S30))).bind fun y1134 => (if y1134.length + t1104.length < 2199023255552 then ((some (y1134 ++ t1104 : List (S30))).bind fun y1137 => (if (ji13) < (y1137.length : Int) then (if (wrap64 ((ji13) + 1)) < (y1137.length : Int) then ((impl_JoinSegments.f k t1104).bind fun bt1145 => ((impl_JoinSegments.f k (y1123 ++ y1126)).bind fun bt1149 => ((impl_JoinSegments.f k ((y1137.set ((ji13) : Int).toNat (⟨(rd_T30 y1137 (wrap64 ((ji13) + 1))).f0, (rd_T30 y1137 (wrap64 ((ji13) + 1))).f1, (rd_T30 y1137 (wrap64 ((ji13) + 1))).f2, (rd_T30 y1137 (wrap64 ((ji13) + 1))).f3⟩ : S30)).set ((wrap64 ((ji13) + 1)) : Int).toNat (⟨(rd_T30 y1137 (ji13)).f0, (rd_T30 y1137 (ji13)).f1, (rd_T30 y1137 (ji13)).f2, (rd_T30 y1137 (ji13)).f3⟩ : S30))).bind fun bt1153 => (if 0 ≤ (wrap64 ((t1104.length : Int) - 1)) then (if (wrap64 ((t1104.length : Int) - 1)) ≤ (t1104.length : Int) then ((impl_JoinSegments.f k (t1104.take ((wrap64 ((t1104.length : Int) - 1)) : Int).toNat)).bind fun bt1162 => (if bt1145.2 = true then (if bt1149.2 = true then (some false) else (if bt1153.2 = true then (some false) else (if bt1162.2 = true then (if (wrap64 ((t1104.length : Int) - 1)) < (t1104.length : Int) then (some ((bt1162.1.length : Int) == ((rd_T30 t1104 (wrap64 ((t1104.length : Int) - 1))).f0))) else (none)) else (some false)))) else (some false))) else (none)) else (none))))) else (none)) else (none))) else (none))) else (none))) else (none)) else (none)) = some r := by first | (rw [hy1123]; with_reducible exact H) | (have H2_ := (Option.bind_some _ _).symm.trans H; rw [hy1123]; with_reducible exact H2_) | (have H2_ := (Option.bind_some _ _).symm.trans H; with_reducible exact H2_) | with_reducible exact H | (rw [hy1123]; exact H) | exact H
        have Ny1123 := Aside0.mk hy1123
        clear hy1123
        obtain ⟨ji17, hji17⟩ : ∃ j_ : Int, (wrap64 ((ji13) + 1)) = j_ := ⟨_, rfl⟩
        replace H : (if 0 ≤ (ji17) then (if (ji17) ≤ (t1104.length : Int) then ((some (t1104.drop ((ji17) : Int).toNat : List (S30))).bind fun y1126 => (if y1123.length + y1126.length < 2199023255552 then ((some (([] : List (S30)) : List (S30))).bind fun y1134 => (if y1134.length + t1104.length < 2199023255552 then ((some (y1134 ++ t1104 : List (S30))).bind fun y1137 => (if (ji13) < (y1137.length : Int) then (if (ji17) < (y1137.length : Int) then ((impl_JoinSegments.f k t1104).bind fun bt1145 => ((impl_JoinSegments.f k (y1123 ++ y1126)).bind fun bt1149 => ((impl_JoinSegments.f k ((y1137.set ((ji13) : Int).toNat (⟨(rd_T30 y1137 (ji17)).f0, (rd_T30 y1137 (ji17)).f1, (rd_T30 y1137 (ji17)).f2, (rd_T30 y1137 (ji17)).f3⟩ : S30)).set ((ji17) : Int).toNat (⟨(rd_T30 y1137 (ji13)).f0, (rd_T30 y1137 (ji13)).f1, (rd_T30 y1137 (ji13)).f2, (rd_T30 y1137 (ji13)).f3⟩ : S30))).bind fun bt1153 => (if 0 ≤ (wrap64 ((t1104.length : Int) - 1)) then (if (wrap64 ((t1104.length : Int) - 1)) ≤ (t1104.length : Int) then ((impl_JoinSegments.f k (t1104.take ((wrap64 ((t1104.length : Int) - 1)) : Int).toNat)).bind fun bt1162 => (if bt1145.2 = true then (if bt1149.2 = true then (some false) else (if bt1153.2 = true then (some false) else (if bt1162.2 = true then (if (wrap64 ((t1104.length : Int) - 1)) < (t1104.length : Int) then (some ((bt1162.1.length : Int) == ((rd_T30 t1104 (wrap64 ((t1104.length : Int) - 1))).f0))) else (none)) else (some false)))) else (some false))) else (none)) else (none))))) else (none)) else (none))) else (none))) else (none))) else (none)) else (none)) = some r := by first | (rw [hji17] at H; exact H) | (simp only [hji17] at H ⊢; exact H)
        (try rw [hji17] at A2)
        (try rw [hji17] at A4)
        (try rw [hji17] at A10)
        have hji17w : (IntKind.i64.wrap ((ji13) + 1)) = ji17 := (i64_w _).trans hji17
        by_cases c18 : 0 ≤ (ji17)
        ·rw [if_pos c18] at H
         have c18b0 := eq_true c18
         have c18b1 : decide (0 ≤ (ji17)) = true := decide_eq_true c18
         clear c18
         by_cases c19 : (ji17) ≤ (t1104.length : Int)
         ·rw [if_pos c19] at H
          have c19b0 := eq_true c19
          have c19b1 : decide ((ji17) ≤ (t1104.length : Int)) = true := decide_eq_true c19
          clear c19
          obtain ⟨y1126, hy1126⟩ : ∃ y_ : List (S30), y_ = (t1104.drop ((ji17) : Int).toNat) := ⟨_, rfl⟩
          replace H : (if y1123.length + y1126.length < 2199023255552 then ((some (([] : List (S30)) : List (S30))).bind fun y1134 => (if y1134.length + t1104.length < 2199023255552 then ((some (y1134 ++ t1104 : List (S30))).bind fun y1137 => (if (ji13) < (y1137.length : Int) then (if (ji17) < (y1137.length : Int) then ((impl_JoinSegments.f k t1104).bind fun bt1145 => ((impl_JoinSegments.f k (y1123 ++ y1126)).bind fun bt1149 => ((impl_JoinSegments.f k ((y1137.set ((ji13) : Int).toNat (⟨(rd_T30 y1137 (ji17)).f0, (rd_T30 y1137 (ji17)).f1, (rd_T30 y1137 (ji17)).f2, (rd_T30 y1137 (ji17)).f3⟩ : S30)).set ((ji17) : Int).toNat (⟨(rd_T30 y1137 (ji13)).f0, (rd_T30 y1137 (ji13)).f1, (rd_T30 y1137 (ji13)).f2, (rd_T30 y1137 (ji13)).f3⟩ : S30))).bind fun bt1153 => (if 0 ≤ (wrap64 ((t1104.length : Int) - 1)) then (if (wrap64 ((t1104.length : Int) - 1)) ≤ (t1104.length : Int) then ((impl_JoinSegments.f k (t1104.take ((wrap64 ((t1104.length : Int) - 1)) : Int).toNat)).bind fun bt1162 => (if bt1145.2 = true then (if bt1149.2 = true then (some false) else (if bt1153.2 = true then (some false) else (if bt1162.2 = true then (if (wrap64 ((t1104.length : Int) - 1)) < (t1104.length : Int) then (some ((bt1162.1.length : Int) == ((rd_T30 t1104 (wrap64 ((t1104.length : Int) - 1))).f0))) else (none)) else (some false)))) else (some false))) else (none)) else (none))))) else (none)) else (none))) else (none))) else (none)) = some r := by first | (rw [hy1126]; with_reducible exact H) | (have H2_ := (Option.bind_some _ _).symm.trans H; rw [hy1126]; with_reducible exact H2_) | (have H2_ := (Option.bind_some _ _).symm.trans H; with_reducible exact H2_) | with_reducible exact H | (rw [hy1126]; exact H) | exact H
          have Ny1126 := Aside0.mk hy1126
          clear hy1126
          by_cases c20 : y1123.length + y1126.length < 2199023255552
          ·rw [if_pos c20] at H
           have LMc20 := Aside0.mk c20
           clear c20
           obtain ⟨y1131, hy1131⟩ : ∃ y_ : List (S30), y_ = (y1123 ++ y1126) := ⟨_, rfl⟩
           replace H : ((some (([] : List (S30)) : List (S30))).bind fun y1134 => (if y1134.length + t1104.length < 2199023255552 then ((some (y1134 ++ t1104 : List (S30))).bind fun y1137 => (if (ji13) < (y1137.length : Int) then (if (ji17) < (y1137.length : Int) then ((impl_JoinSegments.f k t1104).bind fun bt1145 => ((impl_JoinSegments.f k y1131).bind fun bt1149 => ((impl_JoinSegments.f k ((y1137.set ((ji13) : Int).toNat (⟨(rd_T30 y1137 (ji17)).f0, (rd_T30 y1137 (ji17)).f1, (rd_T30 y1137 (ji17)).f2, (rd_T30 y1137 (ji17)).f3⟩ : S30)).set ((ji17) : Int).toNat (⟨(rd_T30 y1137 (ji13)).f0, (rd_T30 y1137 (ji13)).f1, (rd_T30 y1137 (ji13)).f2, (rd_T30 y1137 (ji13)).f3⟩ : S30))).bind fun bt1153 => (if 0 ≤ (wrap64 ((t1104.length : Int) - 1)) then (if (wrap64 ((t1104.length : Int) - 1)) ≤ (t1104.length : Int) then ((impl_JoinSegments.f k (t1104.take ((wrap64 ((t1104.length : Int) - 1)) : Int).toNat)).bind fun bt1162 => (if bt1145.2 = true then (if bt1149.2 = true then (some false) else (if bt1153.2 = true then (some false) else (if bt1162.2 = true then (if (wrap64 ((t1104.length : Int) - 1)) < (t1104.length : Int) then (some ((bt1162.1.length : Int) == ((rd_T30 t1104 (wrap64 ((t1104.length : Int) - 1))).f0))) else (none)) else (some false)))) else (some false))) else (none)) else (none))))) else (none)) else (none))) else (none))) = some r := by first | (rw [hy1131]; with_reducible exact H) | (have H2_ := (Option.bind_some _ _).symm.trans H; rw [hy1131]; with_reducible exact H2_) | (have H2_ := (Option.bind_some _ _).symm.trans H; with_reducible exact H2_) | with_reducible exact H | (rw [hy1131]; exact H) | exact H
           have Ny1131 := Aside0.mk hy1131
           clear hy1131
           obtain ⟨y1134, hy1134⟩ : ∃ y_ : List (S30), y_ = (([] : List (S30))) := ⟨_, rfl⟩
           replace H : (if y1134.length + t1104.length < 2199023255552 then ((some (y1134 ++ t1104 : List (S30))).bind fun y1137 => (if (ji13) < (y1137.length : Int) then (if (ji17) < (y1137.length : Int) then ((impl_JoinSegments.f k t1104).bind fun bt1145 => ((impl_JoinSegments.f k y1131).bind fun bt1149 => ((impl_JoinSegments.f k ((y1137.set ((ji13) : Int).toNat (⟨(rd_T30 y1137 (ji17)).f0, (rd_T30 y1137 (ji17)).f1, (rd_T30 y1137 (ji17)).f2, (rd_T30 y1137 (ji17)).f3⟩ : S30)).set ((ji17) : Int).toNat (⟨(rd_T30 y1137 (ji13)).f0, (rd_T30 y1137 (ji13)).f1, (rd_T30 y1137 (ji13)).f2, (rd_T30 y1137 (ji13)).f3⟩ : S30))).bind fun bt1153 => (if 0 ≤ (wrap64 ((t1104.length : Int) - 1)) then (if (wrap64 ((t1104.length : Int) - 1)) ≤ (t1104.length : Int) then ((impl_JoinSegments.f k (t1104.take ((wrap64 ((t1104.length : Int) - 1)) : Int).toNat)).bind fun bt1162 => (if bt1145.2 = true then (if bt1149.2 = true then (some false) else (if bt1153.2 = true then (some false) else (if bt1162.2 = true then (if (wrap64 ((t1104.length : Int) - 1)) < (t1104.length : Int) then (some ((bt1162.1.length : Int) == ((rd_T30 t1104 (wrap64 ((t1104.length : Int) - 1))).f0))) else (none)) else (some false)))) else (some false))) else (none)) else (none))))) else (none)) else (none))) else (none)) = some r := by first | (rw [hy1134]; with_reducible exact H) | (have H2_ := (Option.bind_some _ _).symm.trans H; rw [hy1134]; with_reducible exact H2_) | (have H2_ := (Option.bind_some _ _).symm.trans H; with_reducible exact H2_) | with_reducible exact H | (rw [hy1134]; exact H) | exact H
           have Ny1134 := Aside0.mk hy1134
           clear hy1134
           by_cases c21 : y1134.length + t1104.length < 2199023255552
           ·rw [if_pos c21] at H
            have LMc21 := Aside0.mk c21
            clear c21
            obtain ⟨y1137, hy1137⟩ : ∃ y_ : List (S30), y_ = (y1134 ++ t1104) := ⟨_, rfl⟩
            replace H : (if (ji13) < (y1137.length : Int) then (if (ji17) < (y1137.length : Int) then ((impl_JoinSegments.f k t1104).bind fun bt1145 => ((impl_JoinSegments.f k y1131).bind fun bt1149 => ((impl_JoinSegments.f k ((y1137.set ((ji13) : Int).toNat (⟨(rd_T30 y1137 (ji17)).f0, (rd_T30 y1137 (ji17)).f1, (rd_T30 y1137 (ji17)).f2, (rd_T30 y1137 (ji17)).f3⟩ : S30)).set ((ji17) : Int).toNat (⟨(rd_T30 y1137 (ji13)).f0, (rd_T30 y1137 (ji13)).f1, (rd_T30 y1137 (ji13)).f2, (rd_T30 y1137 (ji13)).f3⟩ : S30))).bind fun bt1153 => (if 0 ≤ (wrap64 ((t1104.length : Int) - 1)) then (if (wrap64 ((t1104.length : Int) - 1)) ≤ (t1104.length : Int) then ((impl_JoinSegments.f k (t1104.take ((wrap64 ((t1104.length : Int) - 1)) : Int).toNat)).bind fun bt1162 => (if bt1145.2 = true then (if bt1149.2 = true then (some false) else (if bt1153.2 = true then (some false) else (if bt1162.2 = true then (if (wrap64 ((t1104.length : Int) - 1)) < (t1104.length : Int) then (some ((bt1162.1.length : Int) == ((rd_T30 t1104 (wrap64 ((t1104.length : Int) - 1))).f0))) else (none)) else (some false)))) else (some false))) else (none)) else (none))))) else (none)) else (none)) = some r := by first | (rw [hy1137]; with_reducible exact H) | (have H2_ := (Option.bind_some _ _).symm.trans H; rw [hy1137]; with_reducible exact H2_) | (have H2_ := (Option.bind_some _ _).symm.trans H; with_reducible exact H2_) | with_reducible exact H | (rw [hy1137]; exact H) | exact H
            have Ny1137 := Aside0.mk hy1137
            clear hy1137
            by_cases c22 : (ji13) < (y1137.length : Int)
            ·rw [if_pos c22] at H
             have c22b0 : decide ((ji13) < (y1137.length : Int)) = true := decide_eq_true c22
             clear c22
             by_cases c23 : (ji17) < (y1137.length : Int)
             ·rw [if_pos c23] at H
              have c23b0 : decide ((ji17) < (y1137.length : Int)) = true := decide_eq_true c23
              clear c23
              obtain ⟨y1143, hy1143⟩ : ∃ y_ : List (S30), y_ = (y1137.set ((ji13) : Int).toNat (⟨(rd_T30 y1137 (ji17)).f0, (rd_T30 y1137 (ji17)).f1, (rd_T30 y1137 (ji17)).f2, (rd_T30 y1137 (ji17)).f3⟩ : S30)) := ⟨_, rfl⟩
              replace H : ((impl_JoinSegments.f k t1104).bind fun bt1145 => ((impl_JoinSegments.f k y1131).bind fun bt1149 => ((impl_JoinSegments.f k (y1143.set ((ji17) : Int).toNat (⟨(rd_T30 y1137 (ji13)).f0, (rd_T30 y1137 (ji13)).f1, (rd_T30 y1137 (ji13)).f2, (rd_T30 y1137 (ji13)).f3⟩ : S30))).bind fun bt1153 => (if 0 ≤ (wrap64 ((t1104.length : Int) - 1)) then (if (wrap64 ((t1104.length : Int) - 1)) ≤ (t1104.length : Int) then ((impl_JoinSegments.f k (t1104.take ((wrap64 ((t1104.length : Int) - 1)) : Int).toNat)).bind fun bt1162 => (if bt1145.2 = true then (if bt1149.2 = true then (some false) else (if bt1153.2 = true then (some false) else (if bt1162.2 = true then (if (wrap64 ((t1104.length : Int) - 1)) < (t1104.length : Int) then (some ((bt1162.1.length : Int) == ((rd_T30 t1104 (wrap64 ((t1104.length : Int) - 1))).f0))) else (none)) else (some false)))) else (some false))) else (none)) else (none))))) = some r := by first | (rw [hy1143]; with_reducible exact H) | (have H2_ := (Option.bind_some _ _).symm.trans H; rw [hy1143]; with_reducible exact H2_) | (have H2_ := (Option.bind_some _ _).symm.trans H; with_reducible exact H2_) | with_reducible exact H | (rw [hy1143]; exact H) | exact H
              have Ny1143 := Aside0.mk hy1143
              clear hy1143
              obtain ⟨y1144, hy1144⟩ : ∃ y_ : List (S30), y_ = (y1143.set ((ji17) : Int).toNat (⟨(rd_T30 y1137 (ji13)).f0, (rd_T30 y1137 (ji13)).f1, (rd_T30 y1137 (ji13)).f2, (rd_T30 y1137 (ji13)).f3⟩ : S30)) := ⟨_, rfl⟩
              replace H : ((impl_JoinSegments.f k t1104).bind fun bt1145 => ((impl_JoinSegments.f k y1131).bind fun bt1149 => ((impl_JoinSegments.f k y1144).bind fun bt1153 => (if 0 ≤ (wrap64 ((t1104.length : Int) - 1)) then (if (wrap64 ((t1104.length : Int) - 1)) ≤ (t1104.length : Int) then ((impl_JoinSegments.f k (t1104.take ((wrap64 ((t1104.length : Int) - 1)) : Int).toNat)).bind fun bt1162 => (if bt1145.2 = true then (if bt1149.2 = true then (some false) else (if bt1153.2 = true then (some false) else (if bt1162.2 = true then (if (wrap64 ((t1104.length : Int) - 1)) < (t1104.length : Int) then (some ((bt1162.1.length : Int) == ((rd_T30 t1104 (wrap64 ((t1104.length : Int) - 1))).f0))) else (none)) else (some false)))) else (some false))) else (none)) else (none))))) = some r := by first | (rw [hy1144]; with_reducible exact H) | (have H2_ := (Option.bind_some _ _).symm.trans H; rw [hy1144]; with_reducible exact H2_) | (have H2_ := (Option.bind_some _ _).symm.trans H; with_reducible exact H2_) | with_reducible exact H | (rw [hy1144]; exact H) | exact H
              have Ny1144 := Aside0.mk hy1144
              clear hy1144
              replace H := Option.bind_eq_some_iff.mp H
              obtain ⟨⟨t1145, t1146⟩, A260, H⟩ := H
              replace H : ((impl_JoinSegments.f k y1131).bind fun bt1149 => ((impl_JoinSegments.f k y1144).bind fun bt1153 => (if 0 ≤ (wrap64 ((t1104.length : Int) - 1)) then (if (wrap64 ((t1104.length : Int) - 1)) ≤ (t1104.length : Int) then ((impl_JoinSegments.f k (t1104.take ((wrap64 ((t1104.length : Int) - 1)) : Int).toNat)).bind fun bt1162 => (if t1146 = true then (if bt1149.2 = true then (some false) else (if bt1153.2 = true then (some false) else (if bt1162.2 = true then (if (wrap64 ((t1104.length : Int) - 1)) < (t1104.length : Int) then (some ((bt1162.1.length : Int) == ((rd_T30 t1104 (wrap64 ((t1104.length : Int) - 1))).f0))) else (none)) else (some false)))) else (some false))) else (none)) else (none)))) = some r := H
              have A26 := Aside0.mk A260
              clear A260
              replace H := Option.bind_eq_some_iff.mp H
              obtain ⟨⟨t1149, t1150⟩, A270, H⟩ := H
              replace H : ((impl_JoinSegments.f k y1144).bind fun bt1153 => (if 0 ≤ (wrap64 ((t1104.length : Int) - 1)) then (if (wrap64 ((t1104.length : Int) - 1)) ≤ (t1104.length : Int) then ((impl_JoinSegments.f k (t1104.take ((wrap64 ((t1104.length : Int) - 1)) : Int).toNat)).bind fun bt1162 => (if t1146 = true then (if t1150 = true then (some false) else (if bt1153.2 = true then (some false) else (if bt1162.2 = true then (if (wrap64 ((t1104.length : Int) - 1)) < (t1104.length : Int) then (some ((bt1162.1.length : Int) == ((rd_T30 t1104 (wrap64 ((t1104.length : Int) - 1))).f0))) else (none)) else (some false)))) else (some false))) else (none)) else (none))) = some r := H
              have A27 := Aside0.mk A270
              clear A270
              replace H := Option.bind_eq_some_iff.mp H
              obtain ⟨⟨t1153, t1154⟩, A280, H⟩ := H
              replace H : (if 0 ≤ (wrap64 ((t1104.length : Int) - 1)) then (if (wrap64 ((t1104.length : Int) - 1)) ≤ (t1104.length : Int) then ((impl_JoinSegments.f k (t1104.take ((wrap64 ((t1104.length : Int) - 1)) : Int).toNat)).bind fun bt1162 => (if t1146 = true then (if t1150 = true then (some false) else (if t1154 = true then (some false) else (if bt1162.2 = true then (if (wrap64 ((t1104.length : Int) - 1)) < (t1104.length : Int) then (some ((bt1162.1.length : Int) == ((rd_T30 t1104 (wrap64 ((t1104.length : Int) - 1))).f0))) else (none)) else (some false)))) else (some false))) else (none)) else (none)) = some r := H
              have A28 := Aside0.mk A280
              clear A280
              obtain ⟨ji29, hji29⟩ : ∃ j_ : Int, (wrap64 ((t1104.length : Int) - 1)) = j_ := ⟨_, rfl⟩
              replace H : (if 0 ≤ (ji29) then (if (ji29) ≤ (t1104.length : Int) then ((impl_JoinSegments.f k (t1104.take ((ji29) : Int).toNat)).bind fun bt1162 => (if t1146 = true then (if t1150 = true then (some false) else (if t1154 = true then (some false) else (if bt1162.2 = true then (if (ji29) < (t1104.length : Int) then (some ((bt1162.1.length : Int) == ((rd_T30 t1104 (ji29)).f0))) else (none)) else (some false)))) else (some false))) else (none)) else (none)) = some r := by first | (rw [hji29] at H; exact H) | (simp only [hji29] at H ⊢; exact H)
              (try rw [hji29] at c12b0)
              (try rw [hji29] at c12b1)
              (try rw [hji29] at hji13)
              (try rw [hji29] at A2)
              (try rw [hji29] at A4)
              (try rw [hji29] at A10)
              (try rw [hji29] at A26)
              (try rw [hji29] at A27)
              (try rw [hji29] at A28)
              have hji29w : (IntKind.i64.wrap ((t1104.length : Int) - 1)) = ji29 := (i64_w _).trans hji29
              by_cases c30 : 0 ≤ (ji29)
              ·rw [if_pos c30] at H
               have c30b0 := eq_true c30
               have c30b1 : decide (0 ≤ (ji29)) = true := decide_eq_true c30
               clear c30
               by_cases c31 : (ji29) ≤ (t1104.length : Int)
               ·rw [if_pos c31] at H
                have c31b0 := eq_true c31
                have c31b1 : decide ((ji29) ≤ (t1104.length : Int)) = true := decide_eq_true c31
                clear c31
                obtain ⟨y1157, hy1157⟩ : ∃ y_ : List (S30), y_ = (t1104.take ((ji29) : Int).toNat) := ⟨_, rfl⟩
                replace H : ((impl_JoinSegments.f k y1157).bind fun bt1162 => (if t1146 = true then (if t1150 = true then (some false) else (if t1154 = true then (some false) else (if bt1162.2 = true then (if (ji29) < (t1104.length : Int) then (some ((bt1162.1.length : Int) == ((rd_T30 t1104 (ji29)).f0))) else (none)) else (some false)))) else (some false))) = some r := by first | (rw [hy1157]; with_reducible exact H) | (have H2_ := (Option.bind_some _ _).symm.trans H; rw [hy1157]; with_reducible exact H2_) | (have H2_ := (Option.bind_some _ _).symm.trans H; with_reducible exact H2_) | with_reducible exact H | (rw [hy1157]; exact H) | exact H
                have Ny1157 := Aside0.mk hy1157
                clear hy1157
                replace H := Option.bind_eq_some_iff.mp H
                obtain ⟨⟨t1162, t1163⟩, A320, H⟩ := H
                replace H : (if t1146 = true then (if t1150 = true then (some false) else (if t1154 = true then (some false) else (if t1163 = true then (if (ji29) < (t1104.length : Int) then (some ((t1162.length : Int) == ((rd_T30 t1104 (ji29)).f0))) else (none)) else (some false)))) else (some false)) = some r := H
                have A32 := Aside0.mk A320
                clear A320
                by_cases c33 : t1146 = true
                ·subst c33
                 have H1 : (if t1150 = true then (some false) else (if t1154 = true then (some false) else (if t1163 = true then (if (ji29) < (t1104.length : Int) then (some ((t1162.length : Int) == ((rd_T30 t1104 (ji29)).f0))) else (none)) else (some false)))) = some r := by rw [if_pos rfl] at H; exact H
                 clear H
                 have H := H1
                 clear H1
                 by_cases c34 : t1150 = true
                 ·subst c34
                  have H1 : (some false) = some r := by rw [if_pos rfl] at H; exact H
                  clear H
                  have H := H1
                  clear H1
                  exact absurd ((Option.some.inj H).trans HR1.out) (by decide)
                 ·replace c34 := Bool.eq_false_iff.mpr c34
                  subst c34
                  have H1 : (if t1154 = true then (some false) else (if t1163 = true then (if (ji29) < (t1104.length : Int) then (some ((t1162.length : Int) == ((rd_T30 t1104 (ji29)).f0))) else (none)) else (some false))) = some r := by rw [if_neg (show ¬ (false = true) by decide)] at H; exact H
                  clear H
                  have H := H1
                  clear H1
                  by_cases c35 : t1154 = true
                  ·subst c35
                   have H1 : (some false) = some r := by rw [if_pos rfl] at H; exact H
                   clear H
                   have H := H1
                   clear H1
                   exact absurd ((Option.some.inj H).trans HR1.out) (by decide)
                  ·replace c35 := Bool.eq_false_iff.mpr c35
                   subst c35
                   have H1 : (if t1163 = true then (if (ji29) < (t1104.length : Int) then (some ((t1162.length : Int) == ((rd_T30 t1104 (ji29)).f0))) else (none)) else (some false)) = some r := by rw [if_neg (show ¬ (false = true) by decide)] at H; exact H
                   clear H
                   have H := H1
                   clear H1
                   by_cases c36 : t1163 = true
                   ·subst c36
                    have H1 : (if (ji29) < (t1104.length : Int) then (some ((t1162.length : Int) == ((rd_T30 t1104 (ji29)).f0))) else (none)) = some r := by rw [if_pos rfl] at H; exact H
                    clear H
                    have H := H1
                    clear H1
                    by_cases c37 : (ji29) < (t1104.length : Int)
                    ·rw [if_pos c37] at H
                     have c37b0 : decide ((ji29) < (t1104.length : Int)) = true := decide_eq_true c37
                     clear c37
                     obtain rfl := Option.some.inj H
                     go_enter Tryd.func12, Tryd.ntmps12
                     try go_wp2_with (first | ((with_reducible refine gate_callee (f := 47) rfl ?_); refine goesL_ (some 20) rfl rfl Tryd.func47 (by kernel_rfl) rfl #[.slice A0 l0.length c0] rfl lm_ ?_; (with_reducible refine (laws_big.calls _ _ l0 false _ ?side1 ?side2 A2.out).mono ?_); (case side1 => repeat (first | exact HR0.out | (with_reducible refine Kd.C_alloc ?_ _) | (with_reducible refine Kd.C_drewN ?_ _) | (with_reducible refine Kd.C_drew ?_))); (case side2 => exact HC0.out); rintro e w' ⟨rfl, ⟨nd, rfl⟩⟩; refine ⟨_, rfl, ?_⟩) | ((with_reducible refine gate_callee (f := 57) rfl ?_); refine goesL_ (some 22) rfl rfl Tryd.func57 (by kernel_rfl) rfl #[.slice A0 l0.length c0] rfl lm_ ?_; (with_reducible refine (spec_DrawSegments.calls k _ _ l0 t1104 _ ?side1 ?side2 A4.out).mono ?_); (case side1 => repeat (first | exact HR0.out | (with_reducible refine Kd.C_alloc ?_ _) | (with_reducible refine Kd.C_drewN ?_ _) | (with_reducible refine Kd.C_drew ?_))); (case side2 => exact HC0.out); rintro e w38 ⟨v1105, rfl, ho0, hb⟩; refine ⟨_, rfl, ?_⟩; have n0_ := Aside0.mk (Kd.N_lower (Kd.N_mono (ok' := fun k_ => True) (Kd.S_N (Kd.S_bound ho0)) (fun k_ hk_ => trivial)) (below_size bl_)); have n1_ := Aside0.mk (below_step bl_ hb); clear HB; have HO1106 := n0_; have HB := n1_; clear n0_ n1_; (try clear hb); (try clear hb2); (try clear hk); (try clear hi); (try clear ho0); obtain ⟨Ao39, co39, eo39⟩ := Kd.N_slice HO1106.out; subst eo39) | ((with_reducible refine gate_callee (f := 58) rfl ?_); refine goesL_ (some 34) rfl rfl Tryd.func58 (by kernel_rfl) rfl #[.slice A0 l0.length c0] rfl lm_ ?_; (with_reducible refine (spec_DrawPlaces.calls k _ _ l0 t1111 _ ?side1 ?side2 A10.out).mono ?_); (case side1 => repeat (first | exact (Kd.C_below HR0.out HB.out) | exact HR0.out | (with_reducible refine Kd.C_alloc ?_ _) | (with_reducible refine Kd.C_drewN ?_ _) | (with_reducible refine Kd.C_drew ?_))); (case side2 => exact HC0.out); rintro e w40 ⟨v1112, rfl, ho0, hb⟩; refine ⟨_, rfl, ?_⟩; have n0_ := Aside0.mk (Kd.N_elder' (by (with_reducible repeat (first | apply Kd.N_alloc | apply Kd.N_drewN | apply Kd.N_drew)); exact HO1106.out) (Kd.R_base ho0) hb); have n1_ := Aside0.mk (Kd.R_lower ho0 (below_size bl_)); have n2_ := Aside0.mk (below_step bl_ hb); clear HO1106; clear HB; have HO1106 := n0_; have HO1113 := n1_; have HB := n2_; clear n0_ n1_ n2_; (try clear hb); (try clear hb2); (try clear hk); (try clear hi); (try clear ho0); obtain ⟨Ao41, co41, eo41⟩ := Kd.R_slice HO1113.out; subst eo41; have p1114 : 0 ≤ (0 : Int) := (by omega); have q1114 : 0 < (t1111.length : Int) := of_decide_eq_true as_; obtain ⟨ad1114, e1114, hx1114_0⟩ := Kd.at_int (Kd.R_reads' HO1113.out).2.2 0 p1114 q1114; cases e1114; have qi1114 : (0 < t1111.length) = True := eq_true (by omega); (try rw [show ((0 : Int)).toNat = 0 from rfl] at hx1114_0); (try rw [Addr.add_zero'] at hx1114_0); replace p1114 := eq_true p1114; replace q1114 := eq_true q1114))
                     have n0_ := Aside0.mk (Kd.N_drew HO1106.out)
                     have n1_ := Aside0.mk (Kd.R_drew HO1113.out)
                     have n2_ := Aside0.mk (below_drew1 HB.out)
                     clear HO1106
                     clear HO1113
                     clear HB
                     have HO1106 := n0_
                     have HO1113 := n1_
                     have HB := n2_
                     clear n0_ n1_ n2_
                     have q43 : ((ji13) : Int) ≤ ((t1104.length : Int) : Int) := of_decide_eq_true as_
                     obtain ⟨i043, hi043, _, hsz43, _⟩ := info_parts info30
                     have hroom43 : t1104.length ≤ co39 := (Kd.N_reads' HO1106.out).2.1
                     have hC43 : Kd.F k30 _ _ Ao39 t1104.length t1104 := (Kd.V_at (base := w.heap.size) (Kd.N_V HO1106.out)).2.2
                     have hcut43 := cut_to (P := Tryd.prog) 46 30 .i64 Tryd.underlying46 hi043 Ao39 t1104.length co39 (ji13) (of_decide_eq_true as_) q43 hroom43
                     have hr43 := Kd.F_take (m := ((ji13) : Int).toNat) hC43 (by omega)
                     have hy43 : y1118.length = ((ji13) : Int).toNat := (by rw [Ny1118.out, List.length_take]; omega)
                     rw [← Ny1118.out] at hr43
                     rw [← hy43] at hcut43
                     have HO1122 := Aside0.mk (show Kd.V k30 30 _ w.heap.size _ (.slice Ao39 y1118.length co39) y1118 from Kd.V_mk (by omega) hr43)
                     have HC1122 := Aside0.mk (show y1118.length ≤ co39 from by omega)
                     clear hr43 hC43 hroom43 hi043 hsz43
                     have KY43 := Aside0.mk hy43
                     clear hy43
                     replace q43 := eq_true q43
                     have q44 : ((ji17) : Int) ≤ ((t1104.length : Int) : Int) := of_decide_eq_true as_
                     obtain ⟨i044, hi044, _, hsz44, _⟩ := info_parts info30
                     have hroom44 : t1104.length ≤ co39 := (Kd.N_reads' HO1106.out).2.1
                     have hC44 : Kd.F k30 _ _ Ao39 t1104.length t1104 := (Kd.V_at (base := w.heap.size) (Kd.N_V HO1106.out)).2.2
                     have q044 : (0 : Int) ≤ ((ji17) : Int) := of_decide_eq_true as_
                     have hcut44 := cut_from (P := Tryd.prog) 46 30 .i64 Tryd.underlying46 hi044 4 hsz44 Ao39 t1104.length co39 (ji17) q044 q44
                     have hr44 := Kd.F_cut (m := ((ji17) : Int).toNat) (c := co39) hC44 (by omega) hroom44
                     obtain ⟨A44, hA44⟩ : ∃ A1, A1 = (if co39 = ((ji17) : Int).toNat then Ao39 else (Ao39 : Option Addr).map (·.add (((ji17) : Int).toNat * 4))) := ⟨_, rfl⟩
                     obtain ⟨c44, hc44⟩ : ∃ c1, c1 = co39 - ((ji17) : Int).toNat := ⟨_, rfl⟩
                     have hy44 : y1126.length = t1104.length - ((ji17) : Int).toNat := (by rw [Ny1126.out, List.length_drop] <;> omega)
                     rw [show (t1104).drop ((ji17) : Int).toNat = y1126 from Ny1126.out.symm] at hr44
                     replace hr44 : Kd.F k30 _ _ A44 y1126.length y1126 := (by rw [hA44]; exact hr44)
                     rw [← hy44, ← hA44, ← hc44] at hcut44
                     have HO1130 := Aside0.mk (show Kd.V k30 30 _ w.heap.size _ (.slice A44 y1126.length c44) y1126 from Kd.V_mk (by rw [hy44, hc44]; exact Nat.sub_le_sub_right hroom44 _) hr44)
                     have HC1130 := Aside0.mk (show y1126.length ≤ c44 from by rw [hy44, hc44]; exact Nat.sub_le_sub_right hroom44 _)
                     clear hr44 hC44 hroom44 hi044 hsz44 hc44
                     have KY44 := Aside0.mk hy44
                     have KA44 := Aside0.mk hA44
                     clear hy44 hA44
                     replace q44 := eq_true q44
                     refine start_ (n := 11) (S := fun w' => True) (ds := []) #[false, false, false, false, false, false, false, false, false, false, false] (by kernel_rfl) rfl rfl trivial (fun hHeld => ?_); refine with_tabW laws_FnSegmentsBound.tab9 laws_FnSegmentsBound.bits9 (fun HT_ HW_ => ?_)
                     generalize w40.drew = w42 at HO1106 HO1113 HB HO1122 HO1130 hHeld ⊢
                     refine pure_ (i := 1) (N := some 41) (v := ?_) (a' := ?_) #[false, true, false, false, false, false, false, false, false, false, false] rfl rfl (any_of HT_.out (by kernel_rfl)) (fun _ _ _ h => h) (Or.inl ⟨by rfl, ?_⟩) ?_ ?_
                     rotate_left
                     ·intro w'
                      go_simp
                      with_reducible rfl
                     rotate_left
                     ·simp only [Act.put, List.setIfInBounds_toArray, List.set_cons_zero, List.set_cons_succ, i64_w, i32_w]
                      rfl
                     refine pure_ (i := 2) (N := some 42) (v := ?_) (a' := ?_) #[false, true, true, false, false, false, false, false, false, false, false] rfl rfl (any_of HT_.out (by kernel_rfl)) (fun _ _ _ h => h) (Or.inl ⟨by rfl, ?_⟩) ?_ ?_
                     rotate_left
                     ·intro w'
                      go_simp
                      with_reducible rfl
                     rotate_left
                     ·simp only [Act.put, List.setIfInBounds_toArray, List.set_cons_zero, List.set_cons_succ, i64_w, i32_w]
                      rfl
                     refine pure_ (i := 3) (N := some 43) (v := ?_) (a' := ?_) #[false, true, true, true, false, false, false, false, false, false, false] rfl rfl (any_of HT_.out (by kernel_rfl)) (fun _ _ _ h => h) (Or.inl ⟨by rfl, ?_⟩) ?_ ?_
                     rotate_left
                     ·intro w'
                      go_simp
                      with_reducible rfl
                     rotate_left
                     ·simp only [Act.put, List.setIfInBounds_toArray, List.set_cons_zero, List.set_cons_succ, i64_w, i32_w]
                      rfl
                     refine pure_ (i := 5) (N := some 45) (v := ?_) (a' := ?_) #[false, true, true, true, false, true, false, false, false, false, false] rfl rfl (any_of HT_.out (by kernel_rfl)) (fun _ _ _ h => h) (Or.inl ⟨by rfl, ?_⟩) ?_ ?_
                     rotate_left
                     ·intro w'
                      go_simp
                      with_reducible rfl
                     rotate_left
                     ·simp only [Act.put, List.setIfInBounds_toArray, List.set_cons_zero, List.set_cons_succ, i64_w, i32_w]
                      rfl
                     refine pure_ (i := 6) (N := some 46) (v := ?_) (a' := ?_) #[false, true, true, true, false, true, true, false, false, false, false] rfl rfl (any_of HT_.out (by kernel_rfl)) (fun _ _ _ h => h) (Or.inl ⟨by rfl, ?_⟩) ?_ ?_
                     rotate_left
                     ·intro w'
                      go_simp
                      with_reducible rfl
                     rotate_left
                     ·simp only [Act.put, List.setIfInBounds_toArray, List.set_cons_zero, List.set_cons_succ, i64_w, i32_w]
                      rfl
                     refine pure_ (i := 7) (N := some 47) (v := ?_) (a' := ?_) #[false, true, true, true, false, true, true, true, false, false, false] rfl rfl (any_of HT_.out (by kernel_rfl)) (fun _ _ _ h => h) (Or.inl ⟨by rfl, ?_⟩) ?_ ?_
                     rotate_left
                     ·intro w'
                      go_simp
                      with_reducible rfl
                     rotate_left
                     ·simp only [Act.put, List.setIfInBounds_toArray, List.set_cons_zero, List.set_cons_succ, i64_w, i32_w]
                      rfl
                     refine pure_ (i := 8) (N := some 48) (v := ?_) (a' := ?_) #[false, true, true, true, false, true, true, true, true, false, false] rfl rfl (any_of HT_.out (by kernel_rfl)) (fun _ _ _ h => h) (Or.inl ⟨by rfl, ?_⟩) ?_ ?_
                     rotate_left
                     ·intro w'
                      go_simp
                      with_reducible rfl
                     rotate_left
                     ·simp only [Act.put, List.setIfInBounds_toArray, List.set_cons_zero, List.set_cons_succ, i64_w, i32_w]
                      rfl
                     refine one_ (i := 0) (N := some 40) #[true, true, true, true, false, true, true, true, true, false, false] rfl rfl (one_of HT_.out (by kernel_rfl)) (by decide) (fun K hK => ?_)
                     refine Kd.N_lit_step k30 _ 30 ?hg (N' := 40) ?hd (xs := ([] : List (S30))) (inner := []) (ok := (fun k_ => some k_ ≠ (.slice Ao39 t1104.length co39 : Value).ownBlock ∧ some k_ ≠ (.slice (some ad1114) t1111.length co41 : Value).ownBlock)) (okp := (fun k_ => some k_ ≠ (.slice Ao39 t1104.length co39 : Value).ownBlock ∧ some k_ ≠ (.slice (some ad1114) t1111.length co41 : Value).ownBlock)) ?hr ?hp (fun _ hk => hk) ((show ∀ k_, w42.heap.size ≤ k_ → (fun k_ => some k_ ≠ (.slice Ao39 t1104.length co39 : Value).ownBlock ∧ some k_ ≠ (.slice (some ad1114) t1111.length co41 : Value).ownBlock) k_ from fun k_ hk => ⟨Kd.fresh' (Kd.N_lt (by (with_reducible repeat (first | apply Kd.N_alloc | apply Kd.N_drewN | apply Kd.N_drew)); exact HO1106.out)) k_ hk, Kd.fresh' (Kd.R_lt (ra_ HO1113.out)) k_ hk⟩) _ (Nat.le_refl _)) (Below.refl _ _) (Nat.le_refl _) (by simp) ?_; (case hd => rfl); (case hg => rfl); (case hr => first | (go_simp; done) | (go_simp; rfl)); (case hp => exact (Reps.none _ _))
                     intro v1116 w45 ho46 hb hg_ hnew_
                     clear hg_ hnew_
                     (first | rw [← Ny1115.out] at ho46 | (simp only [Int.reduceToNat] at ho46; rw [← Ny1115.out] at ho46))
                     have n0_ := Aside0.mk (Kd.N_elder' (by (with_reducible repeat (first | apply Kd.N_alloc | apply Kd.N_drewN | apply Kd.N_drew)); exact HO1106.out) (Kd.N_base ho46) hb)
                     have n1_ := Aside0.mk (Kd.R_below (ra_ HO1113.out) hb)
                     have n2_ := Aside0.mk (Kd.V_elder' (by (with_reducible repeat (first | apply Kd.V_alloc | apply Kd.V_drewN | apply Kd.V_drew)); exact HO1122.out) (Kd.N_base ho46) hb)
                     have n3_ := Aside0.mk (Kd.V_elder' (by (with_reducible repeat (first | apply Kd.V_alloc | apply Kd.V_drewN | apply Kd.V_drew)); exact HO1130.out) (Kd.N_base ho46) hb)
                     have n4_ := Aside0.mk (Kd.N_lower ho46 (below_size bl_))
                     have n5_ := Aside0.mk (below_step bl_ hb)
                     clear HO1106
                     clear HO1113
                     clear HO1122
                     clear HO1130
                     clear HB
                     have HO1106 := n0_
                     have HO1113 := n1_
                     have HO1122 := n2_
                     have HO1130 := n3_
                     have HO1117 := n4_
                     have HB := n5_
                     clear n0_ n1_ n2_ n3_ n4_ n5_
                     clear hb ho46
                     refine hK.out _ _ trivial (fun hHeld => ?_)
                     clear hK K
                     refine norm_ (a' := ?_) ?_ ?_
                     rotate_left
                     ·show Act.put _ (some 40) _ = _
                      simp only [Act.put, List.setIfInBounds_toArray, List.set_cons_zero, List.set_cons_succ, i64_w, i32_w]
                      rfl
                     refine one_ (i := 4) (N := some 44) #[true, true, true, true, true, true, true, true, true, false, false] rfl rfl (one_of HT_.out (by kernel_rfl)) (by decide) (fun K hK => ?_)
                     refine Kd.N_append_rows_step k30 (w0 := w) w.heap.size (by rfl) (.tmp 40) (.tmp 43) 46 30 (.agg #[(.int .i64 0), (.string ⟨#[]⟩), (.slice none 0 0), (.string ⟨#[]⟩)]) 64 rfl Tryd.underlying46 info30 rfl (by decide) (by omega) v1116 y1115 y1118 _ _ _ (fun k_ => some k_ ≠ (.slice (some ad1114) t1111.length co41 : Value).ownBlock) (fun k_ => ((fun k_ => some k_ ≠ (.slice (some ad1114) t1111.length co41 : Value).ownBlock)) k_ ∧ some k_ ≠ (v1116 : Value).ownBlock) rfl rfl ?aO ?aR (fun _ hk => hk) ?aF ?aB ?aS ?aL ?_
                     (case aR => exact (by skip; exact Kd.V_F (Kd.V_mono (ok' := (fun k_ => ((fun k_ => some k_ ≠ (.slice (some ad1114) t1111.length co41 : Value).ownBlock)) k_ ∧ some k_ ≠ (v1116 : Value).ownBlock)) (HO1122.out) (fun k_ hk => ⟨hk.1.2, hk.2⟩))))
                     (case aB => exact bl_)
                     (case aF => exact (fun k_ hk => Kd.fresh' (Kd.R_lt (ra_ HO1113.out)) k_ hk))
                     (case aO => exact (by (with_reducible repeat (first | apply Kd.N_alloc | apply Kd.N_drewN | apply Kd.N_drew)); exact Kd.N_mono HO1117.out (fun _ hk => hk.2)))
                     (case aS => exact (below_size bl_))
                     (case aL => have := LMc16.out; omega)
                     intro v1124 w47 ho hb hg hat
                     rw [← Ny1123.out] at ho
                     have n0_ := Aside0.mk (Kd.N_afterv (ok := (fun k_ => some k_ ≠ (.slice (some ad1114) t1111.length co41 : Value).ownBlock)) (by (with_reducible repeat (first | apply Kd.N_alloc | apply Kd.N_drewN | apply Kd.N_drew)); exact Kd.N_mono HO1106.out (fun _ hk => ⟨hk.1.2, hk.2⟩)) hg hat)
                     have n1_ := Aside0.mk (Kd.R_over' (ra_ HO1113.out) (Kd.N_typed (by (with_reducible repeat (first | apply Kd.N_alloc | apply Kd.N_drewN | apply Kd.N_drew)); exact HO1117.out)) (by decide) hg)
                     have n2_ := Aside0.mk (Kd.V_afterv (ok := (fun k_ => some k_ ≠ (.slice (some ad1114) t1111.length co41 : Value).ownBlock)) (by (with_reducible repeat (first | apply Kd.V_alloc | apply Kd.V_drewN | apply Kd.V_drew)); exact Kd.V_mono HO1122.out (fun _ hk => ⟨hk.1.2, hk.2⟩)) hg hat)
                     have n3_ := Aside0.mk (Kd.V_afterv (ok := (fun k_ => some k_ ≠ (.slice (some ad1114) t1111.length co41 : Value).ownBlock)) (by (with_reducible repeat (first | apply Kd.V_alloc | apply Kd.V_drewN | apply Kd.V_drew)); exact Kd.V_mono HO1130.out (fun _ hk => ⟨hk.1.2, hk.2⟩)) hg hat)
                     have n4_ := Aside0.mk (hb)
                     have n5_ := Aside0.mk (ho)
                     clear HO1106
                     clear HO1113
                     clear HO1122
                     clear HO1130
                     clear HB
                     clear HO1117
                     have HO1106 := n0_
                     have HO1113 := n1_
                     have HO1122 := n2_
                     have HO1130 := n3_
                     have HB := n4_
                     have HO1125 := n5_
                     clear n0_ n1_ n2_ n3_ n4_ n5_
                     clear ho hb hg hat
                     refine hK.out _ _ trivial (fun hHeld => ?_)
                     clear hK K
                     refine norm_ (a' := ?_) ?_ ?_
                     rotate_left
                     ·show Act.put _ (some 44) _ = _
                      simp only [Act.put, List.setIfInBounds_toArray, List.set_cons_zero, List.set_cons_succ, i64_w, i32_w]
                      rfl
                     refine one_ (i := 9) (N := some 49) #[true, true, true, true, true, true, true, true, true, true, false] rfl rfl (one_of HT_.out (by kernel_rfl)) (by decide) (fun K hK => ?_)
                     refine Kd.N_append_rows_step k30 (w0 := w) w.heap.size (by rfl) (.tmp 44) (.tmp 48) 46 30 (.agg #[(.int .i64 0), (.string ⟨#[]⟩), (.slice none 0 0), (.string ⟨#[]⟩)]) 64 rfl Tryd.underlying46 info30 rfl (by decide) (by omega) v1124 y1123 y1126 _ _ _ (fun k_ => some k_ ≠ (.slice (some ad1114) t1111.length co41 : Value).ownBlock) (fun k_ => ((fun k_ => some k_ ≠ (.slice (some ad1114) t1111.length co41 : Value).ownBlock)) k_ ∧ some k_ ≠ (v1124 : Value).ownBlock) rfl rfl ?aO ?aR (fun _ hk => hk) ?aF ?aB ?aS ?aL ?_
                     (case aR => exact (by skip; exact Kd.V_F (Kd.V_mono (ok' := (fun k_ => ((fun k_ => some k_ ≠ (.slice (some ad1114) t1111.length co41 : Value).ownBlock)) k_ ∧ some k_ ≠ (v1124 : Value).ownBlock)) (HO1130.out) (fun k_ hk => ⟨hk.1, hk.2⟩))))
                     (case aB => exact bl_)
                     (case aF => exact (fun k_ hk => Kd.fresh' (Kd.R_lt (ra_ HO1113.out)) k_ hk))
                     (case aO => exact (by (with_reducible repeat (first | apply Kd.N_alloc | apply Kd.N_drewN | apply Kd.N_drew)); exact HO1125.out))
                     (case aS => exact (below_size bl_))
                     (case aL => have := LMc20.out; omega)
                     intro v1132 w48 ho hb hg hat
                     rw [← Ny1131.out] at ho
                     have n0_ := Aside0.mk (Kd.N_afterv (ok := (fun k_ => some k_ ≠ (.slice (some ad1114) t1111.length co41 : Value).ownBlock)) (by (with_reducible repeat (first | apply Kd.N_alloc | apply Kd.N_drewN | apply Kd.N_drew)); exact HO1106.out) hg hat)
                     have n1_ := Aside0.mk (Kd.R_over' (ra_ HO1113.out) (Kd.N_typed (by (with_reducible repeat (first | apply Kd.N_alloc | apply Kd.N_drewN | apply Kd.N_drew)); exact HO1125.out)) (by decide) hg)
                     have n2_ := Aside0.mk (Kd.V_afterv (ok := (fun k_ => some k_ ≠ (.slice (some ad1114) t1111.length co41 : Value).ownBlock)) (by (with_reducible repeat (first | apply Kd.V_alloc | apply Kd.V_drewN | apply Kd.V_drew)); exact HO1122.out) hg hat)
                     have n3_ := Aside0.mk (Kd.V_afterv (ok := (fun k_ => some k_ ≠ (.slice (some ad1114) t1111.length co41 : Value).ownBlock)) (by (with_reducible repeat (first | apply Kd.V_alloc | apply Kd.V_drewN | apply Kd.V_drew)); exact HO1130.out) hg hat)
                     have n4_ := Aside0.mk (hb)
                     have n5_ := Aside0.mk (ho)
                     clear HO1106
                     clear HO1113
                     clear HO1122
                     clear HO1130
                     clear HB
                     clear HO1125
                     have HO1106 := n0_
                     have HO1113 := n1_
                     have HO1122 := n2_
                     have HO1130 := n3_
                     have HB := n4_
                     have HO1133 := n5_
                     clear n0_ n1_ n2_ n3_ n4_ n5_
                     clear ho hb hg hat
                     refine hK.out _ _ trivial (fun hHeld => ?_)
                     clear hK K
                     refine norm_ (a' := ?_) ?_ ?_
                     rotate_left
                     ·show Act.put _ (some 49) _ = _
                      simp only [Act.put, List.setIfInBounds_toArray, List.set_cons_zero, List.set_cons_succ, i64_w, i32_w]
                      rfl
                     refine pure_ (i := 10) (N := some 8) (v := ?_) (a' := ?_) #[true, true, true, true, true, true, true, true, true, true, true] rfl rfl (any_of HT_.out (by kernel_rfl)) (fun _ _ _ h => h) (Or.inl ⟨by rfl, ?_⟩) ?_ ?_
                     rotate_left
                     ·intro w'
                      go_simp
                      with_reducible rfl
                     rotate_left
                     ·simp only [Act.put, List.setIfInBounds_toArray, List.set_cons_zero, List.set_cons_succ, i64_w, i32_w]
                      rfl
                     refine done_ (done_of HT_.out (by kernel_rfl)) ?_
                     try go_wp2_with (first | ((with_reducible refine gate_dst (N := 50) rfl ?_); (try (refine gate_guard (by rfl) ?_; dsimp only)); refine Kd.N_lit k30 _ 30 ?hg (N' := 50) ?hd (xs := ([] : List (S30))) (inner := []) (ok := (fun k_ => some k_ ≠ (.slice Ao39 t1104.length co39 : Value).ownBlock ∧ some k_ ≠ (.slice (some ad1114) t1111.length co41 : Value).ownBlock ∧ some k_ ≠ (v1132 : Value).ownBlock)) (okp := (fun k_ => some k_ ≠ (.slice Ao39 t1104.length co39 : Value).ownBlock ∧ some k_ ≠ (.slice (some ad1114) t1111.length co41 : Value).ownBlock ∧ some k_ ≠ (v1132 : Value).ownBlock)) ?hr ?hp (fun _ hk => hk) ((show ∀ k_, w48.heap.size ≤ k_ → (fun k_ => some k_ ≠ (.slice Ao39 t1104.length co39 : Value).ownBlock ∧ some k_ ≠ (.slice (some ad1114) t1111.length co41 : Value).ownBlock ∧ some k_ ≠ (v1132 : Value).ownBlock) k_ from fun k_ hk => ⟨Kd.fresh' (Kd.N_lt (by (with_reducible repeat (first | apply Kd.N_alloc | apply Kd.N_drewN | apply Kd.N_drew)); exact HO1106.out)) k_ hk, Kd.fresh' (Kd.R_lt (ra_ HO1113.out)) k_ hk, Kd.fresh' (Kd.N_lt (by (with_reducible repeat (first | apply Kd.N_alloc | apply Kd.N_drewN | apply Kd.N_drew)); exact HO1133.out)) k_ hk⟩) _ (Nat.le_refl _)) (Below.refl _ _) (Nat.le_refl _) (by simp) ?_; (case hd => rfl); (case hg => rfl); (case hr => first | (go_simp; done) | (go_simp; rfl)); (case hp => exact (Reps.none _ _)); intro v1135 w49 ho50 hb hg_ hnew_; clear hg_ hnew_; (first | rw [← Ny1134.out] at ho50 | (simp only [Int.reduceToNat] at ho50; rw [← Ny1134.out] at ho50)); have n0_ := Aside0.mk (Kd.N_elder' (by (with_reducible repeat (first | apply Kd.N_alloc | apply Kd.N_drewN | apply Kd.N_drew)); exact HO1106.out) (Kd.N_base ho50) hb); have n1_ := Aside0.mk (Kd.R_below (ra_ HO1113.out) hb); have n2_ := Aside0.mk (Kd.V_elder' (by (with_reducible repeat (first | apply Kd.V_alloc | apply Kd.V_drewN | apply Kd.V_drew)); exact HO1122.out) (Kd.N_base ho50) hb); have n3_ := Aside0.mk (Kd.V_elder' (by (with_reducible repeat (first | apply Kd.V_alloc | apply Kd.V_drewN | apply Kd.V_drew)); exact HO1130.out) (Kd.N_base ho50) hb); have n4_ := Aside0.mk (Kd.N_elder' (by (with_reducible repeat (first | apply Kd.N_alloc | apply Kd.N_drewN | apply Kd.N_drew)); exact HO1133.out) (Kd.N_base ho50) hb); have n5_ := Aside0.mk (Kd.N_lower ho50 (below_size bl_)); have n6_ := Aside0.mk (below_step bl_ hb); clear HO1106; clear HO1113; clear HO1122; clear HO1130; clear HO1133; clear HB; have HO1106 := n0_; have HO1113 := n1_; have HO1122 := n2_; have HO1130 := n3_; have HO1133 := n4_; have HO1136 := n5_; have HB := n6_; clear n0_ n1_ n2_ n3_ n4_ n5_ n6_; clear hb ho50) | ((with_reducible refine gate_builtin (b := .append) (xs := #[.tmp 50, .tmp 51]) rfl ?_); (try (refine gate_guard (by rfl) ?_; dsimp only)); at_builtin; refine Kd.N_append_rows k30 (w0 := w) w.heap.size rfl (.tmp 50) (.tmp 51) 46 30 (.agg #[(.int .i64 0), (.string ⟨#[]⟩), (.slice none 0 0), (.string ⟨#[]⟩)]) 64 rfl Tryd.underlying46 info30 rfl (by decide) (by omega) v1135 y1134 t1104 _ _ _ (fun k_ => some k_ ≠ (.slice (some ad1114) t1111.length co41 : Value).ownBlock ∧ some k_ ≠ (v1132 : Value).ownBlock) (fun k_ => ((fun k_ => some k_ ≠ (.slice (some ad1114) t1111.length co41 : Value).ownBlock ∧ some k_ ≠ (v1132 : Value).ownBlock)) k_ ∧ some k_ ≠ (v1135 : Value).ownBlock) rfl rfl ?aO ?aR (fun _ hk => hk) ?aF ?aB ?aS ?aL ?_; (case aR => exact (by skip; exact Kd.N_F (Kd.N_mono (ok' := (fun k_ => ((fun k_ => some k_ ≠ (.slice (some ad1114) t1111.length co41 : Value).ownBlock ∧ some k_ ≠ (v1132 : Value).ownBlock)) k_ ∧ some k_ ≠ (v1135 : Value).ownBlock)) (HO1106.out) (fun k_ hk => ⟨⟨hk.1.1, hk.1.2⟩, hk.2⟩)))); (case aB => exact bl_); (case aF => exact (fun k_ hk => ⟨Kd.fresh' (Kd.R_lt (ra_ HO1113.out)) k_ hk, Kd.fresh' (Kd.N_lt (by (with_reducible repeat (first | apply Kd.N_alloc | apply Kd.N_drewN | apply Kd.N_drew)); exact HO1133.out)) k_ hk⟩)); (case aO => exact (by (with_reducible repeat (first | apply Kd.N_alloc | apply Kd.N_drewN | apply Kd.N_drew)); exact Kd.N_mono HO1136.out (fun _ hk => ⟨hk.2.1, hk.2.2⟩))); (case aS => exact (below_size bl_)); (case aL => have := LMc21.out; omega); intro v1138 w51 ho hb hg hat; rw [← Ny1137.out] at ho; have n0_ := Aside0.mk (Kd.N_afterv (ok := (fun k_ => some k_ ≠ (.slice (some ad1114) t1111.length co41 : Value).ownBlock ∧ some k_ ≠ (v1132 : Value).ownBlock)) (by (with_reducible repeat (first | apply Kd.N_alloc | apply Kd.N_drewN | apply Kd.N_drew)); exact HO1106.out) hg hat); have n1_ := Aside0.mk (Kd.R_over' (ra_ HO1113.out) (Kd.N_typed (by (with_reducible repeat (first | apply Kd.N_alloc | apply Kd.N_drewN | apply Kd.N_drew)); exact HO1136.out)) (by decide) hg); have n2_ := Aside0.mk (Kd.V_afterv (ok := (fun k_ => some k_ ≠ (.slice (some ad1114) t1111.length co41 : Value).ownBlock ∧ some k_ ≠ (v1132 : Value).ownBlock)) (by (with_reducible repeat (first | apply Kd.V_alloc | apply Kd.V_drewN | apply Kd.V_drew)); exact HO1122.out) hg hat); have n3_ := Aside0.mk (Kd.V_afterv (ok := (fun k_ => some k_ ≠ (.slice (some ad1114) t1111.length co41 : Value).ownBlock ∧ some k_ ≠ (v1132 : Value).ownBlock)) (by (with_reducible repeat (first | apply Kd.V_alloc | apply Kd.V_drewN | apply Kd.V_drew)); exact HO1130.out) hg hat); have n4_ := Aside0.mk (Kd.N_afterv (ok := (fun k_ => some k_ ≠ (.slice (some ad1114) t1111.length co41 : Value).ownBlock)) (by (with_reducible repeat (first | apply Kd.N_alloc | apply Kd.N_drewN | apply Kd.N_drew)); exact HO1133.out) hg hat); have n5_ := Aside0.mk (hb); have n6_ := Aside0.mk (ho); clear HO1106; clear HO1113; clear HO1122; clear HO1130; clear HO1133; clear HB; clear HO1136; have HO1106 := n0_; have HO1113 := n1_; have HO1122 := n2_; have HO1130 := n3_; have HO1133 := n4_; have HB := n5_; have HO1139 := n6_; clear n0_ n1_ n2_ n3_ n4_ n5_ n6_; clear ho hb hg hat; obtain ⟨Ao52, co52, eo52⟩ := Kd.N_slice HO1139.out; subst eo52; have p1140 : 0 ≤ ((ji13) : Int) := of_decide_eq_true as_; have q1140 : (ji13) < (y1137.length : Int) := of_decide_eq_true as_; obtain ⟨ad1140, A1140_2, c1140_2, e1140, hx1140_0, hx1140_1, hx1140_2, hx1140_3, hl1140_2, hi1140_2⟩ := at_T30 (Kd.N_reads' HO1139.out).2.2 (ji13) p1140 q1140; cases e1140; obtain ⟨ce1140, hce1140, hMe1140, hcc1140⟩ := Kd.N_get HO1139.out z30 (ji13) p1140 (by first | exact q1140 | exact of_decide_eq_true as_ | (have e_ := (Kd.N_reads' HO1139.out).1; omega)); obtain ⟨ua1140_2, uc1140_2, rfl, ul1140_2, ge1140_2⟩ := k30_openF hMe1140; have hv1140_2 := hcc1140 2 _ rfl; rw [add_field _ _ 2 (by omega)] at hv1140_2; replace hv1140_2 := Option.some.inj (hv1140_2.symm.trans hx1140_2); injection hv1140_2 with hva_ hvn_ hvc_; rw [hva_] at ge1140_2; rw [hvc_] at ul1140_2; have HL1140_2 := Aside0.mk (show Kd.V k70 70 _ w.heap.size _ _ ((rd_T30 y1137 (ji13)).f2) from Kd.V_mk ul1140_2 ge1140_2); clear hva_ hvn_ hvc_ ge1140_2 ul1140_2; clear hcc1140 hce1140; have HR1140_2 := Aside0.mk hi1140_2; have HC1140_2 := Aside0.mk hl1140_2; clear hi1140_2 hl1140_2; replace p1140 := eq_true p1140; replace q1140 := eq_true q1140) | ((with_reducible refine gate_dst (N := 10) rfl ?_); (try (refine gate_guard (by rfl) ?_; dsimp only)); refine box_event ?hg (N := 10) ?hd (cs := #[.int .i64 0, .string (⟨#[]⟩ : ByteArray), .slice none 0 0, .string (⟨#[]⟩ : ByteArray)]) (t := 30) ?hr ?_; (case hd => rfl); (case hg => rfl); (case hr => first | (go_simp; done) | (go_simp; rfl)); intro gb1141 hg w53 hbox hb; have n0_ := Aside0.mk (Kd.N_below (Kd.N_elderB (by (with_reducible repeat (first | apply Kd.N_alloc | apply Kd.N_drewN | apply Kd.N_drew)); exact HO1106.out) gb1141 (Nat.le_of_eq hg.symm)) hb); have n1_ := Aside0.mk (Kd.R_below (ra_ HO1113.out) hb); have n2_ := Aside0.mk (Kd.V_below (Kd.V_elderB (by (with_reducible repeat (first | apply Kd.V_alloc | apply Kd.V_drewN | apply Kd.V_drew)); exact HO1122.out) gb1141 (Nat.le_of_eq hg.symm)) hb); have n3_ := Aside0.mk (Kd.V_below (Kd.V_elderB (by (with_reducible repeat (first | apply Kd.V_alloc | apply Kd.V_drewN | apply Kd.V_drew)); exact HO1130.out) gb1141 (Nat.le_of_eq hg.symm)) hb); have n4_ := Aside0.mk (Kd.N_below (Kd.N_elderB (by (with_reducible repeat (first | apply Kd.N_alloc | apply Kd.N_drewN | apply Kd.N_drew)); exact HO1133.out) gb1141 (Nat.le_of_eq hg.symm)) hb); have n5_ := Aside0.mk (Kd.N_below (Kd.N_elderB (by (with_reducible repeat (first | apply Kd.N_alloc | apply Kd.N_drewN | apply Kd.N_drew)); exact HO1139.out) gb1141 (Nat.le_of_eq hg.symm)) hb); have n6_ := Aside0.mk (Kd.V_below (Kd.V_elderB (by (with_reducible repeat (first | apply Kd.V_alloc | apply Kd.V_drewN | apply Kd.V_drew)); exact HL1140_2.out) gb1141 (Nat.le_of_eq hg.symm)) hb); have n7_ := Aside0.mk (Kd.C_below (by repeat (first | (with_reducible exact HR1140_2.out) | (with_reducible refine Kd.C_alloc ?_ _) | (with_reducible refine Kd.C_drewN ?_ _) | (with_reducible refine Kd.C_drew ?_) | exact HR1140_2.out)) hb); have n8_ := Aside0.mk (below_step bl_ hb); have n9_ := Aside0.mk (hbox); have n10_ := Aside0.mk ((hz_ : w.heap.size ≤ gb1141)); have n11_ := Aside0.mk ((hz_ : w.heap.size ≤ gb1141)); clear HO1106; clear HO1113; clear HO1122; clear HO1130; clear HO1133; clear HO1139; clear HL1140_2; clear HR1140_2; clear HB; have HO1106 := n0_; have HO1113 := n1_; have HO1122 := n2_; have HO1130 := n3_; have HO1133 := n4_; have HO1139 := n5_; have HL1140_2 := n6_; have HR1140_2 := n7_; have HB := n8_; have BK1141 := n9_; have GW1141 := n10_; have GE1141 := n11_; clear n0_ n1_ n2_ n3_ n4_ n5_ n6_ n7_ n8_ n9_ n10_ n11_; clear hb hbox hg; have hcz54_0 : w53.cell? ⟨gb1141, 0, none⟩ = some (.int .i64 0) := (blk_cell BK1141.out 0).trans rfl; have hcz54_1 : w53.cell? ⟨gb1141, 1, none⟩ = some (.string (⟨#[]⟩ : ByteArray)) := (blk_cell BK1141.out 1).trans rfl; have hcz54_2 : w53.cell? ⟨gb1141, 2, none⟩ = some (.slice none 0 0) := (blk_cell BK1141.out 2).trans rfl; have hcz54_3 : w53.cell? ⟨gb1141, 3, none⟩ = some (.string (⟨#[]⟩ : ByteArray)) := (blk_cell BK1141.out 3).trans rfl; have hfz54_0 := blk_frozen BK1141.out 0; have hfz54_1 := blk_frozen BK1141.out 1; have hfz54_2 := blk_frozen BK1141.out 2; have hfz54_3 := blk_frozen BK1141.out 3) | ((with_reducible refine gate_store (t := 30) (p := 10) rfl ?_); refine store_event (t := 30) (p := 10) (v := ?vo_w55) (w1 := ((((w53.setCell ⟨gb1141, 0, none⟩ (.int .i64 ((rd_T30 y1137 (ji13)).f0))).setCell ⟨gb1141, 1, none⟩ (.string ((rd_T30 y1137 (ji13)).f1))).setCell ⟨gb1141, 2, none⟩ (.slice A1140_2 ((rd_T30 y1137 (ji13)).f2).length c1140_2)).setCell ⟨gb1141, 3, none⟩ (.string ((rd_T30 y1137 (ji13)).f3)))) ?hg ?ho ?hn ?hr ?_; (case ho => rfl); (case hg => rfl); (case hn => rfl); (case hr => first | (go_simp; done) | (go_simp; rfl)); intro w55 hw; have n0_ : Aside0 (Kd.N k30 30 w55 w.heap.size (fun k_ => some k_ ≠ (.slice (some ad1114) t1111.length co41 : Value).ownBlock ∧ some k_ ≠ (v1132 : Value).ownBlock ∧ some k_ ≠ (.slice (some ad1140) y1137.length co52 : Value).ownBlock ∧ k_ ≠ gb1141) (.slice Ao39 t1104.length co39) t1104) := ⟨(by rw [hw]; exact (by (with_reducible repeat (first | apply Kd.N_alloc | apply Kd.N_drewN | apply Kd.N_drew)); exact Kd.N_mono (Kd.N_far (p := ⟨gb1141, 3, none⟩) (Kd.N_far (p := ⟨gb1141, 2, none⟩) (Kd.N_far (p := ⟨gb1141, 1, none⟩) (Kd.N_far (p := ⟨gb1141, 0, none⟩) (Kd.N_mono HO1106.out (fun k_ hk => (⟨hk, hk.2⟩ : _ ∧ k_ ≠ gb1141))) (fun _ hk => hk.2) (.int .i64 ((rd_T30 y1137 (ji13)).f0))) (fun _ hk => hk.2) (.string ((rd_T30 y1137 (ji13)).f1))) (fun _ hk => hk.2) (.slice A1140_2 ((rd_T30 y1137 (ji13)).f2).length c1140_2)) (fun _ hk => hk.2) (.string ((rd_T30 y1137 (ji13)).f3))) (fun _ hk => ⟨hk.1.1.1.1, ⟨hk.1.1.1.2, ⟨hk.1.1.2, hk.1.2⟩⟩⟩)))⟩; have n1_ : Aside0 (Kd.R (Kd.int .i64) 3 w55 w.heap.size (fun _ => True) (.slice (some ad1114) t1111.length co41) t1111) := ⟨(by rw [hw]; exact (by (with_reducible repeat (first | apply Kd.R_alloc | apply Kd.R_drewN | apply Kd.R_drew)); exact Kd.R_mono (Kd.R_far (p := ⟨gb1141, 3, none⟩) (Kd.R_far (p := ⟨gb1141, 2, none⟩) (Kd.R_far (p := ⟨gb1141, 1, none⟩) (Kd.R_far (p := ⟨gb1141, 0, none⟩) (Kd.R_types HO1113.out BK1141.out (by decide)) (fun _ hk => hk.2) (.int .i64 ((rd_T30 y1137 (ji13)).f0))) (fun _ hk => hk.2) (.string ((rd_T30 y1137 (ji13)).f1))) (fun _ hk => hk.2) (.slice A1140_2 ((rd_T30 y1137 (ji13)).f2).length c1140_2)) (fun _ hk => hk.2) (.string ((rd_T30 y1137 (ji13)).f3))) (fun _ hk => trivial)))⟩; have n2_ : Aside0 (Kd.V k30 30 w55 w.heap.size (fun k_ => some k_ ≠ (.slice (some ad1114) t1111.length co41 : Value).ownBlock ∧ some k_ ≠ (v1132 : Value).ownBlock ∧ some k_ ≠ (.slice (some ad1140) y1137.length co52 : Value).ownBlock ∧ k_ ≠ gb1141) (.slice Ao39 y1118.length co39) y1118) := ⟨(by rw [hw]; exact (by (with_reducible repeat (first | apply Kd.V_alloc | apply Kd.V_drewN | apply Kd.V_drew)); exact Kd.V_mono (Kd.V_far (p := ⟨gb1141, 3, none⟩) (Kd.V_far (p := ⟨gb1141, 2, none⟩) (Kd.V_far (p := ⟨gb1141, 1, none⟩) (Kd.V_far (p := ⟨gb1141, 0, none⟩) (Kd.V_mono HO1122.out (fun k_ hk => (⟨hk, hk.2⟩ : _ ∧ k_ ≠ gb1141))) (fun _ hk => hk.2) (.int .i64 ((rd_T30 y1137 (ji13)).f0))) (fun _ hk => hk.2) (.string ((rd_T30 y1137 (ji13)).f1))) (fun _ hk => hk.2) (.slice A1140_2 ((rd_T30 y1137 (ji13)).f2).length c1140_2)) (fun _ hk => hk.2) (.string ((rd_T30 y1137 (ji13)).f3))) (fun _ hk => ⟨hk.1.1.1.1, ⟨hk.1.1.1.2, ⟨hk.1.1.2, hk.1.2⟩⟩⟩)))⟩; have n3_ : Aside0 (Kd.V k30 30 w55 w.heap.size (fun k_ => some k_ ≠ (.slice (some ad1114) t1111.length co41 : Value).ownBlock ∧ some k_ ≠ (v1132 : Value).ownBlock ∧ some k_ ≠ (.slice (some ad1140) y1137.length co52 : Value).ownBlock ∧ k_ ≠ gb1141) (.slice A44 y1126.length c44) y1126) := ⟨(by rw [hw]; exact (by (with_reducible repeat (first | apply Kd.V_alloc | apply Kd.V_drewN | apply Kd.V_drew)); exact Kd.V_mono (Kd.V_far (p := ⟨gb1141, 3, none⟩) (Kd.V_far (p := ⟨gb1141, 2, none⟩) (Kd.V_far (p := ⟨gb1141, 1, none⟩) (Kd.V_far (p := ⟨gb1141, 0, none⟩) (Kd.V_mono HO1130.out (fun k_ hk => (⟨hk, hk.2⟩ : _ ∧ k_ ≠ gb1141))) (fun _ hk => hk.2) (.int .i64 ((rd_T30 y1137 (ji13)).f0))) (fun _ hk => hk.2) (.string ((rd_T30 y1137 (ji13)).f1))) (fun _ hk => hk.2) (.slice A1140_2 ((rd_T30 y1137 (ji13)).f2).length c1140_2)) (fun _ hk => hk.2) (.string ((rd_T30 y1137 (ji13)).f3))) (fun _ hk => ⟨hk.1.1.1.1, ⟨hk.1.1.1.2, ⟨hk.1.1.2, hk.1.2⟩⟩⟩)))⟩; have n4_ : Aside0 (Kd.N k30 30 w55 w.heap.size (fun k_ => some k_ ≠ (.slice (some ad1114) t1111.length co41 : Value).ownBlock ∧ some k_ ≠ (.slice (some ad1140) y1137.length co52 : Value).ownBlock ∧ k_ ≠ gb1141) v1132 y1131) := ⟨(by rw [hw]; exact (by (with_reducible repeat (first | apply Kd.N_alloc | apply Kd.N_drewN | apply Kd.N_drew)); exact Kd.N_mono (Kd.N_far (p := ⟨gb1141, 3, none⟩) (Kd.N_far (p := ⟨gb1141, 2, none⟩) (Kd.N_far (p := ⟨gb1141, 1, none⟩) (Kd.N_far (p := ⟨gb1141, 0, none⟩) (Kd.N_mono HO1133.out (fun k_ hk => (⟨hk, hk.2⟩ : _ ∧ k_ ≠ gb1141))) (fun _ hk => hk.2) (.int .i64 ((rd_T30 y1137 (ji13)).f0))) (fun _ hk => hk.2) (.string ((rd_T30 y1137 (ji13)).f1))) (fun _ hk => hk.2) (.slice A1140_2 ((rd_T30 y1137 (ji13)).f2).length c1140_2)) (fun _ hk => hk.2) (.string ((rd_T30 y1137 (ji13)).f3))) (fun _ hk => ⟨hk.1.1.1, ⟨hk.1.1.2, hk.1.2⟩⟩)))⟩; have n5_ : Aside0 (Kd.N k30 30 w55 w.heap.size (fun k_ => some k_ ≠ (.slice (some ad1114) t1111.length co41 : Value).ownBlock ∧ some k_ ≠ (v1132 : Value).ownBlock ∧ k_ ≠ gb1141) (.slice (some ad1140) y1137.length co52) y1137) := ⟨(by rw [hw]; exact (by (with_reducible repeat (first | apply Kd.N_alloc | apply Kd.N_drewN | apply Kd.N_drew)); exact Kd.N_mono (Kd.N_far (p := ⟨gb1141, 3, none⟩) (Kd.N_far (p := ⟨gb1141, 2, none⟩) (Kd.N_far (p := ⟨gb1141, 1, none⟩) (Kd.N_far (p := ⟨gb1141, 0, none⟩) (Kd.N_mono HO1139.out (fun k_ hk => (⟨hk, hk.2⟩ : _ ∧ k_ ≠ gb1141))) (fun _ hk => hk.2) (.int .i64 ((rd_T30 y1137 (ji13)).f0))) (fun _ hk => hk.2) (.string ((rd_T30 y1137 (ji13)).f1))) (fun _ hk => hk.2) (.slice A1140_2 ((rd_T30 y1137 (ji13)).f2).length c1140_2)) (fun _ hk => hk.2) (.string ((rd_T30 y1137 (ji13)).f3))) (fun _ hk => ⟨hk.1.1.1, ⟨hk.1.1.2, hk.1.2⟩⟩)))⟩; have n6_ : Aside0 (Kd.V k70 70 w55 w.heap.size (fun k_ => some k_ ≠ (.slice (some ad1114) t1111.length co41 : Value).ownBlock ∧ some k_ ≠ (v1132 : Value).ownBlock ∧ some k_ ≠ (.slice (some ad1140) y1137.length co52 : Value).ownBlock ∧ k_ ≠ gb1141) (.slice A1140_2 ((rd_T30 y1137 (ji13)).f2).length c1140_2) ((rd_T30 y1137 (ji13)).f2)) := ⟨(by rw [hw]; exact (by (with_reducible repeat (first | apply Kd.V_alloc | apply Kd.V_drewN | apply Kd.V_drew)); exact Kd.V_mono (Kd.V_far (p := ⟨gb1141, 3, none⟩) (Kd.V_far (p := ⟨gb1141, 2, none⟩) (Kd.V_far (p := ⟨gb1141, 1, none⟩) (Kd.V_far (p := ⟨gb1141, 0, none⟩) (Kd.V_mono HL1140_2.out (fun k_ hk => (⟨hk, hk.2⟩ : _ ∧ k_ ≠ gb1141))) (fun _ hk => hk.2) (.int .i64 ((rd_T30 y1137 (ji13)).f0))) (fun _ hk => hk.2) (.string ((rd_T30 y1137 (ji13)).f1))) (fun _ hk => hk.2) (.slice A1140_2 ((rd_T30 y1137 (ji13)).f2).length c1140_2)) (fun _ hk => hk.2) (.string ((rd_T30 y1137 (ji13)).f3))) (fun _ hk => ⟨hk.1.1.1.1, ⟨hk.1.1.1.2, ⟨hk.1.1.2, hk.1.2⟩⟩⟩)))⟩; have n7_ : Aside0 (w55.heap[gb1141]? = some (.cells #[.int .i64 ((rd_T30 y1137 (ji13)).f0), .string ((rd_T30 y1137 (ji13)).f1), .slice A1140_2 ((rd_T30 y1137 (ji13)).f2).length c1140_2, .string ((rd_T30 y1137 (ji13)).f3)] 30 (0, 0))) := ⟨(by rw [hw]; exact (by (with_reducible repeat (first | refine blk_drewN ?_ _ | refine blk_drew ?_ | refine blk_alloc ?_ _)); refine blk_put (cs := #[.int .i64 ((rd_T30 y1137 (ji13)).f0), .string ((rd_T30 y1137 (ji13)).f1), .slice A1140_2 ((rd_T30 y1137 (ji13)).f2).length c1140_2, .string (⟨#[]⟩ : ByteArray)]) ?_ 3 _ rfl; (with_reducible repeat (first | refine blk_drewN ?_ _ | refine blk_drew ?_ | refine blk_alloc ?_ _)); refine blk_put (cs := #[.int .i64 ((rd_T30 y1137 (ji13)).f0), .string ((rd_T30 y1137 (ji13)).f1), .slice none 0 0, .string (⟨#[]⟩ : ByteArray)]) ?_ 2 _ rfl; (with_reducible repeat (first | refine blk_drewN ?_ _ | refine blk_drew ?_ | refine blk_alloc ?_ _)); refine blk_put (cs := #[.int .i64 ((rd_T30 y1137 (ji13)).f0), .string (⟨#[]⟩ : ByteArray), .slice none 0 0, .string (⟨#[]⟩ : ByteArray)]) ?_ 1 _ rfl; (with_reducible repeat (first | refine blk_drewN ?_ _ | refine blk_drew ?_ | refine blk_alloc ?_ _)); refine blk_put (cs := #[.int .i64 0, .string (⟨#[]⟩ : ByteArray), .slice none 0 0, .string (⟨#[]⟩ : ByteArray)]) ?_ 0 _ rfl; (with_reducible repeat (first | refine blk_drewN ?_ _ | refine blk_drew ?_ | refine blk_alloc ?_ _)); exact BK1141.out))⟩; have n8_ : Aside0 (Below w.heap.size w w55) := ⟨(by rw [hw]; exact bl_)⟩; clear hw; clear HO1106; clear HO1113; clear HO1122; clear HO1130; clear HO1133; clear HO1139; clear HL1140_2; clear BK1141; clear HB; have HO1106 := n0_; have HO1113 := n1_; have HO1122 := n2_; have HO1130 := n3_; have HO1133 := n4_; have HO1139 := n5_; have HL1140_2 := n6_; have BK1141 := n7_; have HB := n8_; clear n0_ n1_ n2_ n3_ n4_ n5_ n6_ n7_ n8_; have p1142 : 0 ≤ ((ji17) : Int) := of_decide_eq_true as_; have q1142 : (ji17) < (y1137.length : Int) := of_decide_eq_true as_; obtain ⟨ad1142, A1142_2, c1142_2, e1142, hx1142_0, hx1142_1, hx1142_2, hx1142_3, hl1142_2, hi1142_2⟩ := at_T30 (Kd.N_reads' HO1139.out).2.2 (ji17) p1142 q1142; obtain rfl : ad1140 = ad1142 := (by injection e1142); obtain ⟨ce1142, hce1142, hMe1142, hcc1142⟩ := Kd.N_get HO1139.out z30 (ji17) p1142 (by first | exact q1142 | exact of_decide_eq_true as_ | (have e_ := (Kd.N_reads' HO1139.out).1; omega)); obtain ⟨ua1142_2, uc1142_2, rfl, ul1142_2, ge1142_2⟩ := k30_openF hMe1142; have hv1142_2 := hcc1142 2 _ rfl; rw [add_field _ _ 2 (by omega)] at hv1142_2; replace hv1142_2 := Option.some.inj (hv1142_2.symm.trans hx1142_2); injection hv1142_2 with hva_ hvn_ hvc_; rw [hva_] at ge1142_2; rw [hvc_] at ul1142_2; have HL1142_2 := Aside0.mk (show Kd.V k70 70 _ w.heap.size _ _ ((rd_T30 y1137 (ji17)).f2) from Kd.V_mk ul1142_2 ge1142_2); clear hva_ hvn_ hvc_ ge1142_2 ul1142_2; clear hcc1142 hce1142; have HR1142_2 := Aside0.mk hi1142_2; have HC1142_2 := Aside0.mk hl1142_2; clear hi1142_2 hl1142_2; replace p1142 := eq_true p1142; replace q1142 := eq_true q1142; have p24 : 0 ≤ ((ji13) : Int) := of_decide_eq_true as_; have q24 : ((ji13) : Int) < ((y1137.length : Int) : Int) := of_decide_eq_true as_; obtain ⟨go24, co24, eo24, gb24, gl24, cl24, HG24⟩ := Kd.N_form HO1139.out (by omega); (first | cases eo24 | (injection eo24 with ea_ en_ ec_; (first | subst ea_ | (injection ea_ with ea_; subst ea_)); subst ec_; clear en_)); have GB24 := Aside0.mk gb24; have GG24 := Aside0.mk HG24; clear gb24 gl24 HG24; (first | simp only [add_plain] at hx1140_0 | skip); (first | simp only [add_plain] at hx1140_1 | skip); (first | simp only [add_plain] at hx1140_2 | skip); (first | simp only [add_plain] at hx1140_3 | skip); (first | simp only [add_plain] at hx1142_0 | skip); (first | simp only [add_plain] at hx1142_1 | skip); (first | simp only [add_plain] at hx1142_2 | skip); (first | simp only [add_plain] at hx1142_3 | skip); obtain ⟨ce24, hcl24, hM24, hcc24, hfr24⟩ := Kd.N_elem HO1139.out z30 ((ji13) : Int) p24 q24; obtain ⟨ua24_2, uc24_2, rfl, ul24_2, ge24_2⟩ := k30_openF hM24; have hx24_0 : w55.cell? ⟨go24, ((ji13) : Int).toNat * 4, none⟩ = some (.int .i64 ((rd_T30 y1137 (ji13)).f0)) := hcc24 0 _ rfl; have hx24_1 : w55.cell? ⟨go24, ((ji13) : Int).toNat * 4 + 1, none⟩ = some (.string ((rd_T30 y1137 (ji13)).f1)) := hcc24 1 _ rfl; have hx24_2 : w55.cell? ⟨go24, ((ji13) : Int).toNat * 4 + 2, none⟩ = some (.slice ua24_2 ((rd_T30 y1137 (ji13)).f2).length uc24_2) := hcc24 2 _ rfl; have hx24_3 : w55.cell? ⟨go24, ((ji13) : Int).toNat * 4 + 3, none⟩ = some (.string ((rd_T30 y1137 (ji13)).f3)) := hcc24 3 _ rfl; have hf24_0 : w55.frozen? ⟨go24, ((ji13) : Int).toNat * 4, none⟩ = false := hfr24 0; have hf24_1 : w55.frozen? ⟨go24, ((ji13) : Int).toNat * 4 + 1, none⟩ = false := hfr24 1; have hf24_2 : w55.frozen? ⟨go24, ((ji13) : Int).toNat * 4 + 2, none⟩ = false := hfr24 2; have hf24_3 : w55.frozen? ⟨go24, ((ji13) : Int).toNat * 4 + 3, none⟩ = false := hfr24 3; clear hcl24 hcc24 hfr24 hM24; replace p24 := eq_true p24; replace q24 := eq_true q24; have HX56 := Aside0.mk (show Kd.N k30 30 w55 w.heap.size (fun k_ => some k_ ≠ (.slice (some ad1114) t1111.length co41 : Value).ownBlock ∧ some k_ ≠ (v1132 : Value).ownBlock ∧ k_ ≠ gb1141) (.slice (some ⟨go24, 0, none⟩) y1137.length co52) y1137 from (by (with_reducible repeat (first | apply Kd.N_alloc | apply Kd.N_drewN | apply Kd.N_drew)); exact HO1139.out)); obtain ⟨ce56, hcl56, hM56, hcc56, hfr56⟩ := Kd.N_elem HX56.out z30 ((ji13) : Int) (of_decide_eq_true as_) (by have h_ : ((ji13) : Int) < ((y1137.length : Int) : Int) := of_decide_eq_true as_; first | exact h_ | (have e_ := (Kd.N_reads' HO1139.out).1; omega) | simpa using h_); obtain ⟨ua56_2, uc56_2, rfl, ul56_2, ge56_2⟩ := k30_openF hM56; have HP56 := Kd.N_seg HX56.out ((ji13) : Int) (of_decide_eq_true as_) (by have h_ : ((ji13) : Int) < ((y1137.length : Int) : Int) := of_decide_eq_true as_; first | exact h_ | (have e_ := (Kd.N_reads' HO1139.out).1; omega) | simpa using h_) (seg := [.int .i64 ((rd_T30 y1137 (ji17)).f0), .string ((rd_T30 y1137 (ji17)).f1), .slice A1142_2 ((rd_T30 y1137 (ji17)).f2).length c1142_2, .string ((rd_T30 y1137 (ji17)).f3)]) (j := 0) hcl56 hcc56 (show 4 ≤ 4 from by decide) (x' := (⟨(rd_T30 y1137 (ji17)).f0, (rd_T30 y1137 (ji17)).f1, (rd_T30 y1137 (ji17)).f2, (rd_T30 y1137 (ji17)).f3⟩ : S30)) (k30_mkF _ _ (⟨(rd_T30 y1137 (ji17)).f0, (rd_T30 y1137 (ji17)).f1, (rd_T30 y1137 (ji17)).f2, (rd_T30 y1137 (ji17)).f3⟩ : S30) (Kd.V_reads' (Kd.V_mono (ok' := (fun k_ => ((fun k_ => some k_ ≠ (.slice (some ad1114) t1111.length co41 : Value).ownBlock ∧ some k_ ≠ (v1132 : Value).ownBlock ∧ k_ ≠ gb1141)) k_ ∧ k_ ≠ go24)) (HL1142_2.out) (fun k_ hk => ⟨⟨hk.1.1, ⟨hk.1.2.1, hk.1.2.2⟩⟩, fun e_ => (hk.2) (by rw [e_]; rfl)⟩))).2.1 (Kd.V_F (Kd.V_mono (ok' := (fun k_ => ((fun k_ => some k_ ≠ (.slice (some ad1114) t1111.length co41 : Value).ownBlock ∧ some k_ ≠ (v1132 : Value).ownBlock ∧ k_ ≠ gb1141)) k_ ∧ k_ ≠ go24)) (HL1142_2.out) (fun k_ hk => ⟨⟨hk.1.1, ⟨hk.1.2.1, hk.1.2.2⟩⟩, fun e_ => (hk.2) (by rw [e_]; rfl)⟩)))) (fun _ hk => hk); have hx56_0 := hcc56 0 _ rfl; (try simp only [show (k30).sz = 4 from rfl, Nat.mul_one, Nat.add_zero] at hx56_0); have hf56_0 := hfr56 0; (try simp only [show (k30).sz = 4 from rfl, Nat.mul_one, Nat.add_zero] at hf56_0); have hx56_1 := hcc56 1 _ rfl; (try simp only [show (k30).sz = 4 from rfl, Nat.mul_one, Nat.add_zero] at hx56_1); have hf56_1 := hfr56 1; (try simp only [show (k30).sz = 4 from rfl, Nat.mul_one, Nat.add_zero] at hf56_1); have hx56_2 := hcc56 2 _ rfl; (try simp only [show (k30).sz = 4 from rfl, Nat.mul_one, Nat.add_zero] at hx56_2); have hf56_2 := hfr56 2; (try simp only [show (k30).sz = 4 from rfl, Nat.mul_one, Nat.add_zero] at hf56_2); have hx56_3 := hcc56 3 _ rfl; (try simp only [show (k30).sz = 4 from rfl, Nat.mul_one, Nat.add_zero] at hx56_3); have hf56_3 := hfr56 3; (try simp only [show (k30).sz = 4 from rfl, Nat.mul_one, Nat.add_zero] at hf56_3); clear hcl56 hcc56 hfr56 hM56) | ((with_reducible refine gate_store (t := 30) (p := 64) rfl ?_); refine store_event (t := 30) (p := 64) (v := ?vo_w57) (w1 := ((((w55.setCell ⟨go24, ((ji13) : Int).toNat * 4, none⟩ (.int .i64 ((rd_T30 y1137 (ji17)).f0))).setCell ⟨go24, ((ji13) : Int).toNat * 4 + 1, none⟩ (.string ((rd_T30 y1137 (ji17)).f1))).setCell ⟨go24, ((ji13) : Int).toNat * 4 + 2, none⟩ (.slice A1142_2 ((rd_T30 y1137 (ji17)).f2).length c1142_2)).setCell ⟨go24, ((ji13) : Int).toNat * 4 + 3, none⟩ (.string ((rd_T30 y1137 (ji17)).f3)))) ?hg ?ho ?hn ?hr ?_; (case ho => rfl); (case hg => rfl); (case hn => rfl); (case hr => first | (go_simp; done) | (go_simp; rfl)); intro w57 hw; have hg : w55.grownBy w57 (some go24) := (by rw [hw]; exact HP56.2); have hp_ : Kd.N k30 30 w57 w.heap.size (fun k_ => some k_ ≠ (.slice (some ad1114) t1111.length co41 : Value).ownBlock ∧ some k_ ≠ (v1132 : Value).ownBlock ∧ k_ ≠ gb1141) (.slice (some ⟨go24, 0, none⟩) y1137.length co52) y1143 := (by rw [hw, Ny1143.out]; exact HP56.1); clear HP56; have n0_ := Aside0.mk (Kd.N_afterv (v := (.slice (some ⟨go24, 0, none⟩) y1137.length co52)) (v1 := (.slice (some ⟨go24, 0, none⟩) y1137.length co52)) (ok := (fun k_ => some k_ ≠ (.slice (some ad1114) t1111.length co41 : Value).ownBlock ∧ some k_ ≠ (v1132 : Value).ownBlock ∧ k_ ≠ gb1141)) (by (with_reducible repeat (first | apply Kd.N_alloc | apply Kd.N_drewN | apply Kd.N_drew)); exact Kd.N_mono HO1106.out (fun _ hk => ⟨⟨hk.1, ⟨hk.2.1, hk.2.2.2⟩⟩, hk.2.2.1⟩)) hg (.inl rfl)); have n1_ := Aside0.mk (Kd.R_over' (v := (.slice (some ⟨go24, 0, none⟩) y1137.length co52)) (ra_ HO1113.out) (Kd.N_typed HO1139.out) (by decide) hg); have n2_ := Aside0.mk (Kd.V_afterv (v := (.slice (some ⟨go24, 0, none⟩) y1137.length co52)) (v1 := (.slice (some ⟨go24, 0, none⟩) y1137.length co52)) (ok := (fun k_ => some k_ ≠ (.slice (some ad1114) t1111.length co41 : Value).ownBlock ∧ some k_ ≠ (v1132 : Value).ownBlock ∧ k_ ≠ gb1141)) (by (with_reducible repeat (first | apply Kd.V_alloc | apply Kd.V_drewN | apply Kd.V_drew)); exact Kd.V_mono HO1122.out (fun _ hk => ⟨⟨hk.1, ⟨hk.2.1, hk.2.2.2⟩⟩, hk.2.2.1⟩)) hg (.inl rfl)); have n3_ := Aside0.mk (Kd.V_afterv (v := (.slice (some ⟨go24, 0, none⟩) y1137.length co52)) (v1 := (.slice (some ⟨go24, 0, none⟩) y1137.length co52)) (ok := (fun k_ => some k_ ≠ (.slice (some ad1114) t1111.length co41 : Value).ownBlock ∧ some k_ ≠ (v1132 : Value).ownBlock ∧ k_ ≠ gb1141)) (by (with_reducible repeat (first | apply Kd.V_alloc | apply Kd.V_drewN | apply Kd.V_drew)); exact Kd.V_mono HO1130.out (fun _ hk => ⟨⟨hk.1, ⟨hk.2.1, hk.2.2.2⟩⟩, hk.2.2.1⟩)) hg (.inl rfl)); have n4_ := Aside0.mk (Kd.N_afterv (v := (.slice (some ⟨go24, 0, none⟩) y1137.length co52)) (v1 := (.slice (some ⟨go24, 0, none⟩) y1137.length co52)) (ok := (fun k_ => some k_ ≠ (.slice (some ad1114) t1111.length co41 : Value).ownBlock ∧ k_ ≠ gb1141)) (by (with_reducible repeat (first | apply Kd.N_alloc | apply Kd.N_drewN | apply Kd.N_drew)); exact Kd.N_mono HO1133.out (fun _ hk => ⟨⟨hk.1, hk.2.2⟩, hk.2.1⟩)) hg (.inl rfl)); have n5_ := Aside0.mk (hp_); have n6_ := Aside0.mk (Kd.V_afterv (v := (.slice (some ⟨go24, 0, none⟩) y1137.length co52)) (v1 := (.slice (some ⟨go24, 0, none⟩) y1137.length co52)) (ok := (fun k_ => some k_ ≠ (.slice (some ad1114) t1111.length co41 : Value).ownBlock ∧ some k_ ≠ (v1132 : Value).ownBlock ∧ k_ ≠ gb1141)) (by (with_reducible repeat (first | apply Kd.V_alloc | apply Kd.V_drewN | apply Kd.V_drew)); exact Kd.V_mono HL1140_2.out (fun _ hk => ⟨⟨hk.1, ⟨hk.2.1, hk.2.2.2⟩⟩, hk.2.2.1⟩)) hg (.inl rfl)); have n7_ := Aside0.mk (blk_grown (g := gb1141) (o := .cells #[.int .i64 ((rd_T30 y1137 (ji13)).f0), .string ((rd_T30 y1137 (ji13)).f1), .slice A1140_2 ((rd_T30 y1137 (ji13)).f2).length c1140_2, .string ((rd_T30 y1137 (ji13)).f3)] 30 (0, 0)) (bk_ BK1141.out) hg (Kd.N_away HO1139.out (fun _ hk => hk.2.2))); have n8_ := Aside0.mk (Kd.V_afterv (v := (.slice (some ⟨go24, 0, none⟩) y1137.length co52)) (v1 := (.slice (some ⟨go24, 0, none⟩) y1137.length co52)) (ok := (fun k_ => some k_ ≠ (.slice (some ad1114) t1111.length co41 : Value).ownBlock ∧ some k_ ≠ (v1132 : Value).ownBlock ∧ k_ ≠ gb1141)) (by (with_reducible repeat (first | apply Kd.V_alloc | apply Kd.V_drewN | apply Kd.V_drew)); exact HL1142_2.out) hg (.inl rfl)); have n9_ := Aside0.mk ((by rw [hw]; exact below_set (below_set (below_set (below_set (HB.out) GB24.out) GB24.out) GB24.out) GB24.out : Below w.heap.size w w57)); clear HO1106; clear HO1113; clear HO1122; clear HO1130; clear HO1133; clear HO1139; clear HL1140_2; clear BK1141; clear HL1142_2; clear HB; have HO1106 := n0_; have HO1113 := n1_; have HO1122 := n2_; have HO1130 := n3_; have HO1133 := n4_; have HO1139 := n5_; have HL1140_2 := n6_; have BK1141 := n7_; have HL1142_2 := n8_; have HB := n9_; clear n0_ n1_ n2_ n3_ n4_ n5_ n6_ n7_ n8_ n9_; clear hg hw hp_; have hcz58_0 : w57.cell? ⟨gb1141, 0, none⟩ = some (.int .i64 ((rd_T30 y1137 (ji13)).f0)) := (blk_cell BK1141.out 0).trans rfl; have hcz58_1 : w57.cell? ⟨gb1141, 1, none⟩ = some (.string ((rd_T30 y1137 (ji13)).f1)) := (blk_cell BK1141.out 1).trans rfl; have hcz58_2 : w57.cell? ⟨gb1141, 2, none⟩ = some (.slice A1140_2 ((rd_T30 y1137 (ji13)).f2).length c1140_2) := (blk_cell BK1141.out 2).trans rfl; have hcz58_3 : w57.cell? ⟨gb1141, 3, none⟩ = some (.string ((rd_T30 y1137 (ji13)).f3)) := (blk_cell BK1141.out 3).trans rfl; have hfz58_0 := blk_frozen BK1141.out 0; have hfz58_1 := blk_frozen BK1141.out 1; have hfz58_2 := blk_frozen BK1141.out 2; have hfz58_3 := blk_frozen BK1141.out 3; have p25 : 0 ≤ ((ji17) : Int) := of_decide_eq_true as_; have q25 : ((ji17) : Int) < ((y1137.length : Int) : Int) := of_decide_eq_true as_; obtain ⟨ce25, hcl25, hM25, hcc25, hfr25⟩ := Kd.N_elem HO1139.out z30 ((ji17) : Int) p25 q25; obtain ⟨ua25_2, uc25_2, rfl, ul25_2, ge25_2⟩ := k30_openF hM25; have hx25_0 : w57.cell? ⟨go24, ((ji17) : Int).toNat * 4, none⟩ = some (.int .i64 ((rd_T30 y1143 (ji17)).f0)) := hcc25 0 _ rfl; have hx25_1 : w57.cell? ⟨go24, ((ji17) : Int).toNat * 4 + 1, none⟩ = some (.string ((rd_T30 y1143 (ji17)).f1)) := hcc25 1 _ rfl; have hx25_2 : w57.cell? ⟨go24, ((ji17) : Int).toNat * 4 + 2, none⟩ = some (.slice ua25_2 ((rd_T30 y1143 (ji17)).f2).length uc25_2) := hcc25 2 _ rfl; have hx25_3 : w57.cell? ⟨go24, ((ji17) : Int).toNat * 4 + 3, none⟩ = some (.string ((rd_T30 y1143 (ji17)).f3)) := hcc25 3 _ rfl; have hf25_0 : w57.frozen? ⟨go24, ((ji17) : Int).toNat * 4, none⟩ = false := hfr25 0; have hf25_1 : w57.frozen? ⟨go24, ((ji17) : Int).toNat * 4 + 1, none⟩ = false := hfr25 1; have hf25_2 : w57.frozen? ⟨go24, ((ji17) : Int).toNat * 4 + 2, none⟩ = false := hfr25 2; have hf25_3 : w57.frozen? ⟨go24, ((ji17) : Int).toNat * 4 + 3, none⟩ = false := hfr25 3; clear hcl25 hcc25 hfr25 hM25; replace p25 := eq_true p25; replace q25 := eq_true q25; have HX59 := Aside0.mk (show Kd.N k30 30 w57 w.heap.size (fun k_ => some k_ ≠ (.slice (some ad1114) t1111.length co41 : Value).ownBlock ∧ some k_ ≠ (v1132 : Value).ownBlock ∧ k_ ≠ gb1141) (.slice (some ⟨go24, 0, none⟩) y1137.length co52) y1143 from (by (with_reducible repeat (first | apply Kd.N_alloc | apply Kd.N_drewN | apply Kd.N_drew)); exact HO1139.out)); obtain ⟨ce59, hcl59, hM59, hcc59, hfr59⟩ := Kd.N_elem HX59.out z30 ((ji17) : Int) (of_decide_eq_true as_) (by have h_ : ((ji17) : Int) < ((y1137.length : Int) : Int) := of_decide_eq_true as_; first | exact h_ | (have e_ := (Kd.N_reads' HO1139.out).1; omega) | simpa using h_); obtain ⟨ua59_2, uc59_2, rfl, ul59_2, ge59_2⟩ := k30_openF hM59; have HP59 := Kd.N_seg HX59.out ((ji17) : Int) (of_decide_eq_true as_) (by have h_ : ((ji17) : Int) < ((y1137.length : Int) : Int) := of_decide_eq_true as_; first | exact h_ | (have e_ := (Kd.N_reads' HO1139.out).1; omega) | simpa using h_) (seg := [.int .i64 ((rd_T30 y1137 (ji13)).f0), .string ((rd_T30 y1137 (ji13)).f1), .slice A1140_2 ((rd_T30 y1137 (ji13)).f2).length c1140_2, .string ((rd_T30 y1137 (ji13)).f3)]) (j := 0) hcl59 hcc59 (show 4 ≤ 4 from by decide) (x' := (⟨(rd_T30 y1137 (ji13)).f0, (rd_T30 y1137 (ji13)).f1, (rd_T30 y1137 (ji13)).f2, (rd_T30 y1137 (ji13)).f3⟩ : S30)) (k30_mkF _ _ (⟨(rd_T30 y1137 (ji13)).f0, (rd_T30 y1137 (ji13)).f1, (rd_T30 y1137 (ji13)).f2, (rd_T30 y1137 (ji13)).f3⟩ : S30) (Kd.V_reads' (Kd.V_mono (ok' := (fun k_ => ((fun k_ => some k_ ≠ (.slice (some ad1114) t1111.length co41 : Value).ownBlock ∧ some k_ ≠ (v1132 : Value).ownBlock ∧ k_ ≠ gb1141)) k_ ∧ k_ ≠ go24)) (HL1140_2.out) (fun k_ hk => ⟨⟨hk.1.1, ⟨hk.1.2.1, hk.1.2.2⟩⟩, fun e_ => (hk.2) (by rw [e_]; rfl)⟩))).2.1 (Kd.V_F (Kd.V_mono (ok' := (fun k_ => ((fun k_ => some k_ ≠ (.slice (some ad1114) t1111.length co41 : Value).ownBlock ∧ some k_ ≠ (v1132 : Value).ownBlock ∧ k_ ≠ gb1141)) k_ ∧ k_ ≠ go24)) (HL1140_2.out) (fun k_ hk => ⟨⟨hk.1.1, ⟨hk.1.2.1, hk.1.2.2⟩⟩, fun e_ => (hk.2) (by rw [e_]; rfl)⟩)))) (fun _ hk => hk); have hx59_0 := hcc59 0 _ rfl; (try simp only [show (k30).sz = 4 from rfl, Nat.mul_one, Nat.add_zero] at hx59_0); have hf59_0 := hfr59 0; (try simp only [show (k30).sz = 4 from rfl, Nat.mul_one, Nat.add_zero] at hf59_0); have hx59_1 := hcc59 1 _ rfl; (try simp only [show (k30).sz = 4 from rfl, Nat.mul_one, Nat.add_zero] at hx59_1); have hf59_1 := hfr59 1; (try simp only [show (k30).sz = 4 from rfl, Nat.mul_one, Nat.add_zero] at hf59_1); have hx59_2 := hcc59 2 _ rfl; (try simp only [show (k30).sz = 4 from rfl, Nat.mul_one, Nat.add_zero] at hx59_2); have hf59_2 := hfr59 2; (try simp only [show (k30).sz = 4 from rfl, Nat.mul_one, Nat.add_zero] at hf59_2); have hx59_3 := hcc59 3 _ rfl; (try simp only [show (k30).sz = 4 from rfl, Nat.mul_one, Nat.add_zero] at hx59_3); have hf59_3 := hfr59 3; (try simp only [show (k30).sz = 4 from rfl, Nat.mul_one, Nat.add_zero] at hf59_3); clear hcl59 hcc59 hfr59 hM59) | ((with_reducible refine gate_store (t := 30) (p := 69) rfl ?_); refine store_event (t := 30) (p := 69) (v := ?vo_w60) (w1 := ((((w57.setCell ⟨go24, ((ji17) : Int).toNat * 4, none⟩ (.int .i64 ((rd_T30 y1137 (ji13)).f0))).setCell ⟨go24, ((ji17) : Int).toNat * 4 + 1, none⟩ (.string ((rd_T30 y1137 (ji13)).f1))).setCell ⟨go24, ((ji17) : Int).toNat * 4 + 2, none⟩ (.slice A1140_2 ((rd_T30 y1137 (ji13)).f2).length c1140_2)).setCell ⟨go24, ((ji17) : Int).toNat * 4 + 3, none⟩ (.string ((rd_T30 y1137 (ji13)).f3)))) ?hg ?ho ?hn ?hr ?_; (case ho => rfl); (case hg => rfl); (case hn => rfl); (case hr => first | (go_simp; done) | (go_simp; rfl)); intro w60 hw; have hg : w57.grownBy w60 (some go24) := (by rw [hw]; exact HP59.2); have hp_ : Kd.N k30 30 w60 w.heap.size (fun k_ => some k_ ≠ (.slice (some ad1114) t1111.length co41 : Value).ownBlock ∧ some k_ ≠ (v1132 : Value).ownBlock ∧ k_ ≠ gb1141) (.slice (some ⟨go24, 0, none⟩) y1137.length co52) y1144 := (by rw [hw, Ny1144.out]; exact HP59.1); clear HP59; have n0_ := Aside0.mk (Kd.N_afterv (v := (.slice (some ⟨go24, 0, none⟩) y1137.length co52)) (v1 := (.slice (some ⟨go24, 0, none⟩) y1137.length co52)) (ok := (fun k_ => some k_ ≠ (.slice (some ad1114) t1111.length co41 : Value).ownBlock ∧ some k_ ≠ (v1132 : Value).ownBlock ∧ k_ ≠ gb1141)) (by (with_reducible repeat (first | apply Kd.N_alloc | apply Kd.N_drewN | apply Kd.N_drew)); exact HO1106.out) hg (.inl rfl)); have n1_ := Aside0.mk (Kd.R_over' (v := (.slice (some ⟨go24, 0, none⟩) y1137.length co52)) (ra_ HO1113.out) (Kd.N_typed HO1139.out) (by decide) hg); have n2_ := Aside0.mk (Kd.V_afterv (v := (.slice (some ⟨go24, 0, none⟩) y1137.length co52)) (v1 := (.slice (some ⟨go24, 0, none⟩) y1137.length co52)) (ok := (fun k_ => some k_ ≠ (.slice (some ad1114) t1111.length co41 : Value).ownBlock ∧ some k_ ≠ (v1132 : Value).ownBlock ∧ k_ ≠ gb1141)) (by (with_reducible repeat (first | apply Kd.V_alloc | apply Kd.V_drewN | apply Kd.V_drew)); exact HO1122.out) hg (.inl rfl)); have n3_ := Aside0.mk (Kd.V_afterv (v := (.slice (some ⟨go24, 0, none⟩) y1137.length co52)) (v1 := (.slice (some ⟨go24, 0, none⟩) y1137.length co52)) (ok := (fun k_ => some k_ ≠ (.slice (some ad1114) t1111.length co41 : Value).ownBlock ∧ some k_ ≠ (v1132 : Value).ownBlock ∧ k_ ≠ gb1141)) (by (with_reducible repeat (first | apply Kd.V_alloc | apply Kd.V_drewN | apply Kd.V_drew)); exact HO1130.out) hg (.inl rfl)); have n4_ := Aside0.mk (Kd.N_afterv (v := (.slice (some ⟨go24, 0, none⟩) y1137.length co52)) (v1 := (.slice (some ⟨go24, 0, none⟩) y1137.length co52)) (ok := (fun k_ => some k_ ≠ (.slice (some ad1114) t1111.length co41 : Value).ownBlock ∧ k_ ≠ gb1141)) (by (with_reducible repeat (first | apply Kd.N_alloc | apply Kd.N_drewN | apply Kd.N_drew)); exact HO1133.out) hg (.inl rfl)); have n5_ := Aside0.mk (hp_); have n6_ := Aside0.mk (Kd.V_afterv (v := (.slice (some ⟨go24, 0, none⟩) y1137.length co52)) (v1 := (.slice (some ⟨go24, 0, none⟩) y1137.length co52)) (ok := (fun k_ => some k_ ≠ (.slice (some ad1114) t1111.length co41 : Value).ownBlock ∧ some k_ ≠ (v1132 : Value).ownBlock ∧ k_ ≠ gb1141)) (by (with_reducible repeat (first | apply Kd.V_alloc | apply Kd.V_drewN | apply Kd.V_drew)); exact HL1140_2.out) hg (.inl rfl)); have n7_ := Aside0.mk (blk_grown (g := gb1141) (o := .cells #[.int .i64 ((rd_T30 y1137 (ji13)).f0), .string ((rd_T30 y1137 (ji13)).f1), .slice A1140_2 ((rd_T30 y1137 (ji13)).f2).length c1140_2, .string ((rd_T30 y1137 (ji13)).f3)] 30 (0, 0)) (bk_ BK1141.out) hg (Kd.N_away HO1139.out (fun _ hk => hk.2.2))); have n8_ := Aside0.mk (Kd.V_afterv (v := (.slice (some ⟨go24, 0, none⟩) y1137.length co52)) (v1 := (.slice (some ⟨go24, 0, none⟩) y1137.length co52)) (ok := (fun k_ => some k_ ≠ (.slice (some ad1114) t1111.length co41 : Value).ownBlock ∧ some k_ ≠ (v1132 : Value).ownBlock ∧ k_ ≠ gb1141)) (by (with_reducible repeat (first | apply Kd.V_alloc | apply Kd.V_drewN | apply Kd.V_drew)); exact HL1142_2.out) hg (.inl rfl)); have n9_ := Aside0.mk ((by rw [hw]; exact below_set (below_set (below_set (below_set (HB.out) GB24.out) GB24.out) GB24.out) GB24.out : Below w.heap.size w w60)); clear HO1106; clear HO1113; clear HO1122; clear HO1130; clear HO1133; clear HO1139; clear HL1140_2; clear BK1141; clear HL1142_2; clear HB; have HO1106 := n0_; have HO1113 := n1_; have HO1122 := n2_; have HO1130 := n3_; have HO1133 := n4_; have HO1139 := n5_; have HL1140_2 := n6_; have BK1141 := n7_; have HL1142_2 := n8_; have HB := n9_; clear n0_ n1_ n2_ n3_ n4_ n5_ n6_ n7_ n8_ n9_; clear hg hw hp_) | ((with_reducible refine gate_callee (f := 41) rfl ?_); refine goesL_ (some 72) rfl rfl Tryd.func41 (by kernel_rfl) rfl #[.slice Ao39 t1104.length co39] rfl lm_ ?_; (with_reducible refine (impl_JoinSegments.calls k _ _ t1104 t1145 true _ ?side1 ?side2 ?side3 A26.out).mono ?_); (case side1 => repeat (first | exact (Kd.N_reads' HO1106.out).2.2 | (with_reducible refine Kd.C_alloc ?_ _) | (with_reducible refine Kd.C_drewN ?_ _) | (with_reducible refine Kd.C_drew ?_))); (case side2 => exact (Kd.N_reads' HO1106.out).2.1); (case side3 => exact tab_of HT.out bl_); rintro e w61 ⟨v1147, rfl, ho0, hb⟩; refine ⟨_, rfl, ?_⟩; have n0_ := Aside0.mk (Kd.N_elder' (by (with_reducible repeat (first | apply Kd.N_alloc | apply Kd.N_drewN | apply Kd.N_drew)); exact HO1106.out) (Kd.R_base ho0) hb); have n1_ := Aside0.mk (Kd.R_below (ra_ HO1113.out) hb); have n2_ := Aside0.mk (Kd.V_elder' (by (with_reducible repeat (first | apply Kd.V_alloc | apply Kd.V_drewN | apply Kd.V_drew)); exact HO1122.out) (Kd.R_base ho0) hb); have n3_ := Aside0.mk (Kd.V_elder' (by (with_reducible repeat (first | apply Kd.V_alloc | apply Kd.V_drewN | apply Kd.V_drew)); exact HO1130.out) (Kd.R_base ho0) hb); have n4_ := Aside0.mk (Kd.N_elder' (by (with_reducible repeat (first | apply Kd.N_alloc | apply Kd.N_drewN | apply Kd.N_drew)); exact HO1133.out) (Kd.R_base ho0) hb); have n5_ := Aside0.mk (Kd.N_elder' (by (with_reducible repeat (first | apply Kd.N_alloc | apply Kd.N_drewN | apply Kd.N_drew)); exact HO1139.out) (Kd.R_base ho0) hb); have n6_ := Aside0.mk (Kd.V_elder' (by (with_reducible repeat (first | apply Kd.V_alloc | apply Kd.V_drewN | apply Kd.V_drew)); exact HL1140_2.out) (Kd.R_base ho0) hb); have n7_ := Aside0.mk (Kd.V_elder' (by (with_reducible repeat (first | apply Kd.V_alloc | apply Kd.V_drewN | apply Kd.V_drew)); exact HL1142_2.out) (Kd.R_base ho0) hb); have n8_ := Aside0.mk (Kd.R_lower ho0 (below_size bl_)); have n9_ := Aside0.mk (blk_below (g := gb1141) (o := .cells #[.int .i64 ((rd_T30 y1137 (ji13)).f0), .string ((rd_T30 y1137 (ji13)).f1), .slice A1140_2 ((rd_T30 y1137 (ji13)).f2).length c1140_2, .string ((rd_T30 y1137 (ji13)).f3)] 30 (0, 0)) (bk_ BK1141.out) hb); have n10_ := Aside0.mk (below_step bl_ hb); clear HO1106; clear HO1113; clear HO1122; clear HO1130; clear HO1133; clear HO1139; clear HL1140_2; clear HL1142_2; clear BK1141; clear HB; have HO1106 := n0_; have HO1113 := n1_; have HO1122 := n2_; have HO1130 := n3_; have HO1133 := n4_; have HO1139 := n5_; have HL1140_2 := n6_; have HL1142_2 := n7_; have HO1148 := n8_; have BK1141 := n9_; have HB := n10_; clear n0_ n1_ n2_ n3_ n4_ n5_ n6_ n7_ n8_ n9_ n10_; (try clear hb); (try clear hb2); (try clear hk); (try clear hi); (try clear ho0); obtain ⟨Ao62, co62, eo62⟩ := Kd.N_slice HO1133.out; subst eo62) | ((with_reducible refine gate_callee (f := 41) rfl ?_); refine goesL_ (some 77) rfl rfl Tryd.func41 (by kernel_rfl) rfl #[.slice Ao62 y1131.length co62] rfl lm_ ?_; (with_reducible refine (impl_JoinSegments.calls k _ _ y1131 t1149 false _ ?side1 ?side2 ?side3 A27.out).mono ?_); (case side1 => repeat (first | exact (Kd.N_reads' HO1133.out).2.2 | (with_reducible refine Kd.C_alloc ?_ _) | (with_reducible refine Kd.C_drewN ?_ _) | (with_reducible refine Kd.C_drew ?_))); (case side2 => exact (Kd.N_reads' HO1133.out).2.1); (case side3 => exact tab_of HT.out bl_); rintro e w63 ⟨v1151, rfl, ho0, hb⟩; refine ⟨_, rfl, ?_⟩; have n0_ := Aside0.mk (Kd.N_elder' (by (with_reducible repeat (first | apply Kd.N_alloc | apply Kd.N_drewN | apply Kd.N_drew)); exact HO1106.out) (Kd.R_base ho0) hb); have n1_ := Aside0.mk (Kd.R_below (ra_ HO1113.out) hb); have n2_ := Aside0.mk (Kd.V_elder' (by (with_reducible repeat (first | apply Kd.V_alloc | apply Kd.V_drewN | apply Kd.V_drew)); exact HO1122.out) (Kd.R_base ho0) hb); have n3_ := Aside0.mk (Kd.V_elder' (by (with_reducible repeat (first | apply Kd.V_alloc | apply Kd.V_drewN | apply Kd.V_drew)); exact HO1130.out) (Kd.R_base ho0) hb); have n4_ := Aside0.mk (Kd.N_elder' (by (with_reducible repeat (first | apply Kd.N_alloc | apply Kd.N_drewN | apply Kd.N_drew)); exact HO1133.out) (Kd.R_base ho0) hb); have n5_ := Aside0.mk (Kd.N_elder' (by (with_reducible repeat (first | apply Kd.N_alloc | apply Kd.N_drewN | apply Kd.N_drew)); exact HO1139.out) (Kd.R_base ho0) hb); have n6_ := Aside0.mk (Kd.V_elder' (by (with_reducible repeat (first | apply Kd.V_alloc | apply Kd.V_drewN | apply Kd.V_drew)); exact HL1140_2.out) (Kd.R_base ho0) hb); have n7_ := Aside0.mk (Kd.V_elder' (by (with_reducible repeat (first | apply Kd.V_alloc | apply Kd.V_drewN | apply Kd.V_drew)); exact HL1142_2.out) (Kd.R_base ho0) hb); have n8_ := Aside0.mk (Kd.R_elder' (ra_ HO1148.out) (Kd.R_base ho0) hb); have n9_ := Aside0.mk (Kd.R_lower (Kd.R_new' ho0 (Kd.R_lt (ra_ HO1148.out))) (below_size bl_)); have n10_ := Aside0.mk (blk_below (g := gb1141) (o := .cells #[.int .i64 ((rd_T30 y1137 (ji13)).f0), .string ((rd_T30 y1137 (ji13)).f1), .slice A1140_2 ((rd_T30 y1137 (ji13)).f2).length c1140_2, .string ((rd_T30 y1137 (ji13)).f3)] 30 (0, 0)) (bk_ BK1141.out) hb); have n11_ := Aside0.mk (below_step bl_ hb); clear HO1106; clear HO1113; clear HO1122; clear HO1130; clear HO1133; clear HO1139; clear HL1140_2; clear HL1142_2; clear HO1148; clear BK1141; clear HB; have HO1106 := n0_; have HO1113 := n1_; have HO1122 := n2_; have HO1130 := n3_; have HO1133 := n4_; have HO1139 := n5_; have HL1140_2 := n6_; have HL1142_2 := n7_; have HO1148 := n8_; have HO1152 := n9_; have BK1141 := n10_; have HB := n11_; clear n0_ n1_ n2_ n3_ n4_ n5_ n6_ n7_ n8_ n9_ n10_ n11_; (try clear hb); (try clear hb2); (try clear hk); (try clear hi); (try clear ho0)) | ((with_reducible refine gate_callee (f := 41) rfl ?_); refine goesL_ (some 82) rfl rfl Tryd.func41 (by kernel_rfl) rfl #[.slice (some ⟨go24, 0, none⟩) y1144.length co52] rfl (by (try simp only [List.map_toArray, List.map_cons, List.map_nil]); first | done | (rw [show y1144.length = y1137.length from (Kd.N_reads' HO1139.out).1.symm] <;> rfl) | rfl | (simp only [List.length_drop, List.length_take]; rfl)) ?_; (with_reducible refine (impl_JoinSegments.calls k _ _ y1144 t1153 false _ ?side1 ?side2 ?side3 A28.out).mono ?_); (case side1 => repeat (first | exact (Kd.N_reads' HO1139.out).2.2 | (with_reducible refine Kd.C_alloc ?_ _) | (with_reducible refine Kd.C_drewN ?_ _) | (with_reducible refine Kd.C_drew ?_))); (case side2 => rw [show y1144.length = y1137.length from (Kd.N_reads' HO1139.out).1.symm]; exact (Kd.N_reads' HO1139.out).2.1); (case side3 => exact tab_of HT.out bl_); rintro e w64 ⟨v1155, rfl, ho0, hb⟩; refine ⟨_, rfl, ?_⟩; have n0_ := Aside0.mk (Kd.N_elder' (by (with_reducible repeat (first | apply Kd.N_alloc | apply Kd.N_drewN | apply Kd.N_drew)); exact HO1106.out) (Kd.R_base ho0) hb); have n1_ := Aside0.mk (Kd.R_below (ra_ HO1113.out) hb); have n2_ := Aside0.mk (Kd.V_elder' (by (with_reducible repeat (first | apply Kd.V_alloc | apply Kd.V_drewN | apply Kd.V_drew)); exact HO1122.out) (Kd.R_base ho0) hb); have n3_ := Aside0.mk (Kd.V_elder' (by (with_reducible repeat (first | apply Kd.V_alloc | apply Kd.V_drewN | apply Kd.V_drew)); exact HO1130.out) (Kd.R_base ho0) hb); have n4_ := Aside0.mk (Kd.N_elder' (by (with_reducible repeat (first | apply Kd.N_alloc | apply Kd.N_drewN | apply Kd.N_drew)); exact HO1133.out) (Kd.R_base ho0) hb); have n5_ := Aside0.mk (Kd.N_elder' (by (with_reducible repeat (first | apply Kd.N_alloc | apply Kd.N_drewN | apply Kd.N_drew)); exact HO1139.out) (Kd.R_base ho0) hb); have n6_ := Aside0.mk (Kd.V_elder' (by (with_reducible repeat (first | apply Kd.V_alloc | apply Kd.V_drewN | apply Kd.V_drew)); exact HL1140_2.out) (Kd.R_base ho0) hb); have n7_ := Aside0.mk (Kd.V_elder' (by (with_reducible repeat (first | apply Kd.V_alloc | apply Kd.V_drewN | apply Kd.V_drew)); exact HL1142_2.out) (Kd.R_base ho0) hb); have n8_ := Aside0.mk (Kd.R_elder' (ra_ HO1148.out) (Kd.R_base ho0) hb); have n9_ := Aside0.mk (Kd.R_elder' (ra_ HO1152.out) (Kd.R_base ho0) hb); have n10_ := Aside0.mk (Kd.R_lower (Kd.R_new' (Kd.R_new' ho0 (Kd.R_lt (ra_ HO1148.out))) (Kd.R_lt (ra_ HO1152.out))) (below_size bl_)); have n11_ := Aside0.mk (blk_below (g := gb1141) (o := .cells #[.int .i64 ((rd_T30 y1137 (ji13)).f0), .string ((rd_T30 y1137 (ji13)).f1), .slice A1140_2 ((rd_T30 y1137 (ji13)).f2).length c1140_2, .string ((rd_T30 y1137 (ji13)).f3)] 30 (0, 0)) (bk_ BK1141.out) hb); have n12_ := Aside0.mk (below_step bl_ hb); clear HO1106; clear HO1113; clear HO1122; clear HO1130; clear HO1133; clear HO1139; clear HL1140_2; clear HL1142_2; clear HO1148; clear HO1152; clear BK1141; clear HB; have HO1106 := n0_; have HO1113 := n1_; have HO1122 := n2_; have HO1130 := n3_; have HO1133 := n4_; have HO1139 := n5_; have HL1140_2 := n6_; have HL1142_2 := n7_; have HO1148 := n8_; have HO1152 := n9_; have HO1156 := n10_; have BK1141 := n11_; have HB := n12_; clear n0_ n1_ n2_ n3_ n4_ n5_ n6_ n7_ n8_ n9_ n10_ n11_ n12_; (try clear hb); (try clear hb2); (try clear hk); (try clear hi); (try clear ho0); have q65 : ((ji29) : Int) ≤ ((t1104.length : Int) : Int) := of_decide_eq_true as_; obtain ⟨i065, hi065, _, hsz65, _⟩ := info_parts info30; have hroom65 : t1104.length ≤ co39 := (Kd.N_reads' HO1106.out).2.1; have hC65 : Kd.F k30 _ _ Ao39 t1104.length t1104 := (Kd.V_at (base := w.heap.size) (Kd.N_V HO1106.out)).2.2; have hcut65 := cut_to (P := Tryd.prog) 46 30 .i64 Tryd.underlying46 hi065 Ao39 t1104.length co39 (ji29) (of_decide_eq_true as_) q65 hroom65; have hr65 := Kd.F_take (m := ((ji29) : Int).toNat) hC65 (by omega); have hy65 : y1157.length = ((ji29) : Int).toNat := (by rw [Ny1157.out, List.length_take]; omega); rw [← Ny1157.out] at hr65; rw [← hy65] at hcut65; have HO1161 := Aside0.mk (show Kd.V k30 30 _ w.heap.size _ (.slice Ao39 y1157.length co39) y1157 from Kd.V_mk (by omega) hr65); have HC1161 := Aside0.mk (show y1157.length ≤ co39 from by omega); clear hr65 hC65 hroom65 hi065 hsz65; have KY65 := Aside0.mk hy65; clear hy65; replace q65 := eq_true q65) | ((with_reducible refine gate_callee (f := 41) rfl ?_); refine goesL_ (some 90) rfl rfl Tryd.func41 (by kernel_rfl) rfl #[.slice Ao39 y1157.length co39] rfl lm_ ?_; (with_reducible refine (impl_JoinSegments.calls k _ _ y1157 t1162 true _ ?side1 ?side2 ?side3 A32.out).mono ?_); (case side1 => repeat (first | exact (Kd.V_reads' HO1161.out).2.2 | (with_reducible refine Kd.C_alloc ?_ _) | (with_reducible refine Kd.C_drewN ?_ _) | (with_reducible refine Kd.C_drew ?_))); (case side2 => exact (Kd.V_reads' HO1161.out).2.1); (case side3 => exact tab_of HT.out bl_); rintro e w66 ⟨v1164, rfl, ho0, hb⟩; refine ⟨_, rfl, ?_⟩; have n0_ := Aside0.mk (Kd.N_elder' (by (with_reducible repeat (first | apply Kd.N_alloc | apply Kd.N_drewN | apply Kd.N_drew)); exact HO1106.out) (Kd.R_base ho0) hb); have n1_ := Aside0.mk (Kd.R_below (ra_ HO1113.out) hb); have n2_ := Aside0.mk (Kd.V_elder' (by (with_reducible repeat (first | apply Kd.V_alloc | apply Kd.V_drewN | apply Kd.V_drew)); exact HO1122.out) (Kd.R_base ho0) hb); have n3_ := Aside0.mk (Kd.V_elder' (by (with_reducible repeat (first | apply Kd.V_alloc | apply Kd.V_drewN | apply Kd.V_drew)); exact HO1130.out) (Kd.R_base ho0) hb); have n4_ := Aside0.mk (Kd.N_elder' (by (with_reducible repeat (first | apply Kd.N_alloc | apply Kd.N_drewN | apply Kd.N_drew)); exact HO1133.out) (Kd.R_base ho0) hb); have n5_ := Aside0.mk (Kd.N_elder' (by (with_reducible repeat (first | apply Kd.N_alloc | apply Kd.N_drewN | apply Kd.N_drew)); exact HO1139.out) (Kd.R_base ho0) hb); have n6_ := Aside0.mk (Kd.V_elder' (by (with_reducible repeat (first | apply Kd.V_alloc | apply Kd.V_drewN | apply Kd.V_drew)); exact HL1140_2.out) (Kd.R_base ho0) hb); have n7_ := Aside0.mk (Kd.V_elder' (by (with_reducible repeat (first | apply Kd.V_alloc | apply Kd.V_drewN | apply Kd.V_drew)); exact HL1142_2.out) (Kd.R_base ho0) hb); have n8_ := Aside0.mk (Kd.R_elder' (ra_ HO1148.out) (Kd.R_base ho0) hb); have n9_ := Aside0.mk (Kd.R_elder' (ra_ HO1152.out) (Kd.R_base ho0) hb); have n10_ := Aside0.mk (Kd.R_elder' (ra_ HO1156.out) (Kd.R_base ho0) hb); have n11_ := Aside0.mk (Kd.V_elder' (by (with_reducible repeat (first | apply Kd.V_alloc | apply Kd.V_drewN | apply Kd.V_drew)); exact HO1161.out) (Kd.R_base ho0) hb); have n12_ := Aside0.mk (Kd.R_lower (Kd.R_new' (Kd.R_new' (Kd.R_new' ho0 (Kd.R_lt (ra_ HO1148.out))) (Kd.R_lt (ra_ HO1152.out))) (Kd.R_lt (ra_ HO1156.out))) (below_size bl_)); have n13_ := Aside0.mk (blk_below (g := gb1141) (o := .cells #[.int .i64 ((rd_T30 y1137 (ji13)).f0), .string ((rd_T30 y1137 (ji13)).f1), .slice A1140_2 ((rd_T30 y1137 (ji13)).f2).length c1140_2, .string ((rd_T30 y1137 (ji13)).f3)] 30 (0, 0)) (bk_ BK1141.out) hb); have n14_ := Aside0.mk (below_step bl_ hb); clear HO1106; clear HO1113; clear HO1122; clear HO1130; clear HO1133; clear HO1139; clear HL1140_2; clear HL1142_2; clear HO1148; clear HO1152; clear HO1156; clear HO1161; clear BK1141; clear HB; have HO1106 := n0_; have HO1113 := n1_; have HO1122 := n2_; have HO1130 := n3_; have HO1133 := n4_; have HO1139 := n5_; have HL1140_2 := n6_; have HL1142_2 := n7_; have HO1148 := n8_; have HO1152 := n9_; have HO1156 := n10_; have HO1161 := n11_; have HO1165 := n12_; have BK1141 := n13_; have HB := n14_; clear n0_ n1_ n2_ n3_ n4_ n5_ n6_ n7_ n8_ n9_ n10_ n11_ n12_ n13_ n14_; (try clear hb); (try clear hb2); (try clear hk); (try clear hi); (try clear ho0); obtain ⟨Ao67, co67, eo67⟩ := Kd.R_slice HO1165.out; subst eo67; have p1166 : 0 ≤ ((ji29) : Int) := of_decide_eq_true as_; have q1166 : (ji29) < (t1104.length : Int) := of_decide_eq_true as_; obtain ⟨ad1166, A1166_2, c1166_2, e1166, hx1166_0, hx1166_1, hx1166_2, hx1166_3, hl1166_2, hi1166_2⟩ := at_T30 (Kd.N_reads' HO1106.out).2.2 (ji29) p1166 q1166; cases e1166; obtain ⟨ce1166, hce1166, hMe1166, hcc1166⟩ := Kd.N_get HO1106.out z30 (ji29) p1166 (by first | exact q1166 | exact of_decide_eq_true as_ | (have e_ := (Kd.N_reads' HO1106.out).1; omega)); obtain ⟨ua1166_2, uc1166_2, rfl, ul1166_2, ge1166_2⟩ := k30_openF hMe1166; have hv1166_2 := hcc1166 2 _ rfl; rw [add_field _ _ 2 (by omega)] at hv1166_2; replace hv1166_2 := Option.some.inj (hv1166_2.symm.trans hx1166_2); injection hv1166_2 with hva_ hvn_ hvc_; rw [hva_] at ge1166_2; rw [hvc_] at ul1166_2; have HL1166_2 := Aside0.mk (show Kd.V k70 70 _ w.heap.size _ _ ((rd_T30 t1104 (ji29)).f2) from Kd.V_mk ul1166_2 ge1166_2); clear hva_ hvn_ hvc_ ge1166_2 ul1166_2; clear hcc1166 hce1166; have HR1166_2 := Aside0.mk hi1166_2; have HC1166_2 := Aside0.mk hl1166_2; clear hi1166_2 hl1166_2; replace p1166 := eq_true p1166; replace q1166 := eq_true q1166))
                     go_ret
                     exact ⟨by first | rfl | (simp [errW_none, errW_some] <;> rfl) | (simp only [← hji13, ← hji17, ← hji29]; first | rfl | (simp [errW_none, errW_some] <;> rfl)) | (simp [*, errW_none, errW_some] <;> rfl) | exact False.elim (Bool.noConfusion ((decide_eq_true (of_eq_true (by assumption))).symm.trans (by assumption))), bl_⟩
                    ·rw [if_neg c37] at H
                     exact absurd H (by simp)
                   ·replace c36 := Bool.eq_false_iff.mpr c36
                    subst c36
                    have H1 : (some false) = some r := by rw [if_neg (show ¬ (false = true) by decide)] at H; exact H
                    clear H
                    have H := H1
                    clear H1
                    exact absurd ((Option.some.inj H).trans HR1.out) (by decide)
                ·replace c33 := Bool.eq_false_iff.mpr c33
                 subst c33
                 have H1 : (some false) = some r := by rw [if_neg (show ¬ (false = true) by decide)] at H; exact H
                 clear H
                 have H := H1
                 clear H1
                 exact absurd ((Option.some.inj H).trans HR1.out) (by decide)
               ·rw [if_neg c31] at H
                exact absurd H (by simp)
              ·rw [if_neg c30] at H
               exact absurd H (by simp)
             ·rw [if_neg c23] at H
              exact absurd H (by simp)
            ·rw [if_neg c22] at H
             exact absurd H (by simp)
           ·rw [if_neg c21] at H
            exact absurd H (by simp)
          ·rw [if_neg c20] at H
           exact absurd H (by simp)
         ·rw [if_neg c19] at H
          exact absurd H (by simp)
        ·rw [if_neg c18] at H
         exact absurd H (by simp)
       ·rw [if_neg c16] at H
        exact absurd H (by simp)
      ·rw [if_neg c15] at H
       exact absurd H (by simp)
     ·rw [if_neg c14] at H
      exact absurd H (by simp)
   ·rw [if_neg c11] at H
    exact absurd H (by simp)

end Go.Proofs.YtdhjolglbcoijaaDoor.PA

namespace Go.Proofs.YtdhjolglbcoijaaDoor.Op
open Go.RowKit Go.Proofs.YtdhjolglbcoijaaDoorW.PrintWords
set_option linter.unusedVariables false
set_option linter.unusedSimpArgs false

/-- A whole number is one of its kind. -/
abbrev OkInt (k : IntKind) (n : Int) : Prop := (Lit.int k n).wf = true

/-- A value of type t, read as data, is one of the kind d, with G. -/
structure Opens (P : Program) {α : Type} (d : Kd α) (t : TypeId) (G : α → Prop) : Prop where
 sz : d.sz = P.cellsOf t
 op : ∀ {H : Type} {enc : TypeId × Value → H} {w : World} {n : Nat} {cs : List Value} {x : DataW H × List MemPlace},
  DataW.trod enc P w 0 (fun _ => true) true n t cs = some x → ∃ a, d.K w a cs ∧ G a

theorem opInt {P : Program} {t : TypeId} {k : IntKind} (hu : P.underlying t = some (.int k)) (hc : P.cellsOf t = 1) : Opens P (Kd.int k) t (fun n => (Lit.int k n).wf = true) where
 sz := by rw [hc]; rfl
 op := fun h => by
  obtain ⟨n, rfl, _, hw⟩ := DataW.trod_int hu h
  exact ⟨n, rfl, hw⟩

theorem opBool {P : Program} {t : TypeId} (hu : P.underlying t = some .bool) (hc : P.cellsOf t = 1) : Opens P Kd.bool t (fun _ => True) where
 sz := by rw [hc]; rfl
 op := fun h => by
  obtain ⟨n, rfl, _⟩ := DataW.trod_bool hu h
  exact ⟨n, rfl, trivial⟩

theorem opStr {P : Program} {t : TypeId} (hu : P.underlying t = some .string) (hc : P.cellsOf t = 1) : Opens P Kd.string t (fun s => s.size ≤ 9223372036854775807) where
 sz := by rw [hc]; rfl
 op := fun h => by
  obtain ⟨s, rfl, _, hs⟩ := DataW.trod_string hu h
  exact ⟨s, rfl, hs⟩

theorem chooseList {α : Type} {Q : Nat → α → Prop} : ∀ (n : Nat), (∀ i, i < n → ∃ a, Q i a) → ∃ xs : List α, xs.length = n ∧ ∀ i a, xs[i]? = some a → Q i a
 | 0, _ => ⟨[], rfl, fun i a h => by simp at h⟩
 | n + 1, h => by
  obtain ⟨xs, hl, hx⟩ := chooseList n (fun i hi => h i (by omega))
  obtain ⟨a, ha⟩ := h n (by omega)
  refine ⟨xs ++ [a], by simp [hl], fun i b hb => ?_⟩
  by_cases hi : i < n
  ·rw [List.getElem?_append_left (by omega)] at hb
   exact hx i b hb
  ·rw [List.getElem?_append_right (by omega), hl] at hb
   have : i - n = 0 := by
    rcases Nat.eq_zero_or_pos (i - n) with h0 | h0
    ·exact h0
    ·rw [List.getElem?_eq_none (by simp; omega)] at hb
     simp at hb
   rw [this] at hb
   have hin : i = n := by omega
   simp at hb
   rw [hin, ← hb]
   exact ha

theorem cellsAt {w : World} {a : Addr} {n : Nat} {cs : List Value} (h : w.cells? 0 a n = some cs) : cs.length = n ∧ ∀ i u, cs[i]? = some u → w.cell? (a.add i) = some u := by
 unfold World.cells? at h
 rw [if_pos (Nat.zero_le _)] at h
 have hl : cs.length = n := by simpa using mapM_some_length h
 refine ⟨hl, fun i u hu => ?_⟩
 have hi : i < n := by
  rcases Nat.lt_or_ge i n with h1 | h1
  ·exact h1
  ·rw [List.getElem?_eq_none (by omega)] at hu
   simp at hu
 have := mapM_some_get h i i (by simp [hi])
 rw [this, hu]

theorem opSlice {P : Program} {α : Type} {d : Kd α} {t e : TypeId} {G : α → Prop} (hu : P.underlying t = some (.slice e)) (hc : P.cellsOf t = 1) (E : Nat) (o : Opens P d e G) :
 Opens P (Kd.slice E d) t (fun l => (∀ a ∈ l, G a) ∧ l.length ≤ 9223372036854775807) where
 sz := by rw [hc]; rfl
 op := fun {H enc w n cs x} h => by
  rcases DataW.trod_slice hu h with ⟨rfl, _⟩ | ⟨a, len, cap, elems, rest, m, _, rfl, _, _, hl, hcap, hlen, hel, _⟩
  ·exact ⟨[], ⟨none, 0, rfl, Nat.le_refl _, rfl, by simp, fun h0 => by simp at h0⟩, fun a ha => by simp at ha, by simp⟩
  ·have hcap' : cap ≤ 9223372036854775807 := hcap
   have key : ∀ i, i < len → ∃ b, ∃ c, d.K w b c ∧ G b ∧ c.length = d.sz ∧ ∀ j u, c[j]? = some u → w.cell? ((a.add (i * d.sz)).add j) = some u := by
    intro i hi
    have h1 := hel i hi
    rw [List.getElem?_eq_getElem (by omega)] at h1
    obtain ⟨cs', h2, h3⟩ := Option.bind_eq_some_iff.1 h1
    obtain ⟨b, hK, hG⟩ := o.op h3
    obtain ⟨h4, h5⟩ := cellsAt h2
    rw [← o.sz] at h5
    exact ⟨b, cs', hK, hG, d.K_len hK, h5⟩
   obtain ⟨xs, hx, hall⟩ := chooseList len key
   refine ⟨xs, ⟨some a, cap, by rw [hx], by omega, rfl, by omega, fun _ => ⟨a, rfl, fun j p hp => ?_⟩⟩, fun b hb => ?_, by omega⟩
   ·obtain ⟨c, hK, _, hs, hcell⟩ := hall j p hp
    exact ⟨c, hs, hK, fun i u hiu => by rw [← Addr.add_add]; exact hcell i u hiu⟩
   ·obtain ⟨i, hi, rfl⟩ := List.getElem_of_mem hb
    obtain ⟨_, _, hG, _⟩ := hall i _ (List.getElem?_eq_getElem hi)
    exact hG

/-- A struct's fields from one on, one behind the other. -/
structure Fields (P : Program) (off : Nat) (fs : List Field) {α : Type} (d : Kd α) (G : α → Prop) : Prop where
 op : ∀ {H : Type} {enc : TypeId × Value → H} {w : World} {n : Nat} {cs : List Value}, cs.length = off + d.sz →
  (∀ f ∈ fs, ∃ y, DataW.trod enc P w 0 (fun _ => true) true n f.type ((cs.drop f.offset).take (P.cellsOf f.type)) = some y) → ∃ a, d.K w a (cs.drop off) ∧ G a

theorem fieldsOne {P : Program} {off : Nat} {f : Field} {α : Type} {d : Kd α} {G : α → Prop} (o : Opens P d f.type G) (hf : f.offset = off) : Fields P off [f] d G where
 op := fun {H enc w n cs} hl h => by
  obtain ⟨y, hy⟩ := h f (by simp)
  rw [hf, List.take_of_length_le (by rw [← o.sz]; simp; omega)] at hy
  exact o.op hy

theorem fieldsCons {P : Program} {off : Nat} {f : Field} {fs : List Field} {α β : Type} {d : Kd α} {d' : Kd β} {G : α → Prop} {G' : β → Prop} (o : Opens P d f.type G) (hf : f.offset = off) (r : Fields P (off + d.sz) fs d' G') :
 Fields P off (f :: fs) (Kd.pair d d') (fun x => G x.1 ∧ G' x.2) where
 op := fun {H enc w n cs} hl h => by
  have hl' : cs.length = off + (d.sz + d'.sz) := hl
  obtain ⟨y, hy⟩ := h f (by simp)
  rw [hf] at hy
  obtain ⟨a, ha, hg⟩ := o.op hy
  obtain ⟨b, hb, hg'⟩ := r.op (by omega) (fun g hg => h g (by simp [hg]))
  refine ⟨(a, b), ⟨_, _, ?_, ha, hb⟩, hg, hg'⟩
  rw [← o.sz, show cs.drop (off + d.sz) = (cs.drop off).drop d.sz from (List.drop_drop ..).symm]
  exact (List.take_append_drop _ _).symm

theorem opStruct {P : Program} {t : TypeId} {fs : Array Field} {α β : Type} {d : Kd α} {f : β → α} {G : α → Prop} {G' : β → Prop} (hu : P.underlying t = some (.struct fs)) (hc : P.cellsOf t = d.sz)
 (r : Fields P 0 fs.toList d G) (g : α → β) (hfg : ∀ a, f (g a) = a) (hG : ∀ a, G a → G' (g a)) : Opens P (Kd.iso d f) t G' where
 sz := by rw [hc]; rfl
 op := fun {H enc w n cs x} h => by
  obtain ⟨xs, m, rfl, _, hl, hxs, hall⟩ := DataW.trod_struct hu h
  obtain ⟨a, ha, hGa⟩ := r.op (w := w) (n := m) (cs := cs) (by omega) (fun f' hf' => by
   obtain ⟨i, hi, rfl⟩ := List.getElem_of_mem hf'
   have hi' : i < fs.size := by simpa using hi
   have h1 := hall i fs.toList[i] (by simp [hi'])
   rw [List.getElem?_eq_getElem (by omega)] at h1
   exact ⟨_, h1⟩)
  rw [List.drop_zero] at ha
  refine ⟨g a, ?_, hG a hGa⟩
  show d.K w (f (g a)) cs
  rw [hfg]
  exact ha
end Go.Proofs.YtdhjolglbcoijaaDoor.Op

namespace Go.Proofs.YtdhjolglbcoijaaDoor.PureFnSegmentsBound
open Go.RowKit Go.Proofs.YtdhjolglbcoijaaDoor.PA
def Stated : Prop := ∀ (x0 : List Int), ((∀ e_ ∈ x0, Op.OkInt .u8 e_) ∧ x0.length ≤ 9223372036854775807) → ∃ k, laws_FnSegmentsBound.f k x0 = some true
end Go.Proofs.YtdhjolglbcoijaaDoor.PureFnSegmentsBound

namespace Go.Proofs.YtdhjolglbcoijaaDoor.Kit
open Go.RowKit Go.Proofs.YtdhjolglbcoijaaDoorW.PrintWords Go.Proofs.YtdhjolglbcoijaaDoorW.PrintLast Go.Proofs.YtdhjolglbcoijaaDoorW.PrintMore
set_option linter.unusedVariables false
set_option linter.unusedSimpArgs false

theorem w64 {x : Int} (h0 : -9223372036854775808 ≤ x) (h1 : x ≤ 9223372036854775807) : wrap64 x = x := by unfold wrap64; omega

section
variable {α β : Type}
theorem evSucc {g : Nat → Option α} {r : α} (h : Ev (fun k => g (k + 1)) r) : Ev g r := Ev.step (fun _ => rfl) h
theorem evPos {c : Prop} [Decidable c] {g f : Nat → Option α} {r : α} (hc : c) (h : Ev g r) : Ev (fun k => if c then g k else f k) r := Ev.congr (fun k => if_pos hc) h
theorem evNeg {c : Prop} [Decidable c] {g f : Nat → Option α} {r : α} (hc : ¬ c) (h : Ev f r) : Ev (fun k => if c then g k else f k) r := Ev.congr (fun k => if_neg hc) h
theorem evIte {c : Prop} [Decidable c] {g f : Nat → Option α} {r s : α} (h : c → Ev g r) (h' : ¬ c → Ev f s) : Ev (fun k => if c then g k else f k) (if c then r else s) := by
 by_cases hc : c
 ·rw [if_pos hc]; exact evPos hc (h hc)
 ·rw [if_neg hc]; exact evNeg hc (h' hc)
theorem evSome (r : α) : Ev (fun _ => some r) r := Ev.now r
theorem evEq {g : Nat → Option α} {r s : α} (h : Ev g r) (e : r = s) : Ev g s := e ▸ h
/-- A value that needs no rounds. -/
theorem evBindS {x : Option α} {f : Nat → α → Option β} {a : α} {r : β} (h : x = some a) (k : Ev (fun n => f n a) r) : Ev (fun n => x.bind (f n)) r := by subst h; exact k
theorem evConst {x : Option α} {r : α} (h : x = some r) : Ev (fun _ => x) r := by subst h; exact Ev.now r
end

section
variable {α β : Type}
/-- A loop that counts up: from the last place back to the first. -/
theorem evUp {r : α} (n : Nat) (g : Nat → Nat → Option α) (step : ∀ i, i < n → Ev (g (i + 1)) r → Ev (g i) r) (last : Ev (g n) r) : Ev (g 0) r := by
 have key : ∀ d i, i + d = n → Ev (g i) r := by
  intro d
  induction d with
  | zero => intro i hi; rw [show i = n by omega]; exact last
  | succ d ih => intro i hi; exact step i (by omega) (ih (i + 1) (by omega))
 exact key n 0 (by omega)
theorem fillStep (f : α → β) (z : β) (l : List α) (i : Nat) (hi : i < l.length) :
 ((l.take i).map f ++ List.replicate (l.length - i) z).set i (f l[i]) = (l.take (i + 1)).map f ++ List.replicate (l.length - (i + 1)) z := by
 have h1 : ((l.take i).map f).length = i := by simp; omega
 rw [show l.length - i = (l.length - (i + 1)) + 1 by omega, List.replicate_succ, List.set_append_right _ _ (by omega), h1, Nat.sub_self, List.set_cons_zero,
  List.take_succ_eq_append_getElem hi, List.map_append, List.append_assoc]
 rfl
theorem takeSnoc (l : List α) (i : Nat) (hi : i < l.length) : l.take (i + 1) = l.take i ++ [l[i]] := List.take_succ_eq_append_getElem hi
theorem ci (i : Nat) : (i : Int) + 1 = ((i + 1 : Nat) : Int) := by omega
theorem sizeApp (a b : ByteArray) : (a ++ b).size = a.size + b.size := ByteArray.size_append
end

theorem okI64 {n : Int} (h : (Lit.int .i64 n).wf = true) : -9223372036854775808 ≤ n ∧ n ≤ 9223372036854775807 := by
 simp [Lit.wf, IntKind.min, IntKind.max, IntKind.signed, IntKind.bits] at h
 omega
end Go.Proofs.YtdhjolglbcoijaaDoor.Kit

namespace Go.Proofs.YtdhjolglbcoijaaDoor.DigestEq
open Go.RowKit Go.Proofs.YtdhjolglbcoijaaDoorW.PrintWords Go.Proofs.YtdhjolglbcoijaaDoorW.PrintLast Go.Proofs.YtdhjolglbcoijaaDoorW.PrintMore Go.Proofs.YtdhjolglbcoijaaDoor.Kit Go.Proofs.YtdhjolglbcoijaaDoor.PA
open Go.Proofs.YtdhjolglbcoijaaDoor.PH (hs hs_len padS padS_size blocks f4 f4_len padBytes padZ hFirst shaB shaB_len outs strOfNums_size)
set_option linter.unusedVariables false
theorem strApp (a b : List Int) : strOfNums (a ++ b) = strOfNums a ++ strOfNums b := by
 apply ByteArray.ext
 simp [strOfNums]
theorem strBytes (s : ByteArray) : strOfNums (bytesOf s) = s := by
 apply ByteArray.ext
 apply Array.ext'
 simp [strOfNums, bytesOf, Function.comp_def]
theorem hi8 (N : Int) : (List.range 8).map (fun q => N / 2 ^ (8 * (7 - q)) % 256) = f4 (N / 4294967296) ++ f4 N := by
 have h0 : N / 72057594037927936 % 256 = N / 4294967296 / 16777216 % 256 := by omega
 have h1 : N / 281474976710656 % 256 = N / 4294967296 / 65536 % 256 := by omega
 have h2 : N / 1099511627776 % 256 = N / 4294967296 / 256 % 256 := by omega
 simp [List.range, List.range.loop, f4, h0, h1, h2]
theorem padEq (a0 : ByteArray) (hb : a0.size ≤ 1073741824) : impl_PadText.f a0 = some (padS a0) := by
 have e : Int.tmod (wrap64 (64 - (Int.tmod (wrap64 ((a0.size : Int) + 9)) 64))) 64 = (padZ a0.size : Int) := by
  have c1 : Int.tmod ((a0.size : Int) + 9) 64 = ((a0.size : Int) + 9) % 64 := Int.tmod_eq_emod_of_nonneg (by omega)
  rw [w64 (x := (a0.size : Int) + 9) (by omega) (by omega), c1, w64 (by omega) (by omega)]
  have c2 : Int.tmod (64 - ((a0.size : Int) + 9) % 64) 64 = (64 - ((a0.size : Int) + 9) % 64) % 64 := Int.tmod_eq_emod_of_nonneg (by omega)
  rw [c2]
  unfold padZ
  omega
 have hz : padZ a0.size < 64 := by unfold padZ; omega
 have e8 : wrap64 (8 * (a0.size : Int)) = 8 * (a0.size : Int) := w64 (by omega) (by omega)
 unfold impl_PadText.f impl_four.f
 rw [e, e8, if_pos (by omega), if_pos (by omega), if_pos (by omega)]
 simp only [Option.bind_some, Int.toNat_natCast]
 have s1 : (a0 ++ (⟨#[128]⟩ : ByteArray)).size = a0.size + 1 := by rw [ByteArray.size_append]; rfl
 have s2 : (strOfNums (List.replicate (padZ a0.size) 0)).size = padZ a0.size := by rw [strOfNums_size, List.length_replicate]
 have s3 (x : Int) : (strOfNums [x / 16777216 % 256, x / 65536 % 256, x / 256 % 256, x % 256]).size = 4 := by rw [strOfNums_size]; rfl
 rw [if_pos (by rw [s1, s2]; omega), if_pos (by rw [ByteArray.size_append, s1, s2, s3]; omega), if_pos (by rw [ByteArray.size_append, ByteArray.size_append, s1, s2, s3, s3]; omega)]
 unfold padS padBytes
 have c (l : List Int) : strOfNums (128 :: l) = (⟨#[128]⟩ : ByteArray) ++ strOfNums l := strApp [128] l
 rw [hi8, strApp, c, strApp, strApp, strBytes]
 simp only [← ByteArray.append_assoc]
 rfl
theorem half_first : ∀ x ∈ hFirst, 0 ≤ x ∧ x ≤ 4294967295 := by decide
theorem half_sha (l : List Int) (t : ByteArray) (h : l.length = 8) : ∀ x ∈ shaB l t, 0 ≤ x ∧ x ≤ 4294967295 := by
 intro x hx
 unfold PH.shaB PH.outs at hx
 rw [List.drop_of_length_le (by omega), List.append_nil] at hx
 obtain ⟨i, _, rfl⟩ := List.mem_map.1 hx
 constructor <;> omega
theorem half_hs (p : ByteArray) : ∀ j, ∀ x ∈ hs p j, 0 ≤ x ∧ x ≤ 4294967295
 | 0 => half_first
 | j + 1 => half_sha _ _ (hs_len p j)
theorem rdS (l : List Int) (i : Nat) (hi : i < l.length) : rd l (i : Int) = l[i] := by simp [rd, hi]
theorem ev_out (s : List Int) (h : s.length = 8) : Ev (fun k => impl_Digest.l1 k (⟨#[]⟩ : ByteArray) s (s.length : Int) 0) (strOfNums (s.flatMap f4)) := by
 have key := evUp (r := strOfNums (s.flatMap f4)) 8 (fun i k => impl_Digest.l1 k (strOfNums ((s.take i).flatMap f4)) s (s.length : Int) (i : Int)) ?_ ?_
 ·exact key
 ·intro i hi ih
  refine evSucc ?_
  simp only [impl_Digest.l1]
  have hsz : (strOfNums ((s.take i).flatMap f4)).size = 4 * i := by rw [strOfNums_size, f4_len, List.length_take]; omega
  refine evPos (by omega) (evPos (by omega) (evPos (by omega) (evBindS (a := strOfNums (f4 s[i])) (by rw [rdS s i (by omega)]; rfl) (evPos (by rw [hsz, strOfNums_size]; simp [f4]; omega) ?_))))
  rw [w64 (by omega) (by omega), ci, ← strApp]
  have e : (s.take i).flatMap f4 ++ f4 s[i] = (s.take (i + 1)).flatMap f4 := by
   rw [List.take_succ_eq_append_getElem (by omega), List.flatMap_append]; simp
  rw [e]
  exact ih
 ·refine evSucc ?_
  simp only [impl_Digest.l1]
  refine evNeg (by omega) (evEq (Ev.now _) ?_)
  rw [List.take_of_length_le (by omega)]
def dig (a0 : ByteArray) : ByteArray := strOfNums ((hs (padS a0) (blocks a0.size)).flatMap f4)
theorem dig_spec (a0 : ByteArray) (hb : a0.size ≤ 1073741824) : spec_Digest.f a0 = some (dig a0) := by
 unfold spec_Digest.f; rw [if_pos hb]; rfl
theorem dig_impl (a0 : ByteArray) (hb : a0.size ≤ 1073741824) : Ev (fun k => impl_Digest.f k a0) (dig a0) := by
 simp only [impl_Digest.f]
 refine evBindS (padEq a0 hb) (evBindS (a := hFirst) rfl ?_)
 have hp := padS_size a0
 have hn : blocks a0.size ≤ 16777218 := by unfold PH.blocks; omega
 unfold dig
 generalize blocks a0.size = nb at hp hn ⊢
 generalize padS a0 = p at hp ⊢
 have key := evUp (r := strOfNums ((hs p nb).flatMap f4)) nb (fun i k => impl_Digest.l0 k p (hs p i) (64 * (i : Int))) ?_ ?_
 ·exact key
 ·intro i hi ih
  refine evSucc ?_
  simp only [impl_Digest.l0]
  have hw : wrap64 (64 * (i : Int) + 64) = 64 * (i : Int) + 64 := w64 (by omega) (by omega)
  rw [hw]
  refine evPos (by omega) (evPos (by omega) (evPos (by omega) (evPos (by omega) (evBindS (a := hs p (i + 1)) ?_ ?_))))
  ·rw [show (64 * (i : Int)).toNat = 64 * i by omega, show (64 * (i : Int) + 64).toNat = 64 * i + 64 by omega]
   unfold impl_ShaBlock.f
   rw [if_pos ⟨hs_len p i, by rw [ByteArray.size_extract]; omega, half_hs p i⟩]
   rfl
  ·rw [show 64 * (i : Int) + 64 = 64 * ((i + 1 : Nat) : Int) by omega]
   exact ih
 ·refine evSucc ?_
  simp only [impl_Digest.l0]
  exact evNeg (by omega) (ev_out _ (hs_len p nb))
end Go.Proofs.YtdhjolglbcoijaaDoor.DigestEq
