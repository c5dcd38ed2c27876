/- Contracts of functions of the program and of the reference, and plain lemmas on what they compute: a part of the proof of the law FnChains. No condition. -/
import Derived.Test.YtdhjolglbcoijaaDoorG7ebe2x0
import Derived.Test.YtdhjolglbcoijaaDoorG7ebe2x1
import Derived.Test.YtdhjolglbcoijaaDoorG0cb69x0
import Derived.Test.YtdhjolglbcoijaaDoorG849cax0
import Derived.Test.YtdhjolglbcoijaaDoorGda47bx0
import Derived.Test.YtdhjolglbcoijaaDoorG08eabx0
import Derived.Test.YtdhjolglbcoijaaDoorGee5d4x0
import Derived.Test.YtdhjolglbcoijaaDoorGe8c03x0
import Derived.Test.YtdhjolglbcoijaaDoorJFnChains1
import Derived.Test.YtdhjolglbcoijaaDoorGff551x0
import Derived.Test.YtdhjolglbcoijaaDoorShortV
namespace Go.Proofs.YtdhjolglbcoijaaDoor.PA
open Go.RowKit Go.Proofs.YtdhjolglbcoijaaDoor.Short Go.Proofs.YtdhjolglbcoijaaDoorW.PrintWords Go.Proofs.YtdhjolglbcoijaaDoorW.PrintLast Go.Proofs.YtdhjolglbcoijaaDoorW.PrintMore
attribute [local go_sem] max2_int min2_int max_two min_two max_three min_three max_four min_four   -- for this text's walks alone
set_option linter.unusedVariables false
set_option linter.unusedSimpArgs false

/-! ### laws_FnChains: function 13 -/
mutual
def laws_FnChains.j0 : Nat → List (S70) → ByteArray → ByteArray → Bool → List (S70) → Bool → List (S70) → List (S70) → ByteArray → ByteArray → Bool → ByteArray → Bool → Int → Int → Int → Int → Int → Int → Option (Bool)
 | 0, _, _, _, _, _, _, _, _, _, _, _, _, _, _, _, _, _, _, _ => none
 | k + 1, x3, x4, x5, x6, x7, x8, x9, x10, x11, x12, x13, x15, x68, x1271000, x1271001, x1271002, x1271003, x1271004, x1271005 => if x68 = true then (some false) else (if (x9.length : Int) = (x10.length : Int) then (laws_FnChains.l0 k x3 x4 x5 x6 x7 x8 x9 x10 x11 x12 x13 x15 true 0 x1271000 x1271001 x1271002 x1271003 x1271004 x1271005) else (if x13 = true then (some false) else (if x11.toList = ([] : List UInt8) then (if x12.toList = ([] : List UInt8) then (laws_FnChains.j2 k x3 x4 x5 x6 x7 x8 x15 x1271000 x1271001 x1271002 x1271003 x1271004 x1271005) else (some false)) else (some false))))
def laws_FnChains.j2 : Nat → List (S70) → ByteArray → ByteArray → Bool → List (S70) → Bool → ByteArray → Int → Int → Int → Int → Int → Int → Option (Bool)
 | 0, _, _, _, _, _, _, _, _, _, _, _, _, _ => none
 | k + 1, x3, x4, x5, x6, x7, x8, x15, x1271000, x1271001, x1271002, x1271003, x1271004, x1271005 => if x6 = true then (if x8 = true then ((laws_sameEntries.f k x7 x3).bind fun t1292 => (if t1292 = true then ((impl_Verified.f k x5 x4).bind fun t1293 => (if t1293 = true then ((spec_EntryText.f k x1271000 x1271001 x1271002 x1271003 x1271004 x1271005).bind fun t1294 => (if x4.size + t1294.size ≤ 9223372036854775807 then ((spec_Digest.f (x4 ++ t1294)).bind fun t1295 => (if x15.toList = t1295.toList then (if (x4.size : Int) = 32 then ((impl_Verified.f k x5 (⟨#[120]⟩ : ByteArray)).bind fun t1296 => (some (t1296 == false))) else (some false)) else (some false))) else (none))) else (some false))) else (some false))) else (some false)) else (some false)
def laws_FnChains.l0 : Nat → List (S70) → ByteArray → ByteArray → Bool → List (S70) → Bool → List (S70) → List (S70) → ByteArray → ByteArray → Bool → ByteArray → Bool → Int → Int → Int → Int → Int → Int → Int → Option (Bool)
 | 0, _, _, _, _, _, _, _, _, _, _, _, _, _, _, _, _, _, _, _, _ => none
 | k + 1, x3, x4, x5, x6, x7, x8, x9, x10, x11, x12, x13, x15, x16, x17, x1271000, x1271001, x1271002, x1271003, x1271004, x1271005 => if x17 < (x9.length : Int) then (if x16 = true then (if 0 ≤ x17 then ((spec_EntryText.f k ((rd_T70 x9 x17).f0) ((rd_T70 x9 x17).f1) ((rd_T70 x9 x17).f2.f0) ((rd_T70 x9 x17).f2.f1) ((rd_T70 x9 x17).f2.f2) ((rd_T70 x9 x17).f2.f3)).bind fun t1287 => (if x17 < (x10.length : Int) then ((spec_EntryText.f k ((rd_T70 x10 x17).f0) ((rd_T70 x10 x17).f1) ((rd_T70 x10 x17).f2.f0) ((rd_T70 x10 x17).f2.f1) ((rd_T70 x10 x17).f2.f2) ((rd_T70 x10 x17).f2.f3)).bind fun t1289 => (laws_FnChains.l0 k x3 x4 x5 x6 x7 x8 x9 x10 x11 x12 x13 x15 (t1287.toList == t1289.toList) (wrap64 (x17 + 1)) x1271000 x1271001 x1271002 x1271003 x1271004 x1271005)) else (none))) else (none)) else (laws_FnChains.l0 k x3 x4 x5 x6 x7 x8 x9 x10 x11 x12 x13 x15 false (wrap64 (x17 + 1)) x1271000 x1271001 x1271002 x1271003 x1271004 x1271005)) else ((spec_HeadOf.f k x9).bind fun t1290 => ((spec_HeadOf.f k x10).bind fun t1291 => (if ((x11.toList == x12.toList) != x16) = true then (some false) else (if t1290.toList = t1291.toList then (if (x13 != (!x16)) = true then (some false) else (laws_FnChains.j2 k x3 x4 x5 x6 x7 x8 x15 x1271000 x1271001 x1271002 x1271003 x1271004 x1271005)) else (if (x13 != false) = true then (some false) else (laws_FnChains.j2 k x3 x4 x5 x6 x7 x8 x15 x1271000 x1271001 x1271002 x1271003 x1271004 x1271005))))))
end
def laws_FnChains.f (k : Nat) (l0 : List Int) : Option (Bool) := (laws_big.f l0).bind fun t1250 => (if t1250 = true then (some true) else ((spec_DrawEntries.f k l0).bind fun t1251 => ((impl_HeadOf.f k t1251).bind fun t1254 => ((impl_LogText.f k t1251).bind fun bt1255 => ((impl_ReadLog.f k bt1255.1).bind fun bt1257 => ((spec_DrawParted.f k l0).bind fun bt1261 => ((impl_Parted.f k bt1261.1 bt1261.2).bind fun bt1267 => ((some (([] : List (S70)) : List (S70))).bind fun y1271 => (if y1271.length + t1251.length < 2932031007402 then ((some (y1271 ++ t1251 : List (S70))).bind fun y1274 => ((some (([(⟨1, 9, (⟨1, 1, 2, 0⟩ : S68)⟩ : S70)] : List (S70)) : List (S70))).bind fun y1277 => (if y1274.length + y1277.length < 2932031007402 then ((impl_HeadOf.f k (y1274 ++ y1277)).bind fun t1283 => (if bt1267.2.2 = true then (if bt1267.1.toList = bt1267.2.1.toList then (laws_FnChains.j0 k t1251 t1254 bt1255.1 bt1255.2 bt1257.1 bt1257.2 bt1261.1 bt1261.2 bt1267.1 bt1267.2.1 bt1267.2.2 t1283 true 1 9 1 1 2 0) else ((spec_Digest.f bt1267.1).bind fun t1284 => ((spec_Digest.f bt1267.2.1).bind fun t1285 => (laws_FnChains.j0 k t1251 t1254 bt1255.1 bt1255.2 bt1257.1 bt1257.2 bt1261.1 bt1261.2 bt1267.1 bt1267.2.1 bt1267.2.2 t1283 (t1284.toList != t1285.toList) 1 9 1 1 2 0)))) else (laws_FnChains.j0 k t1251 t1254 bt1255.1 bt1255.2 bt1257.1 bt1257.2 bt1261.1 bt1261.2 bt1267.1 bt1267.2.1 bt1267.2.2 t1283 false 1 9 1 1 2 0))) else (none)))) else (none))))))))))
theorem laws_FnChains.mono_l : ∀ k, (∀ y0 y1 y2 y3 y4 y5 y6 y7 y8 y9 y10 y11 y12 y13 y14 y15 y16 y17 y18, LeO (laws_FnChains.j0 k y0 y1 y2 y3 y4 y5 y6 y7 y8 y9 y10 y11 y12 y13 y14 y15 y16 y17 y18) (laws_FnChains.j0 (k + 1) y0 y1 y2 y3 y4 y5 y6 y7 y8 y9 y10 y11 y12 y13 y14 y15 y16 y17 y18)) ∧ (∀ y0 y1 y2 y3 y4 y5 y6 y7 y8 y9 y10 y11 y12, LeO (laws_FnChains.j2 k y0 y1 y2 y3 y4 y5 y6 y7 y8 y9 y10 y11 y12) (laws_FnChains.j2 (k + 1) y0 y1 y2 y3 y4 y5 y6 y7 y8 y9 y10 y11 y12)) ∧ (∀ y0 y1 y2 y3 y4 y5 y6 y7 y8 y9 y10 y11 y12 y13 y14 y15 y16 y17 y18 y19, LeO (laws_FnChains.l0 k y0 y1 y2 y3 y4 y5 y6 y7 y8 y9 y10 y11 y12 y13 y14 y15 y16 y17 y18 y19) (laws_FnChains.l0 (k + 1) y0 y1 y2 y3 y4 y5 y6 y7 y8 y9 y10 y11 y12 y13 y14 y15 y16 y17 y18 y19))
 | 0 => ⟨fun _ _ _ _ _ _ _ _ _ _ _ _ _ _ _ _ _ _ _ r h => by simp [laws_FnChains.j0] at h, fun _ _ _ _ _ _ _ _ _ _ _ _ _ r h => by simp [laws_FnChains.j2] at h, fun _ _ _ _ _ _ _ _ _ _ _ _ _ _ _ _ _ _ _ _ r h => by simp [laws_FnChains.l0] at h⟩
 | k + 1 => by
  obtain ⟨ih0, ih1, ih2⟩ := laws_FnChains.mono_l k
  refine ⟨?_, ?_, ?_⟩
  ·intro y0 y1 y2 y3 y4 y5 y6 y7 y8 y9 y10 y11 y12 y13 y14 y15 y16 y17 y18
   unfold laws_FnChains.j0
   repeat' first
   | (with_reducible exact ih0 _ _ _ _ _ _ _ _ _ _ _ _ _ _ _ _ _ _ _)
   | (with_reducible exact ih1 _ _ _ _ _ _ _ _ _ _ _ _ _)
   | (with_reducible exact ih2 _ _ _ _ _ _ _ _ _ _ _ _ _ _ _ _ _ _ _ _)
   | (with_reducible exact impl_HeadOf.mono _ _)
   | (with_reducible exact impl_LogText.mono _ _)
   | (with_reducible exact impl_Parted.mono _ _ _)
   | (with_reducible exact impl_ReadLog.mono _ _)
   | (with_reducible exact impl_Verified.mono _ _ _)
   | (with_reducible exact laws_sameEntries.mono _ _ _)
   | (with_reducible exact spec_DrawEntries.mono _ _)
   | (with_reducible exact spec_DrawParted.mono _ _)
   | (with_reducible exact spec_EntryText.mono _ _ _ _ _ _ _)
   | (with_reducible exact spec_HeadOf.mono _ _)
   | (with_reducible exact LeO.refl _)
   | (with_reducible exact LeO.none _)
   | (with_reducible refine LeO.ite ?_ ?_)
   | (with_reducible refine LeO.bind ?_ (fun _ => ?_))
   | exact ih0 _ _ _ _ _ _ _ _ _ _ _ _ _ _ _ _ _ _ _
   | exact ih1 _ _ _ _ _ _ _ _ _ _ _ _ _
   | exact ih2 _ _ _ _ _ _ _ _ _ _ _ _ _ _ _ _ _ _ _ _
   | exact impl_HeadOf.mono _ _
   | exact impl_LogText.mono _ _
   | exact impl_Parted.mono _ _ _
   | exact impl_ReadLog.mono _ _
   | exact impl_Verified.mono _ _ _
   | exact laws_sameEntries.mono _ _ _
   | exact spec_DrawEntries.mono _ _
   | exact spec_DrawParted.mono _ _
   | exact spec_EntryText.mono _ _ _ _ _ _ _
   | exact spec_HeadOf.mono _ _
   | exact LeO.none _
   | refine LeO.ite ?_ ?_
   | refine LeO.bind ?_ (fun _ => ?_)
  ·intro y0 y1 y2 y3 y4 y5 y6 y7 y8 y9 y10 y11 y12
   unfold laws_FnChains.j2
   repeat' first
   | (with_reducible exact ih0 _ _ _ _ _ _ _ _ _ _ _ _ _ _ _ _ _ _ _)
   | (with_reducible exact ih1 _ _ _ _ _ _ _ _ _ _ _ _ _)
   | (with_reducible exact ih2 _ _ _ _ _ _ _ _ _ _ _ _ _ _ _ _ _ _ _ _)
   | (with_reducible exact impl_HeadOf.mono _ _)
   | (with_reducible exact impl_LogText.mono _ _)
   | (with_reducible exact impl_Parted.mono _ _ _)
   | (with_reducible exact impl_ReadLog.mono _ _)
   | (with_reducible exact impl_Verified.mono _ _ _)
   | (with_reducible exact laws_sameEntries.mono _ _ _)
   | (with_reducible exact spec_DrawEntries.mono _ _)
   | (with_reducible exact spec_DrawParted.mono _ _)
   | (with_reducible exact spec_EntryText.mono _ _ _ _ _ _ _)
   | (with_reducible exact spec_HeadOf.mono _ _)
   | (with_reducible exact LeO.refl _)
   | (with_reducible exact LeO.none _)
   | (with_reducible refine LeO.ite ?_ ?_)
   | (with_reducible refine LeO.bind ?_ (fun _ => ?_))
   | exact ih0 _ _ _ _ _ _ _ _ _ _ _ _ _ _ _ _ _ _ _
   | exact ih1 _ _ _ _ _ _ _ _ _ _ _ _ _
   | exact ih2 _ _ _ _ _ _ _ _ _ _ _ _ _ _ _ _ _ _ _ _
   | exact impl_HeadOf.mono _ _
   | exact impl_LogText.mono _ _
   | exact impl_Parted.mono _ _ _
   | exact impl_ReadLog.mono _ _
   | exact impl_Verified.mono _ _ _
   | exact laws_sameEntries.mono _ _ _
   | exact spec_DrawEntries.mono _ _
   | exact spec_DrawParted.mono _ _
   | exact spec_EntryText.mono _ _ _ _ _ _ _
   | exact spec_HeadOf.mono _ _
   | exact LeO.none _
   | refine LeO.ite ?_ ?_
   | refine LeO.bind ?_ (fun _ => ?_)
  ·intro y0 y1 y2 y3 y4 y5 y6 y7 y8 y9 y10 y11 y12 y13 y14 y15 y16 y17 y18 y19
   unfold laws_FnChains.l0
   repeat' first
   | (with_reducible exact ih0 _ _ _ _ _ _ _ _ _ _ _ _ _ _ _ _ _ _ _)
   | (with_reducible exact ih1 _ _ _ _ _ _ _ _ _ _ _ _ _)
   | (with_reducible exact ih2 _ _ _ _ _ _ _ _ _ _ _ _ _ _ _ _ _ _ _ _)
   | (with_reducible exact impl_HeadOf.mono _ _)
   | (with_reducible exact impl_LogText.mono _ _)
   | (with_reducible exact impl_Parted.mono _ _ _)
   | (with_reducible exact impl_ReadLog.mono _ _)
   | (with_reducible exact impl_Verified.mono _ _ _)
   | (with_reducible exact laws_sameEntries.mono _ _ _)
   | (with_reducible exact spec_DrawEntries.mono _ _)
   | (with_reducible exact spec_DrawParted.mono _ _)
   | (with_reducible exact spec_EntryText.mono _ _ _ _ _ _ _)
   | (with_reducible exact spec_HeadOf.mono _ _)
   | (with_reducible exact LeO.refl _)
   | (with_reducible exact LeO.none _)
   | (with_reducible refine LeO.ite ?_ ?_)
   | (with_reducible refine LeO.bind ?_ (fun _ => ?_))
   | exact ih0 _ _ _ _ _ _ _ _ _ _ _ _ _ _ _ _ _ _ _
   | exact ih1 _ _ _ _ _ _ _ _ _ _ _ _ _
   | exact ih2 _ _ _ _ _ _ _ _ _ _ _ _ _ _ _ _ _ _ _ _
   | exact impl_HeadOf.mono _ _
   | exact impl_LogText.mono _ _
   | exact impl_Parted.mono _ _ _
   | exact impl_ReadLog.mono _ _
   | exact impl_Verified.mono _ _ _
   | exact laws_sameEntries.mono _ _ _
   | exact spec_DrawEntries.mono _ _
   | exact spec_DrawParted.mono _ _
   | exact spec_EntryText.mono _ _ _ _ _ _ _
   | exact spec_HeadOf.mono _ _
   | exact LeO.none _
   | refine LeO.ite ?_ ?_
   | refine LeO.bind ?_ (fun _ => ?_)
theorem laws_FnChains.mono : ∀ a0 k, LeO (laws_FnChains.f k a0) (laws_FnChains.f (k + 1) a0) := by
 intro a0 k
 obtain ⟨ih0, ih1, ih2⟩ := laws_FnChains.mono_l k
 unfold laws_FnChains.f
 repeat' first
  | (with_reducible exact ih0 _ _ _ _ _ _ _ _ _ _ _ _ _ _ _ _ _ _ _)
  | (with_reducible exact ih1 _ _ _ _ _ _ _ _ _ _ _ _ _)
  | (with_reducible exact ih2 _ _ _ _ _ _ _ _ _ _ _ _ _ _ _ _ _ _ _ _)
  | (with_reducible exact impl_HeadOf.mono _ _)
  | (with_reducible exact impl_LogText.mono _ _)
  | (with_reducible exact impl_Parted.mono _ _ _)
  | (with_reducible exact impl_ReadLog.mono _ _)
  | (with_reducible exact impl_Verified.mono _ _ _)
  | (with_reducible exact laws_sameEntries.mono _ _ _)
  | (with_reducible exact spec_DrawEntries.mono _ _)
  | (with_reducible exact spec_DrawParted.mono _ _)
  | (with_reducible exact spec_EntryText.mono _ _ _ _ _ _ _)
  | (with_reducible exact spec_HeadOf.mono _ _)
  | (with_reducible exact LeO.refl _)
  | (with_reducible exact LeO.none _)
  | (with_reducible refine LeO.ite ?_ ?_)
  | (with_reducible refine LeO.bind ?_ (fun _ => ?_))
  | exact ih0 _ _ _ _ _ _ _ _ _ _ _ _ _ _ _ _ _ _ _
  | exact ih1 _ _ _ _ _ _ _ _ _ _ _ _ _
  | exact ih2 _ _ _ _ _ _ _ _ _ _ _ _ _ _ _ _ _ _ _ _
  | exact impl_HeadOf.mono _ _
  | exact impl_LogText.mono _ _
  | exact impl_Parted.mono _ _ _
  | exact impl_ReadLog.mono _ _
  | exact impl_Verified.mono _ _ _
  | exact laws_sameEntries.mono _ _ _
  | exact spec_DrawEntries.mono _ _
  | exact spec_DrawParted.mono _ _
  | exact spec_EntryText.mono _ _ _ _ _ _ _
  | exact spec_HeadOf.mono _ _
  | exact LeO.none _
  | refine LeO.ite ?_ ?_
  | refine LeO.bind ?_ (fun _ => ?_)
def laws_FnChains.T10 : Bool × List (List Nat × List Nat) := (true, [([], []), ([], []), ([0, 1], [0, 1]), ([], []), ([3], [3]), ([2, 4, 2], [2, 4]), ([5, 5], [5]), ([6, 6, 0, 1, 2, 3, 4, 5, 6], [6])])
def laws_FnChains.B10 : List Nat := [0, 0, 3, 0, 8, 31, 63, 127]
theorem laws_FnChains.tab10 : rtab .any (opsOf Tryd.f13 10) = laws_FnChains.T10 := by kernel_rfl
theorem laws_FnChains.bits10 : waitsOk laws_FnChains.T10.2 laws_FnChains.B10 = true := by kernel_rfl
def laws_FnChains.T18 : Bool × List (List Nat × List Nat) := (true, [([], []), ([0], [0]), ([1], [1]), ([1], [1]), ([2, 3, 1], [1, 2, 3]), ([4, 1], [1, 4]), ([5, 1, 1], [1, 5]), ([1], [1]), ([1], [1]), ([7, 8, 1], [1, 7, 8]), ([9, 1], [1, 9]), ([10, 6, 1], [1, 10]), ([6, 11, 1], [1, 6, 11]), ([1, 12], [1, 12]), ([13, 11, 0, 1, 2, 3, 4, 5, 6, 7, 8, 9, 10, 11, 12, 13], [0, 13])])
def laws_FnChains.B18 : List Nat := [0, 1, 3, 3, 15, 31, 63, 3, 3, 387, 899, 2047, 4095, 8191, 16383]
theorem laws_FnChains.tab18 : rtab .any (opsOf Tryd.f13 18) = laws_FnChains.T18 := by kernel_rfl
theorem laws_FnChains.bits18 : waitsOk laws_FnChains.T18.2 laws_FnChains.B18 = true := by kernel_rfl
set_option maxHeartbeats 8000000 in
set_option maxRecDepth 100000 in
theorem laws_FnChains.calls (k : Nat) (A0 : Option Addr) (c0 : Nat) (l0 : List Int) (r : Bool) (w : World) (hr0 : Kd.C (Kd.int .u8) w A0 l0.length l0) (hc0 : l0.length ≤ c0) (hT : Tab w) (hr1 : r = true) (h : laws_FnChains.f k l0 = some r) :
 Calls Tryd.prog 13 #[.slice A0 l0.length c0] w fun e w' => e = .returned (.bool r) ∧ Below w.heap.size w w' := by
 have hu68 := Tryd.underlying68
 have hu70 := Tryd.underlying70
 have HR0 := Aside0.mk hr0
 have HC0 := Aside0.mk hc0
 clear hr0 hc0
 have HT := Aside0.mk hT
 clear hT
 have HR1 := Aside0.mk hr1
 clear hr1
 have HB := Aside0.mk (Below.refl w.heap.size w)
 have H : ((laws_big.f l0).bind fun t1250 => (if t1250 = true then (some true) else ((spec_DrawEntries.f k l0).bind fun t1251 => ((impl_HeadOf.f k t1251).bind fun t1254 => ((impl_LogText.f k t1251).bind fun bt1255 => ((impl_ReadLog.f k bt1255.1).bind fun bt1257 => ((spec_DrawParted.f k l0).bind fun bt1261 => ((impl_Parted.f k bt1261.1 bt1261.2).bind fun bt1267 => ((some (([] : List (S70)) : List (S70))).bind fun y1271 => (if y1271.length + t1251.length < 2932031007402 then ((some (y1271 ++ t1251 : List (S70))).bind fun y1274 => ((some (([(⟨1, 9, (⟨1, 1, 2, 0⟩ : S68)⟩ : S70)] : List (S70)) : List (S70))).bind fun y1277 => (if y1274.length + y1277.length < 2932031007402 then ((impl_HeadOf.f k (y1274 ++ y1277)).bind fun t1283 => (if bt1267.2.2 = true then (if bt1267.1.toList = bt1267.2.1.toList then (laws_FnChains.j0 k t1251 t1254 bt1255.1 bt1255.2 bt1257.1 bt1257.2 bt1261.1 bt1261.2 bt1267.1 bt1267.2.1 bt1267.2.2 t1283 true 1 9 1 1 2 0) else ((spec_Digest.f bt1267.1).bind fun t1284 => ((spec_Digest.f bt1267.2.1).bind fun t1285 => (laws_FnChains.j0 k t1251 t1254 bt1255.1 bt1255.2 bt1257.1 bt1257.2 bt1261.1 bt1261.2 bt1267.1 bt1267.2.1 bt1267.2.2 t1283 (t1284.toList != t1285.toList) 1 9 1 1 2 0)))) else (laws_FnChains.j0 k t1251 t1254 bt1255.1 bt1255.2 bt1257.1 bt1257.2 bt1261.1 bt1261.2 bt1267.1 bt1267.2.1 bt1267.2.2 t1283 false 1 9 1 1 2 0))) else (none)))) else (none))))))))))) = some r := h
 clear h
 replace H := Option.bind_eq_some_iff.mp H
 obtain ⟨t1250, A20, H⟩ := H
 replace H : (if t1250 = true then (some true) else ((spec_DrawEntries.f k l0).bind fun t1251 => ((impl_HeadOf.f k t1251).bind fun t1254 => ((impl_LogText.f k t1251).bind fun bt1255 => ((impl_ReadLog.f k bt1255.1).bind fun bt1257 => ((spec_DrawParted.f k l0).bind fun bt1261 => ((impl_Parted.f k bt1261.1 bt1261.2).bind fun bt1267 => ((some (([] : List (S70)) : List (S70))).bind fun y1271 => (if y1271.length + t1251.length < 2932031007402 then ((some (y1271 ++ t1251 : List (S70))).bind fun y1274 => ((some (([(⟨1, 9, (⟨1, 1, 2, 0⟩ : S68)⟩ : S70)] : List (S70)) : List (S70))).bind fun y1277 => (if y1274.length + y1277.length < 2932031007402 then ((impl_HeadOf.f k (y1274 ++ y1277)).bind fun t1283 => (if bt1267.2.2 = true then (if bt1267.1.toList = bt1267.2.1.toList then (laws_FnChains.j0 k t1251 t1254 bt1255.1 bt1255.2 bt1257.1 bt1257.2 bt1261.1 bt1261.2 bt1267.1 bt1267.2.1 bt1267.2.2 t1283 true 1 9 1 1 2 0) else ((spec_Digest.f bt1267.1).bind fun t1284 => ((spec_Digest.f bt1267.2.1).bind fun t1285 => (laws_FnChains.j0 k t1251 t1254 bt1255.1 bt1255.2 bt1257.1 bt1257.2 bt1261.1 bt1261.2 bt1267.1 bt1267.2.1 bt1267.2.2 t1283 (t1284.toList != t1285.toList) 1 9 1 1 2 0)))) else (laws_FnChains.j0 k t1251 t1254 bt1255.1 bt1255.2 bt1257.1 bt1257.2 bt1261.1 bt1261.2 bt1267.1 bt1267.2.1 bt1267.2.2 t1283 false 1 9 1 1 2 0))) else (none)))) else (none)))))))))) = some r := H
 have A2 := Aside0.mk A20
 clear A20
 by_cases c3 : t1250 = true
 ·subst c3
  have H1 : (some true) = some r := by rw [if_pos rfl] at H; exact H
  clear H
  have H := H1
  clear H1
  obtain rfl := Option.some.inj H
  go_enter Tryd.func13, Tryd.ntmps13
  go_wp2_with (first | ((with_reducible refine gate_callee (f := 47) rfl ?_); refine goesL_ (some 20) rfl rfl Tryd.func47 (by kernel_rfl) rfl #[.slice A0 l0.length c0] rfl lm_ ?_; (with_reducible refine (laws_big.calls _ _ l0 true _ ?side1 ?side2 A2.out).mono ?_); (case side1 => repeat (first | exact HR0.out | (with_reducible refine Kd.C_alloc ?_ _) | (with_reducible refine Kd.C_drewN ?_ _) | (with_reducible refine Kd.C_drew ?_))); (case side2 => exact HC0.out); rintro e w' ⟨rfl, ⟨nd, rfl⟩⟩; refine ⟨_, rfl, ?_⟩))
  go_ret
  exact ⟨by first | rfl | (simp [errW_none, errW_some] <;> rfl) | (simp [*, errW_none, errW_some] <;> rfl) | exact False.elim (Bool.noConfusion ((decide_eq_true (of_eq_true (by assumption))).symm.trans (by assumption))), bl_⟩
 ·replace c3 := Bool.eq_false_iff.mpr c3
  subst c3
  have H1 : ((spec_DrawEntries.f k l0).bind fun t1251 => ((impl_HeadOf.f k t1251).bind fun t1254 => ((impl_LogText.f k t1251).bind fun bt1255 => ((impl_ReadLog.f k bt1255.1).bind fun bt1257 => ((spec_DrawParted.f k l0).bind fun bt1261 => ((impl_Parted.f k bt1261.1 bt1261.2).bind fun bt1267 => ((some (([] : List (S70)) : List (S70))).bind fun y1271 => (if y1271.length + t1251.length < 2932031007402 then ((some (y1271 ++ t1251 : List (S70))).bind fun y1274 => ((some (([(⟨1, 9, (⟨1, 1, 2, 0⟩ : S68)⟩ : S70)] : List (S70)) : List (S70))).bind fun y1277 => (if y1274.length + y1277.length < 2932031007402 then ((impl_HeadOf.f k (y1274 ++ y1277)).bind fun t1283 => (if bt1267.2.2 = true then (if bt1267.1.toList = bt1267.2.1.toList then (laws_FnChains.j0 k t1251 t1254 bt1255.1 bt1255.2 bt1257.1 bt1257.2 bt1261.1 bt1261.2 bt1267.1 bt1267.2.1 bt1267.2.2 t1283 true 1 9 1 1 2 0) else ((spec_Digest.f bt1267.1).bind fun t1284 => ((spec_Digest.f bt1267.2.1).bind fun t1285 => (laws_FnChains.j0 k t1251 t1254 bt1255.1 bt1255.2 bt1257.1 bt1257.2 bt1261.1 bt1261.2 bt1267.1 bt1267.2.1 bt1267.2.2 t1283 (t1284.toList != t1285.toList) 1 9 1 1 2 0)))) else (laws_FnChains.j0 k t1251 t1254 bt1255.1 bt1255.2 bt1257.1 bt1257.2 bt1261.1 bt1261.2 bt1267.1 bt1267.2.1 bt1267.2.2 t1283 false 1 9 1 1 2 0))) else (none)))) else (none))))))))) = some r := by rw [if_neg (show ¬ (false = true) by decide)] at H; exact H
  clear H
  have H := H1
  clear H1
  replace H := Option.bind_eq_some_iff.mp H
  obtain ⟨t1251, A40, H⟩ := H
  replace H : ((impl_HeadOf.f k t1251).bind fun t1254 => ((impl_LogText.f k t1251).bind fun bt1255 => ((impl_ReadLog.f k bt1255.1).bind fun bt1257 => ((spec_DrawParted.f k l0).bind fun bt1261 => ((impl_Parted.f k bt1261.1 bt1261.2).bind fun bt1267 => ((some (([] : List (S70)) : List (S70))).bind fun y1271 => (if y1271.length + t1251.length < 2932031007402 then ((some (y1271 ++ t1251 : List (S70))).bind fun y1274 => ((some (([(⟨1, 9, (⟨1, 1, 2, 0⟩ : S68)⟩ : S70)] : List (S70)) : List (S70))).bind fun y1277 => (if y1274.length + y1277.length < 2932031007402 then ((impl_HeadOf.f k (y1274 ++ y1277)).bind fun t1283 => (if bt1267.2.2 = true then (if bt1267.1.toList = bt1267.2.1.toList then (laws_FnChains.j0 k t1251 t1254 bt1255.1 bt1255.2 bt1257.1 bt1257.2 bt1261.1 bt1261.2 bt1267.1 bt1267.2.1 bt1267.2.2 t1283 true 1 9 1 1 2 0) else ((spec_Digest.f bt1267.1).bind fun t1284 => ((spec_Digest.f bt1267.2.1).bind fun t1285 => (laws_FnChains.j0 k t1251 t1254 bt1255.1 bt1255.2 bt1257.1 bt1257.2 bt1261.1 bt1261.2 bt1267.1 bt1267.2.1 bt1267.2.2 t1283 (t1284.toList != t1285.toList) 1 9 1 1 2 0)))) else (laws_FnChains.j0 k t1251 t1254 bt1255.1 bt1255.2 bt1257.1 bt1257.2 bt1261.1 bt1261.2 bt1267.1 bt1267.2.1 bt1267.2.2 t1283 false 1 9 1 1 2 0))) else (none)))) else (none)))))))) = some r := H
  have A4 := Aside0.mk A40
  clear A40
  replace H := Option.bind_eq_some_iff.mp H
  obtain ⟨t1254, A50, H⟩ := H
  replace H : ((impl_LogText.f k t1251).bind fun bt1255 => ((impl_ReadLog.f k bt1255.1).bind fun bt1257 => ((spec_DrawParted.f k l0).bind fun bt1261 => ((impl_Parted.f k bt1261.1 bt1261.2).bind fun bt1267 => ((some (([] : List (S70)) : List (S70))).bind fun y1271 => (if y1271.length + t1251.length < 2932031007402 then ((some (y1271 ++ t1251 : List (S70))).bind fun y1274 => ((some (([(⟨1, 9, (⟨1, 1, 2, 0⟩ : S68)⟩ : S70)] : List (S70)) : List (S70))).bind fun y1277 => (if y1274.length + y1277.length < 2932031007402 then ((impl_HeadOf.f k (y1274 ++ y1277)).bind fun t1283 => (if bt1267.2.2 = true then (if bt1267.1.toList = bt1267.2.1.toList then (laws_FnChains.j0 k t1251 t1254 bt1255.1 bt1255.2 bt1257.1 bt1257.2 bt1261.1 bt1261.2 bt1267.1 bt1267.2.1 bt1267.2.2 t1283 true 1 9 1 1 2 0) else ((spec_Digest.f bt1267.1).bind fun t1284 => ((spec_Digest.f bt1267.2.1).bind fun t1285 => (laws_FnChains.j0 k t1251 t1254 bt1255.1 bt1255.2 bt1257.1 bt1257.2 bt1261.1 bt1261.2 bt1267.1 bt1267.2.1 bt1267.2.2 t1283 (t1284.toList != t1285.toList) 1 9 1 1 2 0)))) else (laws_FnChains.j0 k t1251 t1254 bt1255.1 bt1255.2 bt1257.1 bt1257.2 bt1261.1 bt1261.2 bt1267.1 bt1267.2.1 bt1267.2.2 t1283 false 1 9 1 1 2 0))) else (none)))) else (none))))))) = some r := H
  have A5 := Aside0.mk A50
  clear A50
  replace H := Option.bind_eq_some_iff.mp H
  obtain ⟨⟨t1255, t1256⟩, A60, H⟩ := H
  replace H : ((impl_ReadLog.f k t1255).bind fun bt1257 => ((spec_DrawParted.f k l0).bind fun bt1261 => ((impl_Parted.f k bt1261.1 bt1261.2).bind fun bt1267 => ((some (([] : List (S70)) : List (S70))).bind fun y1271 => (if y1271.length + t1251.length < 2932031007402 then ((some (y1271 ++ t1251 : List (S70))).bind fun y1274 => ((some (([(⟨1, 9, (⟨1, 1, 2, 0⟩ : S68)⟩ : S70)] : List (S70)) : List (S70))).bind fun y1277 => (if y1274.length + y1277.length < 2932031007402 then ((impl_HeadOf.f k (y1274 ++ y1277)).bind fun t1283 => (if bt1267.2.2 = true then (if bt1267.1.toList = bt1267.2.1.toList then (laws_FnChains.j0 k t1251 t1254 t1255 t1256 bt1257.1 bt1257.2 bt1261.1 bt1261.2 bt1267.1 bt1267.2.1 bt1267.2.2 t1283 true 1 9 1 1 2 0) else ((spec_Digest.f bt1267.1).bind fun t1284 => ((spec_Digest.f bt1267.2.1).bind fun t1285 => (laws_FnChains.j0 k t1251 t1254 t1255 t1256 bt1257.1 bt1257.2 bt1261.1 bt1261.2 bt1267.1 bt1267.2.1 bt1267.2.2 t1283 (t1284.toList != t1285.toList) 1 9 1 1 2 0)))) else (laws_FnChains.j0 k t1251 t1254 t1255 t1256 bt1257.1 bt1257.2 bt1261.1 bt1261.2 bt1267.1 bt1267.2.1 bt1267.2.2 t1283 false 1 9 1 1 2 0))) else (none)))) else (none)))))) = some r := H
  have A6 := Aside0.mk A60
  clear A60
  replace H := Option.bind_eq_some_iff.mp H
  obtain ⟨⟨t1257, t1258⟩, A70, H⟩ := H
  replace H : ((spec_DrawParted.f k l0).bind fun bt1261 => ((impl_Parted.f k bt1261.1 bt1261.2).bind fun bt1267 => ((some (([] : List (S70)) : List (S70))).bind fun y1271 => (if y1271.length + t1251.length < 2932031007402 then ((some (y1271 ++ t1251 : List (S70))).bind fun y1274 => ((some (([(⟨1, 9, (⟨1, 1, 2, 0⟩ : S68)⟩ : S70)] : List (S70)) : List (S70))).bind fun y1277 => (if y1274.length + y1277.length < 2932031007402 then ((impl_HeadOf.f k (y1274 ++ y1277)).bind fun t1283 => (if bt1267.2.2 = true then (if bt1267.1.toList = bt1267.2.1.toList then (laws_FnChains.j0 k t1251 t1254 t1255 t1256 t1257 t1258 bt1261.1 bt1261.2 bt1267.1 bt1267.2.1 bt1267.2.2 t1283 true 1 9 1 1 2 0) else ((spec_Digest.f bt1267.1).bind fun t1284 => ((spec_Digest.f bt1267.2.1).bind fun t1285 => (laws_FnChains.j0 k t1251 t1254 t1255 t1256 t1257 t1258 bt1261.1 bt1261.2 bt1267.1 bt1267.2.1 bt1267.2.2 t1283 (t1284.toList != t1285.toList) 1 9 1 1 2 0)))) else (laws_FnChains.j0 k t1251 t1254 t1255 t1256 t1257 t1258 bt1261.1 bt1261.2 bt1267.1 bt1267.2.1 bt1267.2.2 t1283 false 1 9 1 1 2 0))) else (none)))) else (none))))) = some r := H
  have A7 := Aside0.mk A70
  clear A70
  replace H := Option.bind_eq_some_iff.mp H
  obtain ⟨⟨t1261, t1262⟩, A80, H⟩ := H
  replace H : ((impl_Parted.f k t1261 t1262).bind fun bt1267 => ((some (([] : List (S70)) : List (S70))).bind fun y1271 => (if y1271.length + t1251.length < 2932031007402 then ((some (y1271 ++ t1251 : List (S70))).bind fun y1274 => ((some (([(⟨1, 9, (⟨1, 1, 2, 0⟩ : S68)⟩ : S70)] : List (S70)) : List (S70))).bind fun y1277 => (if y1274.length + y1277.length < 2932031007402 then ((impl_HeadOf.f k (y1274 ++ y1277)).bind fun t1283 => (if bt1267.2.2 = true then (if bt1267.1.toList = bt1267.2.1.toList then (laws_FnChains.j0 k t1251 t1254 t1255 t1256 t1257 t1258 t1261 t1262 bt1267.1 bt1267.2.1 bt1267.2.2 t1283 true 1 9 1 1 2 0) else ((spec_Digest.f bt1267.1).bind fun t1284 => ((spec_Digest.f bt1267.2.1).bind fun t1285 => (laws_FnChains.j0 k t1251 t1254 t1255 t1256 t1257 t1258 t1261 t1262 bt1267.1 bt1267.2.1 bt1267.2.2 t1283 (t1284.toList != t1285.toList) 1 9 1 1 2 0)))) else (laws_FnChains.j0 k t1251 t1254 t1255 t1256 t1257 t1258 t1261 t1262 bt1267.1 bt1267.2.1 bt1267.2.2 t1283 false 1 9 1 1 2 0))) else (none)))) else (none)))) = some r := H
  have A8 := Aside0.mk A80
  clear A80
  replace H := Option.bind_eq_some_iff.mp H
  obtain ⟨⟨t1267, t1268, t1269⟩, A90, H⟩ := H
  replace H : ((some (([] : List (S70)) : List (S70))).bind fun y1271 => (if y1271.length + t1251.length < 2932031007402 then ((some (y1271 ++ t1251 : List (S70))).bind fun y1274 => ((some (([(⟨1, 9, (⟨1, 1, 2, 0⟩ : S68)⟩ : S70)] : List (S70)) : List (S70))).bind fun y1277 => (if y1274.length + y1277.length < 2932031007402 then ((impl_HeadOf.f k (y1274 ++ y1277)).bind fun t1283 => (if t1269 = true then (if t1267.toList = t1268.toList then (laws_FnChains.j0 k t1251 t1254 t1255 t1256 t1257 t1258 t1261 t1262 t1267 t1268 t1269 t1283 true 1 9 1 1 2 0) else ((spec_Digest.f t1267).bind fun t1284 => ((spec_Digest.f t1268).bind fun t1285 => (laws_FnChains.j0 k t1251 t1254 t1255 t1256 t1257 t1258 t1261 t1262 t1267 t1268 t1269 t1283 (t1284.toList != t1285.toList) 1 9 1 1 2 0)))) else (laws_FnChains.j0 k t1251 t1254 t1255 t1256 t1257 t1258 t1261 t1262 t1267 t1268 t1269 t1283 false 1 9 1 1 2 0))) else (none)))) else (none))) = some r := H
  have A9 := Aside0.mk A90
  clear A90
  obtain ⟨y1271, hy1271⟩ : ∃ y_ : List (S70), y_ = (([] : List (S70))) := ⟨_, rfl⟩
  replace H : (if y1271.length + t1251.length < 2932031007402 then ((some (y1271 ++ t1251 : List (S70))).bind fun y1274 => ((some (([(⟨1, 9, (⟨1, 1, 2, 0⟩ : S68)⟩ : S70)] : List (S70)) : List (S70))).bind fun y1277 => (if y1274.length + y1277.length < 2932031007402 then ((impl_HeadOf.f k (y1274 ++ y1277)).bind fun t1283 => (if t1269 = true then (if t1267.toList = t1268.toList then (laws_FnChains.j0 k t1251 t1254 t1255 t1256 t1257 t1258 t1261 t1262 t1267 t1268 t1269 t1283 true 1 9 1 1 2 0) else ((spec_Digest.f t1267).bind fun t1284 => ((spec_Digest.f t1268).bind fun t1285 => (laws_FnChains.j0 k t1251 t1254 t1255 t1256 t1257 t1258 t1261 t1262 t1267 t1268 t1269 t1283 (t1284.toList != t1285.toList) 1 9 1 1 2 0)))) else (laws_FnChains.j0 k t1251 t1254 t1255 t1256 t1257 t1258 t1261 t1262 t1267 t1268 t1269 t1283 false 1 9 1 1 2 0))) else (none)))) else (none)) = some r := by first | (rw [hy1271]; with_reducible exact H) | (have H2_ := (Option.bind_some _ _).symm.trans H; rw [hy1271]; with_reducible exact H2_) | (have H2_ := (Option.bind_some _ _).symm.trans H; with_reducible exact H2_) | with_reducible exact H | (rw [hy1271]; exact H) | exact H
  have Ny1271 := Aside0.mk hy1271
  clear hy1271
  by_cases c10 : y1271.length + t1251.length < 2932031007402
  ·rw [if_pos c10] at H
   have LMc10 := Aside0.mk c10
   clear c10
   obtain ⟨y1274, hy1274⟩ : ∃ y_ : List (S70), y_ = (y1271 ++ t1251) := ⟨_, rfl⟩
   replace H : ((some (([(⟨1, 9, (⟨1, 1, 2, 0⟩ : S68)⟩ : S70)] : List (S70)) : List (S70))).bind fun y1277 => (if y1274.length + y1277.length < 2932031007402 then ((impl_HeadOf.f k (y1274 ++ y1277)).bind fun t1283 => (if t1269 = true then (if t1267.toList = t1268.toList then (laws_FnChains.j0 k t1251 t1254 t1255 t1256 t1257 t1258 t1261 t1262 t1267 t1268 t1269 t1283 true 1 9 1 1 2 0) else ((spec_Digest.f t1267).bind fun t1284 => ((spec_Digest.f t1268).bind fun t1285 => (laws_FnChains.j0 k t1251 t1254 t1255 t1256 t1257 t1258 t1261 t1262 t1267 t1268 t1269 t1283 (t1284.toList != t1285.toList) 1 9 1 1 2 0)))) else (laws_FnChains.j0 k t1251 t1254 t1255 t1256 t1257 t1258 t1261 t1262 t1267 t1268 t1269 t1283 false 1 9 1 1 2 0))) else (none))) = some r := by first | (rw [hy1274]; with_reducible exact H) | (have H2_ := (Option.bind_some _ _).symm.trans H; rw [hy1274]; with_reducible exact H2_) | (have H2_ := (Option.bind_some _ _).symm.trans H; with_reducible exact H2_) | with_reducible exact H | (rw [hy1274]; exact H) | exact H
   have Ny1274 := Aside0.mk hy1274
   clear hy1274
   obtain ⟨y1277, hy1277⟩ : ∃ y_ : List (S70), y_ = (([(⟨1, 9, (⟨1, 1, 2, 0⟩ : S68)⟩ : S70)] : List (S70))) := ⟨_, rfl⟩
   replace H : (if y1274.length + y1277.length < 2932031007402 then ((impl_HeadOf.f k (y1274 ++ y1277)).bind fun t1283 => (if t1269 = true then (if t1267.toList = t1268.toList then (laws_FnChains.j0 k t1251 t1254 t1255 t1256 t1257 t1258 t1261 t1262 t1267 t1268 t1269 t1283 true 1 9 1 1 2 0) else ((spec_Digest.f t1267).bind fun t1284 => ((spec_Digest.f t1268).bind fun t1285 => (laws_FnChains.j0 k t1251 t1254 t1255 t1256 t1257 t1258 t1261 t1262 t1267 t1268 t1269 t1283 (t1284.toList != t1285.toList) 1 9 1 1 2 0)))) else (laws_FnChains.j0 k t1251 t1254 t1255 t1256 t1257 t1258 t1261 t1262 t1267 t1268 t1269 t1283 false 1 9 1 1 2 0))) else (none)) = some r := by first | (rw [hy1277]; with_reducible exact H) | (have H2_ := (Option.bind_some _ _).symm.trans H; rw [hy1277]; with_reducible exact H2_) | (have H2_ := (Option.bind_some _ _).symm.trans H; with_reducible exact H2_) | with_reducible exact H | (rw [hy1277]; exact H) | exact H
   have Ny1277 := Aside0.mk hy1277
   clear hy1277
   by_cases c11 : y1274.length + y1277.length < 2932031007402
   ·rw [if_pos c11] at H
    have LMc11 := Aside0.mk c11
    clear c11
    obtain ⟨y1280, hy1280⟩ : ∃ y_ : List (S70), y_ = (y1274 ++ y1277) := ⟨_, rfl⟩
    replace H : ((impl_HeadOf.f k y1280).bind fun t1283 => (if t1269 = true then (if t1267.toList = t1268.toList then (laws_FnChains.j0 k t1251 t1254 t1255 t1256 t1257 t1258 t1261 t1262 t1267 t1268 t1269 t1283 true 1 9 1 1 2 0) else ((spec_Digest.f t1267).bind fun t1284 => ((spec_Digest.f t1268).bind fun t1285 => (laws_FnChains.j0 k t1251 t1254 t1255 t1256 t1257 t1258 t1261 t1262 t1267 t1268 t1269 t1283 (t1284.toList != t1285.toList) 1 9 1 1 2 0)))) else (laws_FnChains.j0 k t1251 t1254 t1255 t1256 t1257 t1258 t1261 t1262 t1267 t1268 t1269 t1283 false 1 9 1 1 2 0))) = some r := by first | (rw [hy1280]; with_reducible exact H) | (have H2_ := (Option.bind_some _ _).symm.trans H; rw [hy1280]; with_reducible exact H2_) | (have H2_ := (Option.bind_some _ _).symm.trans H; with_reducible exact H2_) | with_reducible exact H | (rw [hy1280]; exact H) | exact H
    have Ny1280 := Aside0.mk hy1280
    clear hy1280
    replace H := Option.bind_eq_some_iff.mp H
    obtain ⟨t1283, A120, H⟩ := H
    replace H : (if t1269 = true then (if t1267.toList = t1268.toList then (laws_FnChains.j0 k t1251 t1254 t1255 t1256 t1257 t1258 t1261 t1262 t1267 t1268 t1269 t1283 true 1 9 1 1 2 0) else ((spec_Digest.f t1267).bind fun t1284 => ((spec_Digest.f t1268).bind fun t1285 => (laws_FnChains.j0 k t1251 t1254 t1255 t1256 t1257 t1258 t1261 t1262 t1267 t1268 t1269 t1283 (t1284.toList != t1285.toList) 1 9 1 1 2 0)))) else (laws_FnChains.j0 k t1251 t1254 t1255 t1256 t1257 t1258 t1261 t1262 t1267 t1268 t1269 t1283 false 1 9 1 1 2 0)) = some r := H
    have A12 := Aside0.mk A120
    clear A120
    have HC13 := Aside0.mk H
    clear H
    go_enter Tryd.func13, Tryd.ntmps13
    try go_wp2_with (first | ((with_reducible refine gate_callee (f := 47) rfl ?_); refine goesL_ (some 20) rfl rfl Tryd.func47 (by kernel_rfl) rfl #[.slice A0 l0.length c0] rfl lm_ ?_; (with_reducible refine (laws_big.calls _ _ l0 false _ ?side1 ?side2 A2.out).mono ?_); (case side1 => repeat (first | exact HR0.out | (with_reducible refine Kd.C_alloc ?_ _) | (with_reducible refine Kd.C_drewN ?_ _) | (with_reducible refine Kd.C_drew ?_))); (case side2 => exact HC0.out); rintro e w' ⟨rfl, ⟨nd, rfl⟩⟩; refine ⟨_, rfl, ?_⟩) | ((with_reducible refine gate_callee (f := 48) rfl ?_); refine goesL_ (some 22) rfl rfl Tryd.func48 (by kernel_rfl) rfl #[.slice A0 l0.length c0] rfl lm_ ?_; (with_reducible refine (spec_DrawEntries.calls k _ _ l0 t1251 _ ?side1 ?side2 A4.out).mono ?_); (case side1 => repeat (first | exact HR0.out | (with_reducible refine Kd.C_alloc ?_ _) | (with_reducible refine Kd.C_drewN ?_ _) | (with_reducible refine Kd.C_drew ?_))); (case side2 => exact HC0.out); rintro e w14 ⟨v1252, rfl, ho0, hb⟩; refine ⟨_, rfl, ?_⟩; have n0_ := Aside0.mk (Kd.R_lower ho0 (below_size bl_)); have n1_ := Aside0.mk (below_step bl_ hb); clear HB; have HO1253 := n0_; have HB := n1_; clear n0_ n1_; (try clear hb); (try clear hb2); (try clear hk); (try clear hi); (try clear ho0); obtain ⟨Ao15, co15, eo15⟩ := Kd.R_slice HO1253.out; subst eo15) | ((with_reducible refine gate_callee (f := 59) rfl ?_); refine goesL_ (some 24) rfl rfl Tryd.func59 (by kernel_rfl) rfl #[.slice Ao15 t1251.length co15] rfl lm_ ?_; (with_reducible refine (impl_HeadOf.calls k _ _ t1251 t1254 _ ?side1 ?side2 ?side3 A5.out).mono ?_); (case side1 => repeat (first | exact (Kd.R_reads' HO1253.out).2.2 | (with_reducible refine Kd.C_alloc ?_ _) | (with_reducible refine Kd.C_drewN ?_ _) | (with_reducible refine Kd.C_drew ?_))); (case side2 => exact (Kd.R_reads' HO1253.out).2.1); (case side3 => exact tab_of HT.out bl_); rintro e w16 ⟨rfl, hb⟩; refine ⟨_, rfl, ?_⟩; have n0_ := Aside0.mk (Kd.R_below (ra_ HO1253.out) hb); have n1_ := Aside0.mk (below_step bl_ hb); clear HO1253; clear HB; have HO1253 := n0_; have HB := n1_; clear n0_ n1_; (try clear hb); (try clear hb2); (try clear hk); (try clear hi)) | ((with_reducible refine gate_callee (f := 60) rfl ?_); refine goesL_ (some 27) rfl rfl Tryd.func60 (by kernel_rfl) rfl #[.slice Ao15 t1251.length co15] rfl lm_ ?_; (with_reducible refine (impl_LogText.calls k _ _ t1251 t1255 t1256 _ ?side1 ?side2 A6.out).mono ?_); (case side1 => repeat (first | exact (Kd.R_reads' HO1253.out).2.2 | (with_reducible refine Kd.C_alloc ?_ _) | (with_reducible refine Kd.C_drewN ?_ _) | (with_reducible refine Kd.C_drew ?_))); (case side2 => exact (Kd.R_reads' HO1253.out).2.1); rintro e w17 ⟨rfl, hb⟩; refine ⟨_, rfl, ?_⟩; have n0_ := Aside0.mk (Kd.R_below (ra_ HO1253.out) hb); have n1_ := Aside0.mk (below_step bl_ hb); clear HO1253; clear HB; have HO1253 := n0_; have HB := n1_; clear n0_ n1_; (try clear hb); (try clear hb2); (try clear hk); (try clear hi)) | ((with_reducible refine gate_callee (f := 61) rfl ?_); refine goesL_ (some 32) rfl rfl Tryd.func61 (by kernel_rfl) rfl #[.string t1255] rfl lm_ ?_; (with_reducible refine (impl_ReadLog.calls k t1255 t1257 t1258 _ A7.out).mono ?_); rintro e w18 ⟨v1259, rfl, ho0, hb⟩; refine ⟨_, rfl, ?_⟩; have n0_ := Aside0.mk (Kd.R_elder' (ra_ HO1253.out) (Kd.R_base ho0) hb); have n1_ := Aside0.mk (Kd.R_lower (Kd.R_new' ho0 (Kd.R_lt (ra_ HO1253.out))) (below_size bl_)); have n2_ := Aside0.mk (below_step bl_ hb); clear HO1253; clear HB; have HO1253 := n0_; have HO1260 := n1_; have HB := n2_; clear n0_ n1_ n2_; (try clear hb); (try clear hb2); (try clear hk); (try clear hi); (try clear ho0)) | ((with_reducible refine gate_callee (f := 62) rfl ?_); refine goesL_ (some 37) rfl rfl Tryd.func62 (by kernel_rfl) rfl #[.slice A0 l0.length c0] rfl lm_ ?_; (with_reducible refine (spec_DrawParted.calls k _ _ l0 t1261 t1262 _ ?side1 ?side2 A8.out).mono ?_); (case side1 => repeat (first | exact (Kd.C_below HR0.out HB.out) | exact HR0.out | (with_reducible refine Kd.C_alloc ?_ _) | (with_reducible refine Kd.C_drewN ?_ _) | (with_reducible refine Kd.C_drew ?_))); (case side2 => exact HC0.out); rintro e w19 ⟨v1263, v1265, rfl, ho0, ho1, hb⟩; refine ⟨_, rfl, ?_⟩; have n0_ := Aside0.mk (Kd.R_mono (Kd.R_told (Kd.R_told (Kd.R_old (ra_ HO1253.out) hb) (Kd.R_base ho0)) (Kd.R_base ho1)) (fun _ h_ => h_.1)); have n1_ := Aside0.mk (Kd.R_mono (Kd.R_told (Kd.R_told (Kd.R_old (ra_ HO1260.out) hb) (Kd.R_base ho0)) (Kd.R_base ho1)) (fun _ h_ => h_.1)); have n2_ := Aside0.mk (Kd.R_lower (Kd.R_new' (Kd.R_new' ho0 (Kd.R_lt (ra_ HO1253.out))) (Kd.R_lt (ra_ HO1260.out))) (below_size bl_)); have n3_ := Aside0.mk (Kd.R_lower (Kd.R_new' (Kd.R_new' ho1 (Kd.R_lt (ra_ HO1253.out))) (Kd.R_lt (ra_ HO1260.out))) (below_size bl_)); have n4_ := Aside0.mk (below_step bl_ hb); clear HO1253; clear HO1260; clear HB; have HO1253 := n0_; have HO1260 := n1_; have HO1264 := n2_; have HO1266 := n3_; have HB := n4_; clear n0_ n1_ n2_ n3_ n4_; (try clear hb); (try clear hb2); (try clear hk); (try clear hi); (try clear ho0); (try clear ho1); obtain ⟨Ao20, co20, eo20⟩ := Kd.R_slice HO1264.out; subst eo20; obtain ⟨Ao21, co21, eo21⟩ := Kd.R_slice HO1266.out; subst eo21) | ((with_reducible refine gate_callee (f := 63) rfl ?_); refine goesL_ (some 43) rfl rfl Tryd.func63 (by kernel_rfl) rfl #[.slice Ao20 t1261.length co20, .slice Ao21 t1262.length co21] rfl lm_ ?_; (with_reducible refine (impl_Parted.calls k _ _ t1261 _ _ t1262 t1267 t1268 t1269 _ ?side1 ?side2 ?side3 ?side4 ?side5 A9.out).mono ?_); (case side1 => repeat (first | exact (Kd.R_reads' HO1264.out).2.2 | (with_reducible refine Kd.C_alloc ?_ _) | (with_reducible refine Kd.C_drewN ?_ _) | (with_reducible refine Kd.C_drew ?_))); (case side2 => exact (Kd.R_reads' HO1264.out).2.1); (case side3 => repeat (first | exact (Kd.R_reads' HO1266.out).2.2 | (with_reducible refine Kd.C_alloc ?_ _) | (with_reducible refine Kd.C_drewN ?_ _) | (with_reducible refine Kd.C_drew ?_))); (case side4 => exact (Kd.R_reads' HO1266.out).2.1); (case side5 => exact tab_of HT.out bl_); rintro e w22 ⟨rfl, hb⟩; refine ⟨_, rfl, ?_⟩; have n0_ := Aside0.mk (Kd.R_below (ra_ HO1253.out) hb); have n1_ := Aside0.mk (Kd.R_below (ra_ HO1260.out) hb); have n2_ := Aside0.mk (Kd.R_below (ra_ HO1264.out) hb); have n3_ := Aside0.mk (Kd.R_below (ra_ HO1266.out) hb); have n4_ := Aside0.mk (below_step bl_ hb); clear HO1253; clear HO1260; clear HO1264; clear HO1266; clear HB; have HO1253 := n0_; have HO1260 := n1_; have HO1264 := n2_; have HO1266 := n3_; have HB := n4_; clear n0_ n1_ n2_ n3_ n4_; (try clear hb); (try clear hb2); (try clear hk); (try clear hi)) | ((with_reducible refine gate_dst (N := 14) rfl ?_); (try (refine gate_guard (by rfl) ?_; dsimp only)); refine box_event ?hg (N := 14) ?hd (cs := #[.int .i64 0, .int .i64 0, .int .i64 0, .int .i64 0, .int .i64 0, .int .i64 0]) (t := 70) ?hr ?_; (case hd => rfl); (case hg => rfl); (case hr => first | (go_simp; done) | (go_simp; rfl)); intro gb1270 hg w23 hbox hb; have n0_ := Aside0.mk (Kd.R_below (Kd.R_elderB (ra_ HO1253.out) gb1270 (Nat.le_of_eq hg.symm)) hb); have n1_ := Aside0.mk (Kd.R_below (Kd.R_elderB (ra_ HO1260.out) gb1270 (Nat.le_of_eq hg.symm)) hb); have n2_ := Aside0.mk (Kd.R_below (Kd.R_elderB (ra_ HO1264.out) gb1270 (Nat.le_of_eq hg.symm)) hb); have n3_ := Aside0.mk (Kd.R_below (Kd.R_elderB (ra_ HO1266.out) gb1270 (Nat.le_of_eq hg.symm)) hb); have n4_ := Aside0.mk (below_step bl_ hb); have n5_ := Aside0.mk (hbox); have n6_ := Aside0.mk ((hz_ : w.heap.size ≤ gb1270)); have n7_ := Aside0.mk ((hz_ : w.heap.size ≤ gb1270)); clear HO1253; clear HO1260; clear HO1264; clear HO1266; clear HB; have HO1253 := n0_; have HO1260 := n1_; have HO1264 := n2_; have HO1266 := n3_; have HB := n4_; have BK1270 := n5_; have GW1270 := n6_; have GE1270 := n7_; clear n0_ n1_ n2_ n3_ n4_ n5_ n6_ n7_; clear hb hbox hg; have hcz24_0 : w23.cell? ⟨gb1270, 0, none⟩ = some (.int .i64 0) := (blk_cell BK1270.out 0).trans rfl; have hcz24_1 : w23.cell? ⟨gb1270, 1, none⟩ = some (.int .i64 0) := (blk_cell BK1270.out 1).trans rfl; have hcz24_2 : w23.cell? ⟨gb1270, 2, none⟩ = some (.int .i64 0) := (blk_cell BK1270.out 2).trans rfl; have hcz24_3 : w23.cell? ⟨gb1270, 3, none⟩ = some (.int .i64 0) := (blk_cell BK1270.out 3).trans rfl; have hcz24_4 : w23.cell? ⟨gb1270, 4, none⟩ = some (.int .i64 0) := (blk_cell BK1270.out 4).trans rfl; have hcz24_5 : w23.cell? ⟨gb1270, 5, none⟩ = some (.int .i64 0) := (blk_cell BK1270.out 5).trans rfl; have hfz24_0 := blk_frozen BK1270.out 0; have hfz24_1 := blk_frozen BK1270.out 1; have hfz24_2 := blk_frozen BK1270.out 2; have hfz24_3 := blk_frozen BK1270.out 3; have hfz24_4 := blk_frozen BK1270.out 4; have hfz24_5 := blk_frozen BK1270.out 5))
    have n0_ : Aside0 (Kd.R k70 70 ((((((w23.setCell ⟨gb1270, 0, none⟩ (.int .i64 1)).setCell ⟨gb1270, 1, none⟩ (.int .i64 9)).setCell ⟨gb1270, 2, none⟩ (.int .i64 1)).setCell ⟨gb1270, 3, none⟩ (.int .i64 1)).setCell ⟨gb1270, 4, none⟩ (.int .i64 2)).setCell ⟨gb1270, 5, none⟩ (.int .i64 0)) w.heap.size (fun k_ => some k_ ≠ (v1259 : Value).ownBlock ∧ some k_ ≠ (.slice Ao20 t1261.length co20 : Value).ownBlock ∧ some k_ ≠ (.slice Ao21 t1262.length co21 : Value).ownBlock ∧ k_ ≠ gb1270) (.slice Ao15 t1251.length co15) t1251) := ⟨by (with_reducible repeat (first | apply Kd.R_alloc | apply Kd.R_drewN | apply Kd.R_drew)); exact Kd.R_mono (Kd.R_far (p := ⟨gb1270, 5, none⟩) (Kd.R_far (p := ⟨gb1270, 4, none⟩) (Kd.R_far (p := ⟨gb1270, 3, none⟩) (Kd.R_far (p := ⟨gb1270, 2, none⟩) (Kd.R_far (p := ⟨gb1270, 1, none⟩) (Kd.R_far (p := ⟨gb1270, 0, none⟩) (Kd.R_mono HO1253.out (fun k_ hk => (⟨hk, hk.2⟩ : _ ∧ k_ ≠ gb1270))) (fun _ hk => hk.2) (.int .i64 1)) (fun _ hk => hk.2) (.int .i64 9)) (fun _ hk => hk.2) (.int .i64 1)) (fun _ hk => hk.2) (.int .i64 1)) (fun _ hk => hk.2) (.int .i64 2)) (fun _ hk => hk.2) (.int .i64 0)) (fun _ hk => ⟨hk.1.1.1.1.2, ⟨hk.1.1.1.2, ⟨hk.1.1.2, hk.1.2⟩⟩⟩)⟩
    have n1_ : Aside0 (Kd.R k70 70 ((((((w23.setCell ⟨gb1270, 0, none⟩ (.int .i64 1)).setCell ⟨gb1270, 1, none⟩ (.int .i64 9)).setCell ⟨gb1270, 2, none⟩ (.int .i64 1)).setCell ⟨gb1270, 3, none⟩ (.int .i64 1)).setCell ⟨gb1270, 4, none⟩ (.int .i64 2)).setCell ⟨gb1270, 5, none⟩ (.int .i64 0)) w.heap.size (fun k_ => some k_ ≠ (.slice Ao15 t1251.length co15 : Value).ownBlock ∧ some k_ ≠ (.slice Ao20 t1261.length co20 : Value).ownBlock ∧ some k_ ≠ (.slice Ao21 t1262.length co21 : Value).ownBlock ∧ k_ ≠ gb1270) v1259 t1257) := ⟨by (with_reducible repeat (first | apply Kd.R_alloc | apply Kd.R_drewN | apply Kd.R_drew)); exact Kd.R_mono (Kd.R_far (p := ⟨gb1270, 5, none⟩) (Kd.R_far (p := ⟨gb1270, 4, none⟩) (Kd.R_far (p := ⟨gb1270, 3, none⟩) (Kd.R_far (p := ⟨gb1270, 2, none⟩) (Kd.R_far (p := ⟨gb1270, 1, none⟩) (Kd.R_far (p := ⟨gb1270, 0, none⟩) (Kd.R_mono HO1260.out (fun k_ hk => (⟨hk, hk.2⟩ : _ ∧ k_ ≠ gb1270))) (fun _ hk => hk.2) (.int .i64 1)) (fun _ hk => hk.2) (.int .i64 9)) (fun _ hk => hk.2) (.int .i64 1)) (fun _ hk => hk.2) (.int .i64 1)) (fun _ hk => hk.2) (.int .i64 2)) (fun _ hk => hk.2) (.int .i64 0)) (fun _ hk => ⟨hk.1.1.1.1.2, ⟨hk.1.1.1.2, ⟨hk.1.1.2, hk.1.2⟩⟩⟩)⟩
    have n2_ : Aside0 (Kd.R k70 70 ((((((w23.setCell ⟨gb1270, 0, none⟩ (.int .i64 1)).setCell ⟨gb1270, 1, none⟩ (.int .i64 9)).setCell ⟨gb1270, 2, none⟩ (.int .i64 1)).setCell ⟨gb1270, 3, none⟩ (.int .i64 1)).setCell ⟨gb1270, 4, none⟩ (.int .i64 2)).setCell ⟨gb1270, 5, none⟩ (.int .i64 0)) w.heap.size (fun k_ => some k_ ≠ (.slice Ao15 t1251.length co15 : Value).ownBlock ∧ some k_ ≠ (v1259 : Value).ownBlock ∧ some k_ ≠ (.slice Ao21 t1262.length co21 : Value).ownBlock ∧ k_ ≠ gb1270) (.slice Ao20 t1261.length co20) t1261) := ⟨by (with_reducible repeat (first | apply Kd.R_alloc | apply Kd.R_drewN | apply Kd.R_drew)); exact Kd.R_mono (Kd.R_far (p := ⟨gb1270, 5, none⟩) (Kd.R_far (p := ⟨gb1270, 4, none⟩) (Kd.R_far (p := ⟨gb1270, 3, none⟩) (Kd.R_far (p := ⟨gb1270, 2, none⟩) (Kd.R_far (p := ⟨gb1270, 1, none⟩) (Kd.R_far (p := ⟨gb1270, 0, none⟩) (Kd.R_mono HO1264.out (fun k_ hk => (⟨hk, hk.2⟩ : _ ∧ k_ ≠ gb1270))) (fun _ hk => hk.2) (.int .i64 1)) (fun _ hk => hk.2) (.int .i64 9)) (fun _ hk => hk.2) (.int .i64 1)) (fun _ hk => hk.2) (.int .i64 1)) (fun _ hk => hk.2) (.int .i64 2)) (fun _ hk => hk.2) (.int .i64 0)) (fun _ hk => ⟨hk.1.1.1.2, ⟨hk.1.1.2, ⟨hk.1.1.1.1, hk.1.2⟩⟩⟩)⟩
    have n3_ : Aside0 (Kd.R k70 70 ((((((w23.setCell ⟨gb1270, 0, none⟩ (.int .i64 1)).setCell ⟨gb1270, 1, none⟩ (.int .i64 9)).setCell ⟨gb1270, 2, none⟩ (.int .i64 1)).setCell ⟨gb1270, 3, none⟩ (.int .i64 1)).setCell ⟨gb1270, 4, none⟩ (.int .i64 2)).setCell ⟨gb1270, 5, none⟩ (.int .i64 0)) w.heap.size (fun k_ => some k_ ≠ (.slice Ao15 t1251.length co15 : Value).ownBlock ∧ some k_ ≠ (v1259 : Value).ownBlock ∧ some k_ ≠ (.slice Ao20 t1261.length co20 : Value).ownBlock ∧ k_ ≠ gb1270) (.slice Ao21 t1262.length co21) t1262) := ⟨by (with_reducible repeat (first | apply Kd.R_alloc | apply Kd.R_drewN | apply Kd.R_drew)); exact Kd.R_mono (Kd.R_far (p := ⟨gb1270, 5, none⟩) (Kd.R_far (p := ⟨gb1270, 4, none⟩) (Kd.R_far (p := ⟨gb1270, 3, none⟩) (Kd.R_far (p := ⟨gb1270, 2, none⟩) (Kd.R_far (p := ⟨gb1270, 1, none⟩) (Kd.R_far (p := ⟨gb1270, 0, none⟩) (Kd.R_mono HO1266.out (fun k_ hk => (⟨hk, hk.2⟩ : _ ∧ k_ ≠ gb1270))) (fun _ hk => hk.2) (.int .i64 1)) (fun _ hk => hk.2) (.int .i64 9)) (fun _ hk => hk.2) (.int .i64 1)) (fun _ hk => hk.2) (.int .i64 1)) (fun _ hk => hk.2) (.int .i64 2)) (fun _ hk => hk.2) (.int .i64 0)) (fun _ hk => ⟨hk.1.1.1.2, ⟨hk.1.1.2, ⟨hk.1.1.1.1, hk.1.2⟩⟩⟩)⟩
    have n4_ : Aside0 (((((((w23.setCell ⟨gb1270, 0, none⟩ (.int .i64 1)).setCell ⟨gb1270, 1, none⟩ (.int .i64 9)).setCell ⟨gb1270, 2, none⟩ (.int .i64 1)).setCell ⟨gb1270, 3, none⟩ (.int .i64 1)).setCell ⟨gb1270, 4, none⟩ (.int .i64 2)).setCell ⟨gb1270, 5, none⟩ (.int .i64 0)).heap[gb1270]? = some (.cells #[.int .i64 1, .int .i64 9, .int .i64 1, .int .i64 1, .int .i64 2, .int .i64 0] 70 (0, 0))) := ⟨by (with_reducible repeat (first | refine blk_drewN ?_ _ | refine blk_drew ?_ | refine blk_alloc ?_ _)); refine blk_put (cs := #[.int .i64 1, .int .i64 9, .int .i64 1, .int .i64 1, .int .i64 2, .int .i64 0]) ?_ 5 _ rfl; (with_reducible repeat (first | refine blk_drewN ?_ _ | refine blk_drew ?_ | refine blk_alloc ?_ _)); refine blk_put (cs := #[.int .i64 1, .int .i64 9, .int .i64 1, .int .i64 1, .int .i64 0, .int .i64 0]) ?_ 4 _ rfl; (with_reducible repeat (first | refine blk_drewN ?_ _ | refine blk_drew ?_ | refine blk_alloc ?_ _)); refine blk_put (cs := #[.int .i64 1, .int .i64 9, .int .i64 1, .int .i64 0, .int .i64 0, .int .i64 0]) ?_ 3 _ rfl; (with_reducible repeat (first | refine blk_drewN ?_ _ | refine blk_drew ?_ | refine blk_alloc ?_ _)); refine blk_put (cs := #[.int .i64 1, .int .i64 9, .int .i64 0, .int .i64 0, .int .i64 0, .int .i64 0]) ?_ 2 _ rfl; (with_reducible repeat (first | refine blk_drewN ?_ _ | refine blk_drew ?_ | refine blk_alloc ?_ _)); refine blk_put (cs := #[.int .i64 1, .int .i64 0, .int .i64 0, .int .i64 0, .int .i64 0, .int .i64 0]) ?_ 1 _ rfl; (with_reducible repeat (first | refine blk_drewN ?_ _ | refine blk_drew ?_ | refine blk_alloc ?_ _)); refine blk_put (cs := #[.int .i64 0, .int .i64 0, .int .i64 0, .int .i64 0, .int .i64 0, .int .i64 0]) ?_ 0 _ rfl; (with_reducible repeat (first | refine blk_drewN ?_ _ | refine blk_drew ?_ | refine blk_alloc ?_ _)); exact BK1270.out⟩
    have n5_ : Aside0 (Below w.heap.size w ((((((w23.setCell ⟨gb1270, 0, none⟩ (.int .i64 1)).setCell ⟨gb1270, 1, none⟩ (.int .i64 9)).setCell ⟨gb1270, 2, none⟩ (.int .i64 1)).setCell ⟨gb1270, 3, none⟩ (.int .i64 1)).setCell ⟨gb1270, 4, none⟩ (.int .i64 2)).setCell ⟨gb1270, 5, none⟩ (.int .i64 0))) := ⟨bl_⟩
    (try clear HO1253)
    (try clear HO1260)
    (try clear HO1264)
    (try clear HO1266)
    (try clear BK1270)
    (try clear HB)
    generalize ((((((w23.setCell ⟨gb1270, 0, none⟩ (.int .i64 1)).setCell ⟨gb1270, 1, none⟩ (.int .i64 9)).setCell ⟨gb1270, 2, none⟩ (.int .i64 1)).setCell ⟨gb1270, 3, none⟩ (.int .i64 1)).setCell ⟨gb1270, 4, none⟩ (.int .i64 2)).setCell ⟨gb1270, 5, none⟩ (.int .i64 0)) = w25 at n0_ n1_ n2_ n3_ n4_ n5_ ⊢
    have HO1253 := n0_
    have HO1260 := n1_
    have HO1264 := n2_
    have HO1266 := n3_
    have BK1270 := n4_
    have HB := n5_
    clear n0_ n1_ n2_ n3_ n4_ n5_
    have n0_ := Aside0.mk (Kd.R_drew HO1253.out)
    have n1_ := Aside0.mk (Kd.R_drew HO1260.out)
    have n2_ := Aside0.mk (Kd.R_drew HO1264.out)
    have n3_ := Aside0.mk (Kd.R_drew HO1266.out)
    have n4_ := Aside0.mk (blk_drew BK1270.out)
    have n5_ := Aside0.mk (below_drew1 HB.out)
    clear HO1253
    clear HO1260
    clear HO1264
    clear HO1266
    clear BK1270
    clear HB
    have HO1253 := n0_
    have HO1260 := n1_
    have HO1264 := n2_
    have HO1266 := n3_
    have BK1270 := n4_
    have HB := n5_
    clear n0_ n1_ n2_ n3_ n4_ n5_
    refine start_ (n := 8) (S := fun w' => w'.cell? ⟨gb1270, 0, none⟩ = some (.int .i64 1) ∧ w'.cell? ⟨gb1270, 1, none⟩ = some (.int .i64 9) ∧ w'.cell? ⟨gb1270, 2, none⟩ = some (.int .i64 1) ∧ w'.cell? ⟨gb1270, 3, none⟩ = some (.int .i64 1) ∧ w'.cell? ⟨gb1270, 4, none⟩ = some (.int .i64 2) ∧ w'.cell? ⟨gb1270, 5, none⟩ = some (.int .i64 0)) (ds := []) #[false, false, false, false, false, false, false, false] (by kernel_rfl) rfl rfl ⟨(blk_cell BK1270.out 0).trans rfl, (blk_cell BK1270.out 1).trans rfl, (blk_cell BK1270.out 2).trans rfl, (blk_cell BK1270.out 3).trans rfl, (blk_cell BK1270.out 4).trans rfl, (blk_cell BK1270.out 5).trans rfl⟩ (fun hHeld => ?_); refine with_tabW laws_FnChains.tab10 laws_FnChains.bits10 (fun HT_ HW_ => ?_)
    generalize w25.drew = w26 at HO1253 HO1260 HO1264 HO1266 BK1270 HB hHeld ⊢
    refine pure_ (i := 1) (N := some 50) (v := ?_) (a' := ?_) #[false, true, false, false, false, false, false, false] rfl rfl (any_of HT_.out (by kernel_rfl)) (fun _ _ _ h => h) (Or.inl ⟨by rfl, ?_⟩) ?_ ?_
    rotate_left
    ·intro w'
     go_simp
     with_reducible rfl
    rotate_left
    ·simp only [Act.put, List.setIfInBounds_toArray, List.set_cons_zero, List.set_cons_succ, i64_w, i32_w]
     rfl
    refine take_ (i := 3) (N := some 52) (v := ?_) (a' := ?_) #[false, true, false, true, false, false, false, false] rfl rfl (take_ofW HT_.out HW_.out (by kernel_rfl)) (fun _ _ _ h => h) (Or.inl ⟨by rfl, ?_⟩) hHeld ?_ ?_
    rotate_left
    ·rintro w' ⟨s0, s1, s2, s3, s4, s5⟩
     go_simp
     with_reducible rfl
    rotate_left
    ·simp only [Act.put, List.setIfInBounds_toArray, List.set_cons_zero, List.set_cons_succ, i64_w, i32_w]
     rfl
    refine join_ (σ := Value × Value × Value) 3 #[true, true, true, true, true, false, false, false] (fun s_ => [(49, s_.1), (51, s_.2.1), (53, s_.2.2)]) (fun s_ w' => (w'.cell? ⟨gb1270, 0, none⟩ = some (.int .i64 1) ∧ w'.cell? ⟨gb1270, 1, none⟩ = some (.int .i64 9) ∧ w'.cell? ⟨gb1270, 2, none⟩ = some (.int .i64 1) ∧ w'.cell? ⟨gb1270, 3, none⟩ = some (.int .i64 1) ∧ w'.cell? ⟨gb1270, 4, none⟩ = some (.int .i64 2) ∧ w'.cell? ⟨gb1270, 5, none⟩ = some (.int .i64 0)) ∧ (Kd.R k70 70 w' w.heap.size (fun k_ => some k_ ≠ (v1259 : Value).ownBlock ∧ some k_ ≠ (.slice Ao20 t1261.length co20 : Value).ownBlock ∧ some k_ ≠ (.slice Ao21 t1262.length co21 : Value).ownBlock ∧ some k_ ≠ (s_.2.1 : Value).ownBlock ∧ some k_ ≠ (s_.2.2 : Value).ownBlock ∧ k_ ≠ gb1270) (.slice Ao15 t1251.length co15) t1251) ∧ (Kd.R k70 70 w' w.heap.size (fun k_ => some k_ ≠ (.slice Ao15 t1251.length co15 : Value).ownBlock ∧ some k_ ≠ (.slice Ao20 t1261.length co20 : Value).ownBlock ∧ some k_ ≠ (.slice Ao21 t1262.length co21 : Value).ownBlock ∧ some k_ ≠ (s_.2.1 : Value).ownBlock ∧ some k_ ≠ (s_.2.2 : Value).ownBlock ∧ k_ ≠ gb1270) v1259 t1257) ∧ (Kd.R k70 70 w' w.heap.size (fun k_ => some k_ ≠ (.slice Ao15 t1251.length co15 : Value).ownBlock ∧ some k_ ≠ (v1259 : Value).ownBlock ∧ some k_ ≠ (.slice Ao21 t1262.length co21 : Value).ownBlock ∧ some k_ ≠ (s_.2.1 : Value).ownBlock ∧ some k_ ≠ (s_.2.2 : Value).ownBlock ∧ k_ ≠ gb1270) (.slice Ao20 t1261.length co20) t1261) ∧ (Kd.R k70 70 w' w.heap.size (fun k_ => some k_ ≠ (.slice Ao15 t1251.length co15 : Value).ownBlock ∧ some k_ ≠ (v1259 : Value).ownBlock ∧ some k_ ≠ (.slice Ao20 t1261.length co20 : Value).ownBlock ∧ some k_ ≠ (s_.2.1 : Value).ownBlock ∧ some k_ ≠ (s_.2.2 : Value).ownBlock ∧ k_ ≠ gb1270) (.slice Ao21 t1262.length co21) t1262) ∧ (Kd.R k70 70 w' w.heap.size (fun k_ => some k_ ≠ (.slice Ao15 t1251.length co15 : Value).ownBlock ∧ some k_ ≠ (v1259 : Value).ownBlock ∧ some k_ ≠ (.slice Ao20 t1261.length co20 : Value).ownBlock ∧ some k_ ≠ (.slice Ao21 t1262.length co21 : Value).ownBlock ∧ some k_ ≠ (s_.2.2 : Value).ownBlock ∧ k_ ≠ gb1270) s_.2.1 y1274) ∧ (Kd.R k70 70 w' w.heap.size (fun k_ => some k_ ≠ (.slice Ao15 t1251.length co15 : Value).ownBlock ∧ some k_ ≠ (v1259 : Value).ownBlock ∧ some k_ ≠ (.slice Ao20 t1261.length co20 : Value).ownBlock ∧ some k_ ≠ (.slice Ao21 t1262.length co21 : Value).ownBlock ∧ some k_ ≠ (s_.2.1 : Value).ownBlock ∧ k_ ≠ gb1270) s_.2.2 y1277) ∧ (w'.heap[gb1270]? = some (.cells #[.int .i64 1, .int .i64 9, .int .i64 1, .int .i64 1, .int .i64 2, .int .i64 0] 70 (0, 0))) ∧ (Below w.heap.size w w')) ?_ ?_
    rotate_left
    ·intro hCont
     refine two_ (i := 0) (j := 4) (Ni := some 49) (Nj := some 53) #[true, true, false, true, false, false, false, false] #[false, true, false, true, true, false, false, false] rfl rfl rfl rfl (two_of HT_.out (by kernel_rfl)) (by decide) (by decide) (fun K hK => ?_) (fun K hK => ?_)
     ·skip
      refine Kd.R_lit_step k70 _ 70 ?hg (N := 49) ?hd (xs := ([] : List (S70))) (inner := []) (ok := fun _ => True) (okp := fun _ => True) ?hr ?hp (fun _ hk => hk) trivial (Below.refl _ _) (Nat.le_refl _) (by simp) ?_; (case hd => rfl); (case hg => rfl); (case hr => first | (go_simp; done) | (go_simp; rfl)); (case hp => exact (Reps.none _ _))
      intro v1272 w27 ho28 hb hg_ hnew_
      clear hg_ hnew_
      (first | rw [← Ny1271.out] at ho28 | (simp only [Int.reduceToNat] at ho28; rw [← Ny1271.out] at ho28))
      have n0_ := Aside0.mk (Kd.R_elder' (ra_ HO1253.out) (Kd.R_base ho28) hb)
      have n1_ := Aside0.mk (Kd.R_elder' (ra_ HO1260.out) (Kd.R_base ho28) hb)
      have n2_ := Aside0.mk (Kd.R_elder' (ra_ HO1264.out) (Kd.R_base ho28) hb)
      have n3_ := Aside0.mk (Kd.R_elder' (ra_ HO1266.out) (Kd.R_base ho28) hb)
      have n4_ := Aside0.mk (Kd.R_lower (Kd.R_newB (Kd.R_new' (Kd.R_new' (Kd.R_new' (Kd.R_new' ho28 (Kd.R_lt (ra_ HO1253.out))) (Kd.R_lt (ra_ HO1260.out))) (Kd.R_lt (ra_ HO1264.out))) (Kd.R_lt (ra_ HO1266.out))) (g := gb1270) (o := .cells #[.int .i64 1, .int .i64 9, .int .i64 1, .int .i64 1, .int .i64 2, .int .i64 0] 70 (0, 0)) (bk_ BK1270.out)) (below_size bl_))
      have n5_ := Aside0.mk (blk_below (g := gb1270) (o := .cells #[.int .i64 1, .int .i64 9, .int .i64 1, .int .i64 1, .int .i64 2, .int .i64 0] 70 (0, 0)) (bk_ BK1270.out) hb)
      have n6_ := Aside0.mk (below_step bl_ hb)
      clear HO1253
      clear HO1260
      clear HO1264
      clear HO1266
      clear BK1270
      clear HB
      have HO1253 := n0_
      have HO1260 := n1_
      have HO1264 := n2_
      have HO1266 := n3_
      have HO1273 := n4_
      have BK1270 := n5_
      have HB := n6_
      clear n0_ n1_ n2_ n3_ n4_ n5_ n6_
      clear hb ho28
      refine hK.out _ _ ⟨(blk_cell BK1270.out 0).trans rfl, (blk_cell BK1270.out 1).trans rfl, (blk_cell BK1270.out 2).trans rfl, (blk_cell BK1270.out 3).trans rfl, (blk_cell BK1270.out 4).trans rfl, (blk_cell BK1270.out 5).trans rfl⟩ (fun hHeld => ?_)
      clear hK K
      refine norm_ (a' := ?_) ?_ ?_
      rotate_left
      ·show Act.put _ (some 49) _ = _
       simp only [Act.put, List.setIfInBounds_toArray, List.set_cons_zero, List.set_cons_succ, i64_w, i32_w]
       rfl
      refine two_ (i := 2) (j := 4) (Ni := some 51) (Nj := some 53) #[true, true, true, true, false, false, false, false] #[true, true, false, true, true, false, false, false] rfl rfl rfl rfl (two_of HT_.out (by kernel_rfl)) (by decide) (by decide) (fun K hK => ?_) (fun K hK => ?_)
      ·skip
       refine Kd.R_append_rows_step k70 (w0 := w) w.heap.size (by rfl) (.tmp 49) (.tmp 50) 28 70 (.agg #[(.int .i64 0), (.int .i64 0), (.int .i64 0), (.int .i64 0), (.int .i64 0), (.int .i64 0)]) 48 rfl Tryd.underlying28 info70 rfl (by decide) (by omega) v1272 y1271 t1251 _ _ _ (fun k_ => some k_ ≠ (.slice Ao15 t1251.length co15 : Value).ownBlock ∧ some k_ ≠ (v1259 : Value).ownBlock ∧ some k_ ≠ (.slice Ao20 t1261.length co20 : Value).ownBlock ∧ some k_ ≠ (.slice Ao21 t1262.length co21 : Value).ownBlock ∧ k_ ≠ gb1270) (fun _ => False) rfl rfl ?aO ?aR (fun _ _ h => h) (fun _ h => h.elim) ?aF ?aB ?aS ?aL ?_
       (case aR => repeat (first | exact (Kd.R_reads' HO1253.out).2.2 | (with_reducible refine Kd.C_alloc ?_ _) | (with_reducible refine Kd.C_drewN ?_ _) | (with_reducible refine Kd.C_drew ?_)))
       (case aB => exact bl_)
       (case aF => exact (fun k_ hk => ⟨Kd.fresh' (Kd.R_lt (ra_ HO1253.out)) k_ hk, Kd.fresh' (Kd.R_lt (ra_ HO1260.out)) k_ hk, Kd.fresh' (Kd.R_lt (ra_ HO1264.out)) k_ hk, Kd.fresh' (Kd.R_lt (ra_ HO1266.out)) k_ hk, Kd.freshB (g := gb1270) (o := .cells #[.int .i64 1, .int .i64 9, .int .i64 1, .int .i64 1, .int .i64 2, .int .i64 0] 70 (0, 0)) (bk_ BK1270.out) k_ hk⟩))
       (case aO => exact (by (with_reducible repeat (first | apply Kd.R_alloc | apply Kd.R_drewN | apply Kd.R_drew)); exact Kd.R_mono HO1273.out (fun _ hk => ⟨hk.1.1.1.1.2, ⟨hk.1.1.1.2, ⟨hk.1.1.2, ⟨hk.1.2, hk.2⟩⟩⟩⟩)))
       (case aS => exact (below_size bl_))
       (case aL => have := LMc10.out; omega)
       intro v1275 w29 ho hb hg hat
       rw [← Ny1274.out] at ho
       have n0_ := Aside0.mk (Kd.R_after (ok := (fun k_ => some k_ ≠ (v1259 : Value).ownBlock ∧ some k_ ≠ (.slice Ao20 t1261.length co20 : Value).ownBlock ∧ some k_ ≠ (.slice Ao21 t1262.length co21 : Value).ownBlock ∧ k_ ≠ gb1270)) (ra_ HO1253.out) hg hat)
       have n1_ := Aside0.mk (Kd.R_after (ok := (fun k_ => some k_ ≠ (.slice Ao15 t1251.length co15 : Value).ownBlock ∧ some k_ ≠ (.slice Ao20 t1261.length co20 : Value).ownBlock ∧ some k_ ≠ (.slice Ao21 t1262.length co21 : Value).ownBlock ∧ k_ ≠ gb1270)) (ra_ HO1260.out) hg hat)
       have n2_ := Aside0.mk (Kd.R_after (ok := (fun k_ => some k_ ≠ (.slice Ao15 t1251.length co15 : Value).ownBlock ∧ some k_ ≠ (v1259 : Value).ownBlock ∧ some k_ ≠ (.slice Ao21 t1262.length co21 : Value).ownBlock ∧ k_ ≠ gb1270)) (ra_ HO1264.out) hg hat)
       have n3_ := Aside0.mk (Kd.R_after (ok := (fun k_ => some k_ ≠ (.slice Ao15 t1251.length co15 : Value).ownBlock ∧ some k_ ≠ (v1259 : Value).ownBlock ∧ some k_ ≠ (.slice Ao20 t1261.length co20 : Value).ownBlock ∧ k_ ≠ gb1270)) (ra_ HO1266.out) hg hat)
       have n4_ := Aside0.mk (blk_grown (g := gb1270) (o := .cells #[.int .i64 1, .int .i64 9, .int .i64 1, .int .i64 1, .int .i64 2, .int .i64 0] 70 (0, 0)) (bk_ BK1270.out) hg (Kd.R_away HO1273.out (fun _ hk => hk.2)))
       have n5_ := Aside0.mk (hb)
       have n6_ := Aside0.mk (ho)
       clear HO1253
       clear HO1260
       clear HO1264
       clear HO1266
       clear BK1270
       clear HB
       clear HO1273
       have HO1253 := n0_
       have HO1260 := n1_
       have HO1264 := n2_
       have HO1266 := n3_
       have BK1270 := n4_
       have HB := n5_
       have HO1276 := n6_
       clear n0_ n1_ n2_ n3_ n4_ n5_ n6_
       clear ho hb hg hat
       refine hK.out _ _ ⟨(blk_cell BK1270.out 0).trans rfl, (blk_cell BK1270.out 1).trans rfl, (blk_cell BK1270.out 2).trans rfl, (blk_cell BK1270.out 3).trans rfl, (blk_cell BK1270.out 4).trans rfl, (blk_cell BK1270.out 5).trans rfl⟩ (fun hHeld => ?_)
       clear hK K
       refine norm_ (a' := ?_) ?_ ?_
       rotate_left
       ·show Act.put _ (some 51) _ = _
        simp only [Act.put, List.setIfInBounds_toArray, List.set_cons_zero, List.set_cons_succ, i64_w, i32_w]
        rfl
       refine one_ (i := 4) (N := some 53) #[true, true, true, true, true, false, false, false] rfl rfl (one_of HT_.out (by kernel_rfl)) (by decide) (fun K hK => ?_)
       refine Kd.R_lit_step k70 _ 70 ?hg (N := 53) ?hd (xs := ([(⟨1, 9, (⟨1, 1, 2, 0⟩ : S68)⟩ : S70)] : List (S70))) (inner := [.int .i64 1, .int .i64 9, .int .i64 1, .int .i64 1, .int .i64 2, .int .i64 0]) (ok := fun _ => True) (okp := fun _ => True) ?hr ?hp (fun _ hk => hk) trivial (Below.refl _ _) (Nat.le_refl _) (by simp) ?_; (case hd => rfl); (case hg => rfl); (case hr => first | (go_simp; done) | (go_simp; rfl)); (case hp => exact (Reps.c6 (show Kd.M k70 _ _ _ (⟨1, 9, (⟨1, 1, 2, 0⟩ : S68)⟩ : S70) [.int .i64 1, .int .i64 9, .int .i64 1, .int .i64 1, .int .i64 2, .int .i64 0] from (k70_mkM _ _ _ (⟨1, 9, (⟨1, 1, 2, 0⟩ : S68)⟩ : S70) )) (Reps.none _ _)))
       intro v1278 w30 ho31 hb hg_ hnew_
       clear hg_ hnew_
       (first | rw [← Ny1277.out] at ho31 | (simp only [Int.reduceToNat] at ho31; rw [← Ny1277.out] at ho31))
       have n0_ := Aside0.mk (Kd.R_elder' (ra_ HO1253.out) (Kd.R_base ho31) hb)
       have n1_ := Aside0.mk (Kd.R_elder' (ra_ HO1260.out) (Kd.R_base ho31) hb)
       have n2_ := Aside0.mk (Kd.R_elder' (ra_ HO1264.out) (Kd.R_base ho31) hb)
       have n3_ := Aside0.mk (Kd.R_elder' (ra_ HO1266.out) (Kd.R_base ho31) hb)
       have n4_ := Aside0.mk (Kd.R_elder' (ra_ HO1276.out) (Kd.R_base ho31) hb)
       have n5_ := Aside0.mk (Kd.R_lower (Kd.R_newB (Kd.R_new' (Kd.R_new' (Kd.R_new' (Kd.R_new' (Kd.R_new' ho31 (Kd.R_lt (ra_ HO1253.out))) (Kd.R_lt (ra_ HO1260.out))) (Kd.R_lt (ra_ HO1264.out))) (Kd.R_lt (ra_ HO1266.out))) (Kd.R_lt (ra_ HO1276.out))) (g := gb1270) (o := .cells #[.int .i64 1, .int .i64 9, .int .i64 1, .int .i64 1, .int .i64 2, .int .i64 0] 70 (0, 0)) (bk_ BK1270.out)) (below_size bl_))
       have n6_ := Aside0.mk (blk_below (g := gb1270) (o := .cells #[.int .i64 1, .int .i64 9, .int .i64 1, .int .i64 1, .int .i64 2, .int .i64 0] 70 (0, 0)) (bk_ BK1270.out) hb)
       have n7_ := Aside0.mk (below_step bl_ hb)
       clear HO1253
       clear HO1260
       clear HO1264
       clear HO1266
       clear HO1276
       clear BK1270
       clear HB
       have HO1253 := n0_
       have HO1260 := n1_
       have HO1264 := n2_
       have HO1266 := n3_
       have HO1276 := n4_
       have HO1279 := n5_
       have BK1270 := n6_
       have HB := n7_
       clear n0_ n1_ n2_ n3_ n4_ n5_ n6_ n7_
       clear hb ho31
       refine hK.out _ _ ⟨(blk_cell BK1270.out 0).trans rfl, (blk_cell BK1270.out 1).trans rfl, (blk_cell BK1270.out 2).trans rfl, (blk_cell BK1270.out 3).trans rfl, (blk_cell BK1270.out 4).trans rfl, (blk_cell BK1270.out 5).trans rfl⟩ (fun hHeld => ?_)
       clear hK K
       refine norm_ (a' := ?_) ?_ ?_
       rotate_left
       ·show Act.put _ (some 53) _ = _
        simp only [Act.put, List.setIfInBounds_toArray, List.set_cons_zero, List.set_cons_succ, i64_w, i32_w]
        rfl
       exact norm_ (by simp only [putAll, Act.put, List.setIfInBounds_toArray, List.set_cons_zero, List.set_cons_succ]) (hCont (v1272, v1275, v1278) _ ⟨hHeld, (by (with_reducible repeat (first | apply Kd.R_alloc | apply Kd.R_drewN | apply Kd.R_drew)); exact Kd.R_mono HO1253.out (fun _ hk => ⟨hk.1.1.1, ⟨hk.1.1.2.1, ⟨hk.1.1.2.2.1, ⟨hk.1.2, ⟨hk.2, hk.1.1.2.2.2⟩⟩⟩⟩⟩)), (by (with_reducible repeat (first | apply Kd.R_alloc | apply Kd.R_drewN | apply Kd.R_drew)); exact Kd.R_mono HO1260.out (fun _ hk => ⟨hk.1.1.1, ⟨hk.1.1.2.1, ⟨hk.1.1.2.2.1, ⟨hk.1.2, ⟨hk.2, hk.1.1.2.2.2⟩⟩⟩⟩⟩)), (by (with_reducible repeat (first | apply Kd.R_alloc | apply Kd.R_drewN | apply Kd.R_drew)); exact Kd.R_mono HO1264.out (fun _ hk => ⟨hk.1.1.1, ⟨hk.1.1.2.1, ⟨hk.1.1.2.2.1, ⟨hk.1.2, ⟨hk.2, hk.1.1.2.2.2⟩⟩⟩⟩⟩)), (by (with_reducible repeat (first | apply Kd.R_alloc | apply Kd.R_drewN | apply Kd.R_drew)); exact Kd.R_mono HO1266.out (fun _ hk => ⟨hk.1.1.1, ⟨hk.1.1.2.1, ⟨hk.1.1.2.2.1, ⟨hk.1.2, ⟨hk.2, hk.1.1.2.2.2⟩⟩⟩⟩⟩)), (by (with_reducible repeat (first | apply Kd.R_alloc | apply Kd.R_drewN | apply Kd.R_drew)); exact Kd.R_mono HO1276.out (fun _ hk => ⟨hk.1.1, ⟨hk.1.2.1, ⟨hk.1.2.2.1, ⟨hk.1.2.2.2.1, ⟨hk.2, hk.1.2.2.2.2⟩⟩⟩⟩⟩)), (by (with_reducible repeat (first | apply Kd.R_alloc | apply Kd.R_drewN | apply Kd.R_drew)); exact Kd.R_mono HO1279.out (fun _ hk => ⟨hk.1.1.1.1.1.2, ⟨hk.1.1.1.1.2, ⟨hk.1.1.1.2, ⟨hk.1.1.2, ⟨hk.1.2, hk.2⟩⟩⟩⟩⟩)), (bk_ BK1270.out), bl_⟩)
      ·skip
       refine Kd.R_lit_step k70 _ 70 ?hg (N := 53) ?hd (xs := ([(⟨1, 9, (⟨1, 1, 2, 0⟩ : S68)⟩ : S70)] : List (S70))) (inner := [.int .i64 1, .int .i64 9, .int .i64 1, .int .i64 1, .int .i64 2, .int .i64 0]) (ok := fun _ => True) (okp := fun _ => True) ?hr ?hp (fun _ hk => hk) trivial (Below.refl _ _) (Nat.le_refl _) (by simp) ?_; (case hd => rfl); (case hg => rfl); (case hr => first | (go_simp; done) | (go_simp; rfl)); (case hp => exact (Reps.c6 (show Kd.M k70 _ _ _ (⟨1, 9, (⟨1, 1, 2, 0⟩ : S68)⟩ : S70) [.int .i64 1, .int .i64 9, .int .i64 1, .int .i64 1, .int .i64 2, .int .i64 0] from (k70_mkM _ _ _ (⟨1, 9, (⟨1, 1, 2, 0⟩ : S68)⟩ : S70) )) (Reps.none _ _)))
       intro v1278 w29 ho30 hb hg_ hnew_
       clear hg_ hnew_
       (first | rw [← Ny1277.out] at ho30 | (simp only [Int.reduceToNat] at ho30; rw [← Ny1277.out] at ho30))
       have n0_ := Aside0.mk (Kd.R_elder' (ra_ HO1253.out) (Kd.R_base ho30) hb)
       have n1_ := Aside0.mk (Kd.R_elder' (ra_ HO1260.out) (Kd.R_base ho30) hb)
       have n2_ := Aside0.mk (Kd.R_elder' (ra_ HO1264.out) (Kd.R_base ho30) hb)
       have n3_ := Aside0.mk (Kd.R_elder' (ra_ HO1266.out) (Kd.R_base ho30) hb)
       have n4_ := Aside0.mk (Kd.R_elder' (ra_ HO1273.out) (Kd.R_base ho30) hb)
       have n5_ := Aside0.mk (Kd.R_lower (Kd.R_newB (Kd.R_new' (Kd.R_new' (Kd.R_new' (Kd.R_new' (Kd.R_new' ho30 (Kd.R_lt (ra_ HO1253.out))) (Kd.R_lt (ra_ HO1260.out))) (Kd.R_lt (ra_ HO1264.out))) (Kd.R_lt (ra_ HO1266.out))) (Kd.R_lt (ra_ HO1273.out))) (g := gb1270) (o := .cells #[.int .i64 1, .int .i64 9, .int .i64 1, .int .i64 1, .int .i64 2, .int .i64 0] 70 (0, 0)) (bk_ BK1270.out)) (below_size bl_))
       have n6_ := Aside0.mk (blk_below (g := gb1270) (o := .cells #[.int .i64 1, .int .i64 9, .int .i64 1, .int .i64 1, .int .i64 2, .int .i64 0] 70 (0, 0)) (bk_ BK1270.out) hb)
       have n7_ := Aside0.mk (below_step bl_ hb)
       clear HO1253
       clear HO1260
       clear HO1264
       clear HO1266
       clear HO1273
       clear BK1270
       clear HB
       have HO1253 := n0_
       have HO1260 := n1_
       have HO1264 := n2_
       have HO1266 := n3_
       have HO1273 := n4_
       have HO1279 := n5_
       have BK1270 := n6_
       have HB := n7_
       clear n0_ n1_ n2_ n3_ n4_ n5_ n6_ n7_
       clear hb ho30
       refine hK.out _ _ ⟨(blk_cell BK1270.out 0).trans rfl, (blk_cell BK1270.out 1).trans rfl, (blk_cell BK1270.out 2).trans rfl, (blk_cell BK1270.out 3).trans rfl, (blk_cell BK1270.out 4).trans rfl, (blk_cell BK1270.out 5).trans rfl⟩ (fun hHeld => ?_)
       clear hK K
       refine norm_ (a' := ?_) ?_ ?_
       rotate_left
       ·show Act.put _ (some 53) _ = _
        simp only [Act.put, List.setIfInBounds_toArray, List.set_cons_zero, List.set_cons_succ, i64_w, i32_w]
        rfl
       refine one_ (i := 2) (N := some 51) #[true, true, true, true, true, false, false, false] rfl rfl (one_of HT_.out (by kernel_rfl)) (by decide) (fun K hK => ?_)
       refine Kd.R_append_rows_step k70 (w0 := w) w.heap.size (by rfl) (.tmp 49) (.tmp 50) 28 70 (.agg #[(.int .i64 0), (.int .i64 0), (.int .i64 0), (.int .i64 0), (.int .i64 0), (.int .i64 0)]) 48 rfl Tryd.underlying28 info70 rfl (by decide) (by omega) v1272 y1271 t1251 _ _ _ (fun k_ => some k_ ≠ (.slice Ao15 t1251.length co15 : Value).ownBlock ∧ some k_ ≠ (v1259 : Value).ownBlock ∧ some k_ ≠ (.slice Ao20 t1261.length co20 : Value).ownBlock ∧ some k_ ≠ (.slice Ao21 t1262.length co21 : Value).ownBlock ∧ some k_ ≠ (v1278 : Value).ownBlock ∧ k_ ≠ gb1270) (fun _ => False) rfl rfl ?aO ?aR (fun _ _ h => h) (fun _ h => h.elim) ?aF ?aB ?aS ?aL ?_
       (case aR => repeat (first | exact (Kd.R_reads' HO1253.out).2.2 | (with_reducible refine Kd.C_alloc ?_ _) | (with_reducible refine Kd.C_drewN ?_ _) | (with_reducible refine Kd.C_drew ?_)))
       (case aB => exact bl_)
       (case aF => exact (fun k_ hk => ⟨Kd.fresh' (Kd.R_lt (ra_ HO1253.out)) k_ hk, Kd.fresh' (Kd.R_lt (ra_ HO1260.out)) k_ hk, Kd.fresh' (Kd.R_lt (ra_ HO1264.out)) k_ hk, Kd.fresh' (Kd.R_lt (ra_ HO1266.out)) k_ hk, Kd.fresh' (Kd.R_lt (ra_ HO1279.out)) k_ hk, Kd.freshB (g := gb1270) (o := .cells #[.int .i64 1, .int .i64 9, .int .i64 1, .int .i64 1, .int .i64 2, .int .i64 0] 70 (0, 0)) (bk_ BK1270.out) k_ hk⟩))
       (case aO => exact (by (with_reducible repeat (first | apply Kd.R_alloc | apply Kd.R_drewN | apply Kd.R_drew)); exact Kd.R_mono HO1273.out (fun _ hk => ⟨hk.1.1.1.1.1.2, ⟨hk.1.1.1.1.2, ⟨hk.1.1.1.2, ⟨hk.1.1.2, ⟨hk.2, hk.1.2⟩⟩⟩⟩⟩)))
       (case aS => exact (below_size bl_))
       (case aL => have := LMc10.out; omega)
       intro v1275 w31 ho hb hg hat
       rw [← Ny1274.out] at ho
       have n0_ := Aside0.mk (Kd.R_after (ok := (fun k_ => some k_ ≠ (v1259 : Value).ownBlock ∧ some k_ ≠ (.slice Ao20 t1261.length co20 : Value).ownBlock ∧ some k_ ≠ (.slice Ao21 t1262.length co21 : Value).ownBlock ∧ some k_ ≠ (v1278 : Value).ownBlock ∧ k_ ≠ gb1270)) (by (with_reducible repeat (first | apply Kd.R_alloc | apply Kd.R_drewN | apply Kd.R_drew)); exact Kd.R_mono HO1253.out (fun _ hk => ⟨⟨hk.1.1.1, ⟨hk.1.1.2.1, ⟨hk.1.1.2.2.1, ⟨hk.2, hk.1.1.2.2.2⟩⟩⟩⟩, hk.1.2⟩)) hg hat)
       have n1_ := Aside0.mk (Kd.R_after (ok := (fun k_ => some k_ ≠ (.slice Ao15 t1251.length co15 : Value).ownBlock ∧ some k_ ≠ (.slice Ao20 t1261.length co20 : Value).ownBlock ∧ some k_ ≠ (.slice Ao21 t1262.length co21 : Value).ownBlock ∧ some k_ ≠ (v1278 : Value).ownBlock ∧ k_ ≠ gb1270)) (by (with_reducible repeat (first | apply Kd.R_alloc | apply Kd.R_drewN | apply Kd.R_drew)); exact Kd.R_mono HO1260.out (fun _ hk => ⟨⟨hk.1.1.1, ⟨hk.1.1.2.1, ⟨hk.1.1.2.2.1, ⟨hk.2, hk.1.1.2.2.2⟩⟩⟩⟩, hk.1.2⟩)) hg hat)
       have n2_ := Aside0.mk (Kd.R_after (ok := (fun k_ => some k_ ≠ (.slice Ao15 t1251.length co15 : Value).ownBlock ∧ some k_ ≠ (v1259 : Value).ownBlock ∧ some k_ ≠ (.slice Ao21 t1262.length co21 : Value).ownBlock ∧ some k_ ≠ (v1278 : Value).ownBlock ∧ k_ ≠ gb1270)) (by (with_reducible repeat (first | apply Kd.R_alloc | apply Kd.R_drewN | apply Kd.R_drew)); exact Kd.R_mono HO1264.out (fun _ hk => ⟨⟨hk.1.1.1, ⟨hk.1.1.2.1, ⟨hk.1.1.2.2.1, ⟨hk.2, hk.1.1.2.2.2⟩⟩⟩⟩, hk.1.2⟩)) hg hat)
       have n3_ := Aside0.mk (Kd.R_after (ok := (fun k_ => some k_ ≠ (.slice Ao15 t1251.length co15 : Value).ownBlock ∧ some k_ ≠ (v1259 : Value).ownBlock ∧ some k_ ≠ (.slice Ao20 t1261.length co20 : Value).ownBlock ∧ some k_ ≠ (v1278 : Value).ownBlock ∧ k_ ≠ gb1270)) (by (with_reducible repeat (first | apply Kd.R_alloc | apply Kd.R_drewN | apply Kd.R_drew)); exact Kd.R_mono HO1266.out (fun _ hk => ⟨⟨hk.1.1.1, ⟨hk.1.1.2.1, ⟨hk.1.1.2.2.1, ⟨hk.2, hk.1.1.2.2.2⟩⟩⟩⟩, hk.1.2⟩)) hg hat)
       have n4_ := Aside0.mk (blk_grown (g := gb1270) (o := .cells #[.int .i64 1, .int .i64 9, .int .i64 1, .int .i64 1, .int .i64 2, .int .i64 0] 70 (0, 0)) (bk_ BK1270.out) hg (Kd.R_away HO1273.out (fun _ hk => hk.1.2)))
       have n5_ := Aside0.mk (Kd.R_after (ok := (fun k_ => some k_ ≠ (.slice Ao15 t1251.length co15 : Value).ownBlock ∧ some k_ ≠ (v1259 : Value).ownBlock ∧ some k_ ≠ (.slice Ao20 t1261.length co20 : Value).ownBlock ∧ some k_ ≠ (.slice Ao21 t1262.length co21 : Value).ownBlock ∧ k_ ≠ gb1270)) (by (with_reducible repeat (first | apply Kd.R_alloc | apply Kd.R_drewN | apply Kd.R_drew)); exact Kd.R_mono HO1279.out (fun _ hk => ⟨⟨hk.1.1.1.1.1.2, ⟨hk.1.1.1.1.2, ⟨hk.1.1.1.2, ⟨hk.1.1.2, hk.2⟩⟩⟩⟩, hk.1.2⟩)) hg hat)
       have n6_ := Aside0.mk (hb)
       have n7_ := Aside0.mk (ho)
       clear HO1253
       clear HO1260
       clear HO1264
       clear HO1266
       clear BK1270
       clear HO1279
       clear HB
       clear HO1273
       have HO1253 := n0_
       have HO1260 := n1_
       have HO1264 := n2_
       have HO1266 := n3_
       have BK1270 := n4_
       have HO1279 := n5_
       have HB := n6_
       have HO1276 := n7_
       clear n0_ n1_ n2_ n3_ n4_ n5_ n6_ n7_
       clear ho hb hg hat
       refine hK.out _ _ ⟨(blk_cell BK1270.out 0).trans rfl, (blk_cell BK1270.out 1).trans rfl, (blk_cell BK1270.out 2).trans rfl, (blk_cell BK1270.out 3).trans rfl, (blk_cell BK1270.out 4).trans rfl, (blk_cell BK1270.out 5).trans rfl⟩ (fun hHeld => ?_)
       clear hK K
       refine norm_ (a' := ?_) ?_ ?_
       rotate_left
       ·show Act.put _ (some 51) _ = _
        simp only [Act.put, List.setIfInBounds_toArray, List.set_cons_zero, List.set_cons_succ, i64_w, i32_w]
        rfl
       exact norm_ (by simp only [putAll, Act.put, List.setIfInBounds_toArray, List.set_cons_zero, List.set_cons_succ]) (hCont (v1272, v1275, v1278) _ ⟨hHeld, (by (with_reducible repeat (first | apply Kd.R_alloc | apply Kd.R_drewN | apply Kd.R_drew)); exact Kd.R_mono HO1253.out (fun _ hk => ⟨hk.1.1, ⟨hk.1.2.1, ⟨hk.1.2.2.1, ⟨hk.2, ⟨hk.1.2.2.2.1, hk.1.2.2.2.2⟩⟩⟩⟩⟩)), (by (with_reducible repeat (first | apply Kd.R_alloc | apply Kd.R_drewN | apply Kd.R_drew)); exact Kd.R_mono HO1260.out (fun _ hk => ⟨hk.1.1, ⟨hk.1.2.1, ⟨hk.1.2.2.1, ⟨hk.2, ⟨hk.1.2.2.2.1, hk.1.2.2.2.2⟩⟩⟩⟩⟩)), (by (with_reducible repeat (first | apply Kd.R_alloc | apply Kd.R_drewN | apply Kd.R_drew)); exact Kd.R_mono HO1264.out (fun _ hk => ⟨hk.1.1, ⟨hk.1.2.1, ⟨hk.1.2.2.1, ⟨hk.2, ⟨hk.1.2.2.2.1, hk.1.2.2.2.2⟩⟩⟩⟩⟩)), (by (with_reducible repeat (first | apply Kd.R_alloc | apply Kd.R_drewN | apply Kd.R_drew)); exact Kd.R_mono HO1266.out (fun _ hk => ⟨hk.1.1, ⟨hk.1.2.1, ⟨hk.1.2.2.1, ⟨hk.2, ⟨hk.1.2.2.2.1, hk.1.2.2.2.2⟩⟩⟩⟩⟩)), (ra_ HO1276.out), (by (with_reducible repeat (first | apply Kd.R_alloc | apply Kd.R_drewN | apply Kd.R_drew)); exact Kd.R_mono HO1279.out (fun _ hk => ⟨hk.1.1, ⟨hk.1.2.1, ⟨hk.1.2.2.1, ⟨hk.1.2.2.2.1, ⟨hk.2, hk.1.2.2.2.2⟩⟩⟩⟩⟩)), (bk_ BK1270.out), bl_⟩)
     ·skip
      refine Kd.R_lit_step k70 _ 70 ?hg (N := 53) ?hd (xs := ([(⟨1, 9, (⟨1, 1, 2, 0⟩ : S68)⟩ : S70)] : List (S70))) (inner := [.int .i64 1, .int .i64 9, .int .i64 1, .int .i64 1, .int .i64 2, .int .i64 0]) (ok := fun _ => True) (okp := fun _ => True) ?hr ?hp (fun _ hk => hk) trivial (Below.refl _ _) (Nat.le_refl _) (by simp) ?_; (case hd => rfl); (case hg => rfl); (case hr => first | (go_simp; done) | (go_simp; rfl)); (case hp => exact (Reps.c6 (show Kd.M k70 _ _ _ (⟨1, 9, (⟨1, 1, 2, 0⟩ : S68)⟩ : S70) [.int .i64 1, .int .i64 9, .int .i64 1, .int .i64 1, .int .i64 2, .int .i64 0] from (k70_mkM _ _ _ (⟨1, 9, (⟨1, 1, 2, 0⟩ : S68)⟩ : S70) )) (Reps.none _ _)))
      intro v1278 w27 ho28 hb hg_ hnew_
      clear hg_ hnew_
      (first | rw [← Ny1277.out] at ho28 | (simp only [Int.reduceToNat] at ho28; rw [← Ny1277.out] at ho28))
      have n0_ := Aside0.mk (Kd.R_elder' (ra_ HO1253.out) (Kd.R_base ho28) hb)
      have n1_ := Aside0.mk (Kd.R_elder' (ra_ HO1260.out) (Kd.R_base ho28) hb)
      have n2_ := Aside0.mk (Kd.R_elder' (ra_ HO1264.out) (Kd.R_base ho28) hb)
      have n3_ := Aside0.mk (Kd.R_elder' (ra_ HO1266.out) (Kd.R_base ho28) hb)
      have n4_ := Aside0.mk (Kd.R_lower (Kd.R_newB (Kd.R_new' (Kd.R_new' (Kd.R_new' (Kd.R_new' ho28 (Kd.R_lt (ra_ HO1253.out))) (Kd.R_lt (ra_ HO1260.out))) (Kd.R_lt (ra_ HO1264.out))) (Kd.R_lt (ra_ HO1266.out))) (g := gb1270) (o := .cells #[.int .i64 1, .int .i64 9, .int .i64 1, .int .i64 1, .int .i64 2, .int .i64 0] 70 (0, 0)) (bk_ BK1270.out)) (below_size bl_))
      have n5_ := Aside0.mk (blk_below (g := gb1270) (o := .cells #[.int .i64 1, .int .i64 9, .int .i64 1, .int .i64 1, .int .i64 2, .int .i64 0] 70 (0, 0)) (bk_ BK1270.out) hb)
      have n6_ := Aside0.mk (below_step bl_ hb)
      clear HO1253
      clear HO1260
      clear HO1264
      clear HO1266
      clear BK1270
      clear HB
      have HO1253 := n0_
      have HO1260 := n1_
      have HO1264 := n2_
      have HO1266 := n3_
      have HO1279 := n4_
      have BK1270 := n5_
      have HB := n6_
      clear n0_ n1_ n2_ n3_ n4_ n5_ n6_
      clear hb ho28
      refine hK.out _ _ ⟨(blk_cell BK1270.out 0).trans rfl, (blk_cell BK1270.out 1).trans rfl, (blk_cell BK1270.out 2).trans rfl, (blk_cell BK1270.out 3).trans rfl, (blk_cell BK1270.out 4).trans rfl, (blk_cell BK1270.out 5).trans rfl⟩ (fun hHeld => ?_)
      clear hK K
      refine norm_ (a' := ?_) ?_ ?_
      rotate_left
      ·show Act.put _ (some 53) _ = _
       simp only [Act.put, List.setIfInBounds_toArray, List.set_cons_zero, List.set_cons_succ, i64_w, i32_w]
       rfl
      refine one_ (i := 0) (N := some 49) #[true, true, false, true, true, false, false, false] rfl rfl (one_of HT_.out (by kernel_rfl)) (by decide) (fun K hK => ?_)
      refine Kd.R_lit_step k70 _ 70 ?hg (N := 49) ?hd (xs := ([] : List (S70))) (inner := []) (ok := fun _ => True) (okp := fun _ => True) ?hr ?hp (fun _ hk => hk) trivial (Below.refl _ _) (Nat.le_refl _) (by simp) ?_; (case hd => rfl); (case hg => rfl); (case hr => first | (go_simp; done) | (go_simp; rfl)); (case hp => exact (Reps.none _ _))
      intro v1272 w29 ho30 hb hg_ hnew_
      clear hg_ hnew_
      (first | rw [← Ny1271.out] at ho30 | (simp only [Int.reduceToNat] at ho30; rw [← Ny1271.out] at ho30))
      have n0_ := Aside0.mk (Kd.R_elder' (ra_ HO1253.out) (Kd.R_base ho30) hb)
      have n1_ := Aside0.mk (Kd.R_elder' (ra_ HO1260.out) (Kd.R_base ho30) hb)
      have n2_ := Aside0.mk (Kd.R_elder' (ra_ HO1264.out) (Kd.R_base ho30) hb)
      have n3_ := Aside0.mk (Kd.R_elder' (ra_ HO1266.out) (Kd.R_base ho30) hb)
      have n4_ := Aside0.mk (Kd.R_elder' (ra_ HO1279.out) (Kd.R_base ho30) hb)
      have n5_ := Aside0.mk (Kd.R_lower (Kd.R_newB (Kd.R_new' (Kd.R_new' (Kd.R_new' (Kd.R_new' (Kd.R_new' ho30 (Kd.R_lt (ra_ HO1253.out))) (Kd.R_lt (ra_ HO1260.out))) (Kd.R_lt (ra_ HO1264.out))) (Kd.R_lt (ra_ HO1266.out))) (Kd.R_lt (ra_ HO1279.out))) (g := gb1270) (o := .cells #[.int .i64 1, .int .i64 9, .int .i64 1, .int .i64 1, .int .i64 2, .int .i64 0] 70 (0, 0)) (bk_ BK1270.out)) (below_size bl_))
      have n6_ := Aside0.mk (blk_below (g := gb1270) (o := .cells #[.int .i64 1, .int .i64 9, .int .i64 1, .int .i64 1, .int .i64 2, .int .i64 0] 70 (0, 0)) (bk_ BK1270.out) hb)
      have n7_ := Aside0.mk (below_step bl_ hb)
      clear HO1253
      clear HO1260
      clear HO1264
      clear HO1266
      clear HO1279
      clear BK1270
      clear HB
      have HO1253 := n0_
      have HO1260 := n1_
      have HO1264 := n2_
      have HO1266 := n3_
      have HO1279 := n4_
      have HO1273 := n5_
      have BK1270 := n6_
      have HB := n7_
      clear n0_ n1_ n2_ n3_ n4_ n5_ n6_ n7_
      clear hb ho30
      refine hK.out _ _ ⟨(blk_cell BK1270.out 0).trans rfl, (blk_cell BK1270.out 1).trans rfl, (blk_cell BK1270.out 2).trans rfl, (blk_cell BK1270.out 3).trans rfl, (blk_cell BK1270.out 4).trans rfl, (blk_cell BK1270.out 5).trans rfl⟩ (fun hHeld => ?_)
      clear hK K
      refine norm_ (a' := ?_) ?_ ?_
      rotate_left
      ·show Act.put _ (some 49) _ = _
       simp only [Act.put, List.setIfInBounds_toArray, List.set_cons_zero, List.set_cons_succ, i64_w, i32_w]
       rfl
      refine one_ (i := 2) (N := some 51) #[true, true, true, true, true, false, false, false] rfl rfl (one_of HT_.out (by kernel_rfl)) (by decide) (fun K hK => ?_)
      refine Kd.R_append_rows_step k70 (w0 := w) w.heap.size (by rfl) (.tmp 49) (.tmp 50) 28 70 (.agg #[(.int .i64 0), (.int .i64 0), (.int .i64 0), (.int .i64 0), (.int .i64 0), (.int .i64 0)]) 48 rfl Tryd.underlying28 info70 rfl (by decide) (by omega) v1272 y1271 t1251 _ _ _ (fun k_ => some k_ ≠ (.slice Ao15 t1251.length co15 : Value).ownBlock ∧ some k_ ≠ (v1259 : Value).ownBlock ∧ some k_ ≠ (.slice Ao20 t1261.length co20 : Value).ownBlock ∧ some k_ ≠ (.slice Ao21 t1262.length co21 : Value).ownBlock ∧ some k_ ≠ (v1278 : Value).ownBlock ∧ k_ ≠ gb1270) (fun _ => False) rfl rfl ?aO ?aR (fun _ _ h => h) (fun _ h => h.elim) ?aF ?aB ?aS ?aL ?_
      (case aR => repeat (first | exact (Kd.R_reads' HO1253.out).2.2 | (with_reducible refine Kd.C_alloc ?_ _) | (with_reducible refine Kd.C_drewN ?_ _) | (with_reducible refine Kd.C_drew ?_)))
      (case aB => exact bl_)
      (case aF => exact (fun k_ hk => ⟨Kd.fresh' (Kd.R_lt (ra_ HO1253.out)) k_ hk, Kd.fresh' (Kd.R_lt (ra_ HO1260.out)) k_ hk, Kd.fresh' (Kd.R_lt (ra_ HO1264.out)) k_ hk, Kd.fresh' (Kd.R_lt (ra_ HO1266.out)) k_ hk, Kd.fresh' (Kd.R_lt (ra_ HO1279.out)) k_ hk, Kd.freshB (g := gb1270) (o := .cells #[.int .i64 1, .int .i64 9, .int .i64 1, .int .i64 1, .int .i64 2, .int .i64 0] 70 (0, 0)) (bk_ BK1270.out) k_ hk⟩))
      (case aO => exact (by (with_reducible repeat (first | apply Kd.R_alloc | apply Kd.R_drewN | apply Kd.R_drew)); exact Kd.R_mono HO1273.out (fun _ hk => ⟨hk.1.1.1.1.1.2, ⟨hk.1.1.1.1.2, ⟨hk.1.1.1.2, ⟨hk.1.1.2, ⟨hk.1.2, hk.2⟩⟩⟩⟩⟩)))
      (case aS => exact (below_size bl_))
      (case aL => have := LMc10.out; omega)
      intro v1275 w31 ho hb hg hat
      rw [← Ny1274.out] at ho
      have n0_ := Aside0.mk (Kd.R_after (ok := (fun k_ => some k_ ≠ (v1259 : Value).ownBlock ∧ some k_ ≠ (.slice Ao20 t1261.length co20 : Value).ownBlock ∧ some k_ ≠ (.slice Ao21 t1262.length co21 : Value).ownBlock ∧ some k_ ≠ (v1278 : Value).ownBlock ∧ k_ ≠ gb1270)) (by (with_reducible repeat (first | apply Kd.R_alloc | apply Kd.R_drewN | apply Kd.R_drew)); exact Kd.R_mono HO1253.out (fun _ hk => ⟨⟨hk.1.1.1, ⟨hk.1.1.2.1, ⟨hk.1.1.2.2.1, ⟨hk.1.2, hk.1.1.2.2.2⟩⟩⟩⟩, hk.2⟩)) hg hat)
      have n1_ := Aside0.mk (Kd.R_after (ok := (fun k_ => some k_ ≠ (.slice Ao15 t1251.length co15 : Value).ownBlock ∧ some k_ ≠ (.slice Ao20 t1261.length co20 : Value).ownBlock ∧ some k_ ≠ (.slice Ao21 t1262.length co21 : Value).ownBlock ∧ some k_ ≠ (v1278 : Value).ownBlock ∧ k_ ≠ gb1270)) (by (with_reducible repeat (first | apply Kd.R_alloc | apply Kd.R_drewN | apply Kd.R_drew)); exact Kd.R_mono HO1260.out (fun _ hk => ⟨⟨hk.1.1.1, ⟨hk.1.1.2.1, ⟨hk.1.1.2.2.1, ⟨hk.1.2, hk.1.1.2.2.2⟩⟩⟩⟩, hk.2⟩)) hg hat)
      have n2_ := Aside0.mk (Kd.R_after (ok := (fun k_ => some k_ ≠ (.slice Ao15 t1251.length co15 : Value).ownBlock ∧ some k_ ≠ (v1259 : Value).ownBlock ∧ some k_ ≠ (.slice Ao21 t1262.length co21 : Value).ownBlock ∧ some k_ ≠ (v1278 : Value).ownBlock ∧ k_ ≠ gb1270)) (by (with_reducible repeat (first | apply Kd.R_alloc | apply Kd.R_drewN | apply Kd.R_drew)); exact Kd.R_mono HO1264.out (fun _ hk => ⟨⟨hk.1.1.1, ⟨hk.1.1.2.1, ⟨hk.1.1.2.2.1, ⟨hk.1.2, hk.1.1.2.2.2⟩⟩⟩⟩, hk.2⟩)) hg hat)
      have n3_ := Aside0.mk (Kd.R_after (ok := (fun k_ => some k_ ≠ (.slice Ao15 t1251.length co15 : Value).ownBlock ∧ some k_ ≠ (v1259 : Value).ownBlock ∧ some k_ ≠ (.slice Ao20 t1261.length co20 : Value).ownBlock ∧ some k_ ≠ (v1278 : Value).ownBlock ∧ k_ ≠ gb1270)) (by (with_reducible repeat (first | apply Kd.R_alloc | apply Kd.R_drewN | apply Kd.R_drew)); exact Kd.R_mono HO1266.out (fun _ hk => ⟨⟨hk.1.1.1, ⟨hk.1.1.2.1, ⟨hk.1.1.2.2.1, ⟨hk.1.2, hk.1.1.2.2.2⟩⟩⟩⟩, hk.2⟩)) hg hat)
      have n4_ := Aside0.mk (blk_grown (g := gb1270) (o := .cells #[.int .i64 1, .int .i64 9, .int .i64 1, .int .i64 1, .int .i64 2, .int .i64 0] 70 (0, 0)) (bk_ BK1270.out) hg (Kd.R_away HO1273.out (fun _ hk => hk.2)))
      have n5_ := Aside0.mk (Kd.R_after (ok := (fun k_ => some k_ ≠ (.slice Ao15 t1251.length co15 : Value).ownBlock ∧ some k_ ≠ (v1259 : Value).ownBlock ∧ some k_ ≠ (.slice Ao20 t1261.length co20 : Value).ownBlock ∧ some k_ ≠ (.slice Ao21 t1262.length co21 : Value).ownBlock ∧ k_ ≠ gb1270)) (by (with_reducible repeat (first | apply Kd.R_alloc | apply Kd.R_drewN | apply Kd.R_drew)); exact Kd.R_mono HO1279.out (fun _ hk => ⟨⟨hk.1.1.1.1.1.2, ⟨hk.1.1.1.1.2, ⟨hk.1.1.1.2, ⟨hk.1.1.2, hk.1.2⟩⟩⟩⟩, hk.2⟩)) hg hat)
      have n6_ := Aside0.mk (hb)
      have n7_ := Aside0.mk (ho)
      clear HO1253
      clear HO1260
      clear HO1264
      clear HO1266
      clear BK1270
      clear HO1279
      clear HB
      clear HO1273
      have HO1253 := n0_
      have HO1260 := n1_
      have HO1264 := n2_
      have HO1266 := n3_
      have BK1270 := n4_
      have HO1279 := n5_
      have HB := n6_
      have HO1276 := n7_
      clear n0_ n1_ n2_ n3_ n4_ n5_ n6_ n7_
      clear ho hb hg hat
      refine hK.out _ _ ⟨(blk_cell BK1270.out 0).trans rfl, (blk_cell BK1270.out 1).trans rfl, (blk_cell BK1270.out 2).trans rfl, (blk_cell BK1270.out 3).trans rfl, (blk_cell BK1270.out 4).trans rfl, (blk_cell BK1270.out 5).trans rfl⟩ (fun hHeld => ?_)
      clear hK K
      refine norm_ (a' := ?_) ?_ ?_
      rotate_left
      ·show Act.put _ (some 51) _ = _
       simp only [Act.put, List.setIfInBounds_toArray, List.set_cons_zero, List.set_cons_succ, i64_w, i32_w]
       rfl
      exact norm_ (by simp only [putAll, Act.put, List.setIfInBounds_toArray, List.set_cons_zero, List.set_cons_succ]) (hCont (v1272, v1275, v1278) _ ⟨hHeld, (by (with_reducible repeat (first | apply Kd.R_alloc | apply Kd.R_drewN | apply Kd.R_drew)); exact Kd.R_mono HO1253.out (fun _ hk => ⟨hk.1.1, ⟨hk.1.2.1, ⟨hk.1.2.2.1, ⟨hk.2, ⟨hk.1.2.2.2.1, hk.1.2.2.2.2⟩⟩⟩⟩⟩)), (by (with_reducible repeat (first | apply Kd.R_alloc | apply Kd.R_drewN | apply Kd.R_drew)); exact Kd.R_mono HO1260.out (fun _ hk => ⟨hk.1.1, ⟨hk.1.2.1, ⟨hk.1.2.2.1, ⟨hk.2, ⟨hk.1.2.2.2.1, hk.1.2.2.2.2⟩⟩⟩⟩⟩)), (by (with_reducible repeat (first | apply Kd.R_alloc | apply Kd.R_drewN | apply Kd.R_drew)); exact Kd.R_mono HO1264.out (fun _ hk => ⟨hk.1.1, ⟨hk.1.2.1, ⟨hk.1.2.2.1, ⟨hk.2, ⟨hk.1.2.2.2.1, hk.1.2.2.2.2⟩⟩⟩⟩⟩)), (by (with_reducible repeat (first | apply Kd.R_alloc | apply Kd.R_drewN | apply Kd.R_drew)); exact Kd.R_mono HO1266.out (fun _ hk => ⟨hk.1.1, ⟨hk.1.2.1, ⟨hk.1.2.2.1, ⟨hk.2, ⟨hk.1.2.2.2.1, hk.1.2.2.2.2⟩⟩⟩⟩⟩)), (ra_ HO1276.out), (by (with_reducible repeat (first | apply Kd.R_alloc | apply Kd.R_drewN | apply Kd.R_drew)); exact Kd.R_mono HO1279.out (fun _ hk => ⟨hk.1.1, ⟨hk.1.2.1, ⟨hk.1.2.2.1, ⟨hk.1.2.2.2.1, ⟨hk.2, hk.1.2.2.2.2⟩⟩⟩⟩⟩)), (bk_ BK1270.out), bl_⟩)
    rintro ⟨v1272, v1275, v1278⟩ w32 ⟨hS_, h0_, h1_, h2_, h3_, h4_, h5_, h6_, h7_⟩
    have n0_ : Aside0 (Kd.R k70 70 w32 w.heap.size (fun k_ => some k_ ≠ (v1259 : Value).ownBlock ∧ some k_ ≠ (.slice Ao20 t1261.length co20 : Value).ownBlock ∧ some k_ ≠ (.slice Ao21 t1262.length co21 : Value).ownBlock ∧ some k_ ≠ (v1275 : Value).ownBlock ∧ some k_ ≠ (v1278 : Value).ownBlock ∧ k_ ≠ gb1270) (.slice Ao15 t1251.length co15) t1251) := ⟨h0_⟩
    have n1_ : Aside0 (Kd.R k70 70 w32 w.heap.size (fun k_ => some k_ ≠ (.slice Ao15 t1251.length co15 : Value).ownBlock ∧ some k_ ≠ (.slice Ao20 t1261.length co20 : Value).ownBlock ∧ some k_ ≠ (.slice Ao21 t1262.length co21 : Value).ownBlock ∧ some k_ ≠ (v1275 : Value).ownBlock ∧ some k_ ≠ (v1278 : Value).ownBlock ∧ k_ ≠ gb1270) v1259 t1257) := ⟨h1_⟩
    have n2_ : Aside0 (Kd.R k70 70 w32 w.heap.size (fun k_ => some k_ ≠ (.slice Ao15 t1251.length co15 : Value).ownBlock ∧ some k_ ≠ (v1259 : Value).ownBlock ∧ some k_ ≠ (.slice Ao21 t1262.length co21 : Value).ownBlock ∧ some k_ ≠ (v1275 : Value).ownBlock ∧ some k_ ≠ (v1278 : Value).ownBlock ∧ k_ ≠ gb1270) (.slice Ao20 t1261.length co20) t1261) := ⟨h2_⟩
    have n3_ : Aside0 (Kd.R k70 70 w32 w.heap.size (fun k_ => some k_ ≠ (.slice Ao15 t1251.length co15 : Value).ownBlock ∧ some k_ ≠ (v1259 : Value).ownBlock ∧ some k_ ≠ (.slice Ao20 t1261.length co20 : Value).ownBlock ∧ some k_ ≠ (v1275 : Value).ownBlock ∧ some k_ ≠ (v1278 : Value).ownBlock ∧ k_ ≠ gb1270) (.slice Ao21 t1262.length co21) t1262) := ⟨h3_⟩
    have n4_ : Aside0 (Kd.R k70 70 w32 w.heap.size (fun k_ => some k_ ≠ (.slice Ao15 t1251.length co15 : Value).ownBlock ∧ some k_ ≠ (v1259 : Value).ownBlock ∧ some k_ ≠ (.slice Ao20 t1261.length co20 : Value).ownBlock ∧ some k_ ≠ (.slice Ao21 t1262.length co21 : Value).ownBlock ∧ some k_ ≠ (v1278 : Value).ownBlock ∧ k_ ≠ gb1270) v1275 y1274) := ⟨h4_⟩
    have n5_ : Aside0 (Kd.R k70 70 w32 w.heap.size (fun k_ => some k_ ≠ (.slice Ao15 t1251.length co15 : Value).ownBlock ∧ some k_ ≠ (v1259 : Value).ownBlock ∧ some k_ ≠ (.slice Ao20 t1261.length co20 : Value).ownBlock ∧ some k_ ≠ (.slice Ao21 t1262.length co21 : Value).ownBlock ∧ some k_ ≠ (v1275 : Value).ownBlock ∧ k_ ≠ gb1270) v1278 y1277) := ⟨h5_⟩
    have n6_ : Aside0 (w32.heap[gb1270]? = some (.cells #[.int .i64 1, .int .i64 9, .int .i64 1, .int .i64 1, .int .i64 2, .int .i64 0] 70 (0, 0))) := ⟨h6_⟩
    have n7_ : Aside0 (Below w.heap.size w w32) := ⟨h7_⟩
    clear HO1253
    clear HO1260
    clear HO1264
    clear HO1266
    clear BK1270
    clear HB
    clear h0_ h1_ h2_ h3_ h4_ h5_ h6_ h7_
    have HO1253 := n0_
    have HO1260 := n1_
    have HO1264 := n2_
    have HO1266 := n3_
    have HO1276 := n4_
    have HO1279 := n5_
    have BK1270 := n6_
    have HB := n7_
    clear n0_ n1_ n2_ n3_ n4_ n5_ n6_ n7_
    have hHeld : w32.cell? ⟨gb1270, 0, none⟩ = some (.int .i64 1) ∧ w32.cell? ⟨gb1270, 1, none⟩ = some (.int .i64 9) ∧ w32.cell? ⟨gb1270, 2, none⟩ = some (.int .i64 1) ∧ w32.cell? ⟨gb1270, 3, none⟩ = some (.int .i64 1) ∧ w32.cell? ⟨gb1270, 4, none⟩ = some (.int .i64 2) ∧ w32.cell? ⟨gb1270, 5, none⟩ = some (.int .i64 0) := hS_
    obtain ⟨Ao34, co34, eo34⟩ := Kd.R_slice HO1279.out
    (first | subst eo34 | (injection eo34 with f1_ f2_ f3_; have f4_ := f1_.symm; have f5_ := f3_.symm; clear f1_ f2_ f3_; subst f4_; subst f5_))
    refine norm_ (a' := ?_) ?_ ?_
    rotate_left
    ·simp only [putAll, Act.put, List.setIfInBounds_toArray, List.set_cons_zero, List.set_cons_succ]
     rfl
    refine one_ (i := 5) (N := some 54) #[true, true, true, true, true, true, false, false] rfl rfl (one_of HT_.out (by kernel_rfl)) (by decide) (fun K hK => ?_)
    refine Kd.R_append_rows_step k70 (w0 := w) w.heap.size (by rfl) (.tmp 51) (.tmp 53) 28 70 (.agg #[(.int .i64 0), (.int .i64 0), (.int .i64 0), (.int .i64 0), (.int .i64 0), (.int .i64 0)]) 48 rfl Tryd.underlying28 info70 rfl (by decide) (by omega) v1275 y1274 y1277 _ _ _ (fun k_ => some k_ ≠ (.slice Ao15 t1251.length co15 : Value).ownBlock ∧ some k_ ≠ (v1259 : Value).ownBlock ∧ some k_ ≠ (.slice Ao20 t1261.length co20 : Value).ownBlock ∧ some k_ ≠ (.slice Ao21 t1262.length co21 : Value).ownBlock ∧ some k_ ≠ (.slice Ao34 y1277.length co34 : Value).ownBlock ∧ k_ ≠ gb1270) (fun _ => False) rfl rfl ?aO ?aR (fun _ _ h => h) (fun _ h => h.elim) ?aF ?aB ?aS ?aL ?_
    (case aR => repeat (first | exact (Kd.R_reads' HO1279.out).2.2 | (with_reducible refine Kd.C_alloc ?_ _) | (with_reducible refine Kd.C_drewN ?_ _) | (with_reducible refine Kd.C_drew ?_)))
    (case aB => exact bl_)
    (case aF => exact (fun k_ hk => ⟨Kd.fresh' (Kd.R_lt (ra_ HO1253.out)) k_ hk, Kd.fresh' (Kd.R_lt (ra_ HO1260.out)) k_ hk, Kd.fresh' (Kd.R_lt (ra_ HO1264.out)) k_ hk, Kd.fresh' (Kd.R_lt (ra_ HO1266.out)) k_ hk, Kd.fresh' (Kd.R_lt (ra_ HO1279.out)) k_ hk, Kd.freshB (g := gb1270) (o := .cells #[.int .i64 1, .int .i64 9, .int .i64 1, .int .i64 1, .int .i64 2, .int .i64 0] 70 (0, 0)) (bk_ BK1270.out) k_ hk⟩))
    (case aO => exact (ra_ HO1276.out))
    (case aS => exact (below_size bl_))
    (case aL => have := LMc11.out; omega)
    intro v1281 w33 ho hb hg hat
    rw [← Ny1280.out] at ho
    have n0_ := Aside0.mk (Kd.R_after (ok := (fun k_ => some k_ ≠ (v1259 : Value).ownBlock ∧ some k_ ≠ (.slice Ao20 t1261.length co20 : Value).ownBlock ∧ some k_ ≠ (.slice Ao21 t1262.length co21 : Value).ownBlock ∧ some k_ ≠ (.slice Ao34 y1277.length co34 : Value).ownBlock ∧ k_ ≠ gb1270)) (by (with_reducible repeat (first | apply Kd.R_alloc | apply Kd.R_drewN | apply Kd.R_drew)); exact Kd.R_mono HO1253.out (fun _ hk => ⟨⟨hk.1, ⟨hk.2.1, ⟨hk.2.2.1, ⟨hk.2.2.2.2.1, hk.2.2.2.2.2⟩⟩⟩⟩, hk.2.2.2.1⟩)) hg hat)
    have n1_ := Aside0.mk (Kd.R_after (ok := (fun k_ => some k_ ≠ (.slice Ao15 t1251.length co15 : Value).ownBlock ∧ some k_ ≠ (.slice Ao20 t1261.length co20 : Value).ownBlock ∧ some k_ ≠ (.slice Ao21 t1262.length co21 : Value).ownBlock ∧ some k_ ≠ (.slice Ao34 y1277.length co34 : Value).ownBlock ∧ k_ ≠ gb1270)) (by (with_reducible repeat (first | apply Kd.R_alloc | apply Kd.R_drewN | apply Kd.R_drew)); exact Kd.R_mono HO1260.out (fun _ hk => ⟨⟨hk.1, ⟨hk.2.1, ⟨hk.2.2.1, ⟨hk.2.2.2.2.1, hk.2.2.2.2.2⟩⟩⟩⟩, hk.2.2.2.1⟩)) hg hat)
    have n2_ := Aside0.mk (Kd.R_after (ok := (fun k_ => some k_ ≠ (.slice Ao15 t1251.length co15 : Value).ownBlock ∧ some k_ ≠ (v1259 : Value).ownBlock ∧ some k_ ≠ (.slice Ao21 t1262.length co21 : Value).ownBlock ∧ some k_ ≠ (.slice Ao34 y1277.length co34 : Value).ownBlock ∧ k_ ≠ gb1270)) (by (with_reducible repeat (first | apply Kd.R_alloc | apply Kd.R_drewN | apply Kd.R_drew)); exact Kd.R_mono HO1264.out (fun _ hk => ⟨⟨hk.1, ⟨hk.2.1, ⟨hk.2.2.1, ⟨hk.2.2.2.2.1, hk.2.2.2.2.2⟩⟩⟩⟩, hk.2.2.2.1⟩)) hg hat)
    have n3_ := Aside0.mk (Kd.R_after (ok := (fun k_ => some k_ ≠ (.slice Ao15 t1251.length co15 : Value).ownBlock ∧ some k_ ≠ (v1259 : Value).ownBlock ∧ some k_ ≠ (.slice Ao20 t1261.length co20 : Value).ownBlock ∧ some k_ ≠ (.slice Ao34 y1277.length co34 : Value).ownBlock ∧ k_ ≠ gb1270)) (by (with_reducible repeat (first | apply Kd.R_alloc | apply Kd.R_drewN | apply Kd.R_drew)); exact Kd.R_mono HO1266.out (fun _ hk => ⟨⟨hk.1, ⟨hk.2.1, ⟨hk.2.2.1, ⟨hk.2.2.2.2.1, hk.2.2.2.2.2⟩⟩⟩⟩, hk.2.2.2.1⟩)) hg hat)
    have n4_ := Aside0.mk (blk_grown (g := gb1270) (o := .cells #[.int .i64 1, .int .i64 9, .int .i64 1, .int .i64 1, .int .i64 2, .int .i64 0] 70 (0, 0)) (bk_ BK1270.out) hg (Kd.R_away HO1276.out (fun _ hk => hk.2.2.2.2.2)))
    have n5_ := Aside0.mk (Kd.R_after (ok := (fun k_ => some k_ ≠ (.slice Ao15 t1251.length co15 : Value).ownBlock ∧ some k_ ≠ (v1259 : Value).ownBlock ∧ some k_ ≠ (.slice Ao20 t1261.length co20 : Value).ownBlock ∧ some k_ ≠ (.slice Ao21 t1262.length co21 : Value).ownBlock ∧ k_ ≠ gb1270)) (by (with_reducible repeat (first | apply Kd.R_alloc | apply Kd.R_drewN | apply Kd.R_drew)); exact Kd.R_mono HO1279.out (fun _ hk => ⟨⟨hk.1, ⟨hk.2.1, ⟨hk.2.2.1, ⟨hk.2.2.2.1, hk.2.2.2.2.2⟩⟩⟩⟩, hk.2.2.2.2.1⟩)) hg hat)
    have n6_ := Aside0.mk (hb)
    have n7_ := Aside0.mk (ho)
    clear HO1253
    clear HO1260
    clear HO1264
    clear HO1266
    clear BK1270
    clear HO1279
    clear HB
    clear HO1276
    have HO1253 := n0_
    have HO1260 := n1_
    have HO1264 := n2_
    have HO1266 := n3_
    have BK1270 := n4_
    have HO1279 := n5_
    have HB := n6_
    have HO1282 := n7_
    clear n0_ n1_ n2_ n3_ n4_ n5_ n6_ n7_
    clear ho hb hg hat
    obtain ⟨Ao35, co35, eo35⟩ := Kd.R_slice HO1282.out
    (first | subst eo35 | (injection eo35 with f1_ f2_ f3_; have f4_ := f1_.symm; have f5_ := f3_.symm; clear f1_ f2_ f3_; subst f4_; subst f5_))
    refine hK.out _ _ ⟨(blk_cell BK1270.out 0).trans rfl, (blk_cell BK1270.out 1).trans rfl, (blk_cell BK1270.out 2).trans rfl, (blk_cell BK1270.out 3).trans rfl, (blk_cell BK1270.out 4).trans rfl, (blk_cell BK1270.out 5).trans rfl⟩ (fun hHeld => ?_)
    clear hK K
    refine norm_ (a' := ?_) ?_ ?_
    rotate_left
    ·show Act.put _ (some 54) _ = _
     simp only [Act.put, List.setIfInBounds_toArray, List.set_cons_zero, List.set_cons_succ, i64_w, i32_w]
     rfl
    refine one_ (i := 6) (N := some 55) #[true, true, true, true, true, true, true, false] rfl rfl (one_of HT_.out (by kernel_rfl)) (by decide) (fun K hK => ?_)
    refine goes_ Tryd.func59 (by kernel_rfl) rfl #[.slice Ao35 y1280.length co35] (by rfl) rfl rfl lm_ ?_
    with_reducible refine (impl_HeadOf.calls k _ _ y1280 t1283 _ ?side1 ?side2 ?side3 A12.out).mono ?_
    (case side1 => repeat (first | exact (Kd.R_reads' HO1282.out).2.2 | (with_reducible refine Kd.C_alloc ?_ _) | (with_reducible refine Kd.C_drewN ?_ _) | (with_reducible refine Kd.C_drew ?_)))
    (case side2 => exact (Kd.R_reads' HO1282.out).2.1)
    (case side3 => exact tab_of HT.out bl_)
    rintro e w36 ⟨rfl, hb⟩
    refine ⟨_, rfl, ?_⟩
    have n0_ := Aside0.mk (Kd.R_below (ra_ HO1253.out) hb)
    have n1_ := Aside0.mk (Kd.R_below (ra_ HO1260.out) hb)
    have n2_ := Aside0.mk (Kd.R_below (ra_ HO1264.out) hb)
    have n3_ := Aside0.mk (Kd.R_below (ra_ HO1266.out) hb)
    have n4_ := Aside0.mk (Kd.R_below (ra_ HO1279.out) hb)
    have n5_ := Aside0.mk (Kd.R_below (ra_ HO1282.out) hb)
    have n6_ := Aside0.mk (blk_below (g := gb1270) (o := .cells #[.int .i64 1, .int .i64 9, .int .i64 1, .int .i64 1, .int .i64 2, .int .i64 0] 70 (0, 0)) (bk_ BK1270.out) hb)
    have n7_ := Aside0.mk (below_step bl_ hb)
    clear HO1253
    clear HO1260
    clear HO1264
    clear HO1266
    clear HO1279
    clear HO1282
    clear BK1270
    clear HB
    have HO1253 := n0_
    have HO1260 := n1_
    have HO1264 := n2_
    have HO1266 := n3_
    have HO1279 := n4_
    have HO1282 := n5_
    have BK1270 := n6_
    have HB := n7_
    clear n0_ n1_ n2_ n3_ n4_ n5_ n6_ n7_
    (try clear hb)
    (try clear hb2)
    (try clear hk)
    (try clear hi)
    refine hK.out _ _ ⟨(blk_cell BK1270.out 0).trans rfl, (blk_cell BK1270.out 1).trans rfl, (blk_cell BK1270.out 2).trans rfl, (blk_cell BK1270.out 3).trans rfl, (blk_cell BK1270.out 4).trans rfl, (blk_cell BK1270.out 5).trans rfl⟩ (fun hHeld => ?_)
    clear hK K
    refine norm_ (a' := ?_) ?_ ?_
    rotate_left
    ·show Act.put _ (some 55) _ = _
     simp only [Act.put, List.setIfInBounds_toArray, List.set_cons_zero, List.set_cons_succ, i64_w, i32_w]
     rfl
    refine pure_ (i := 7) (N := some 15) (v := ?_) (a' := ?_) #[true, true, true, true, true, true, true, true] rfl rfl (any_of HT_.out (by kernel_rfl)) (fun _ _ _ h => h) (Or.inl ⟨by rfl, ?_⟩) ?_ ?_
    rotate_left
    ·intro w'
     go_simp
     with_reducible rfl
    rotate_left
    ·simp only [Act.put, List.setIfInBounds_toArray, List.set_cons_zero, List.set_cons_succ, i64_w, i32_w]
     rfl
    refine done_ (done_of HT_.out (by kernel_rfl)) ?_
    go_upto_region 11 with (fail)
    go_cut [68] (fun v68 wc => ∃ (kq : Nat) (x68_12 : Bool), v68 = .bool x68_12 ∧ Aside0 (laws_FnChains.j0 kq t1251 t1254 t1255 t1256 t1257 t1258 t1261 t1262 t1267 t1268 t1269 t1283 x68_12 1 9 1 1 2 0 = some r) ∧ Aside0 (kq ≤ k) ∧ Aside0 (Kd.R k70 70 wc w.heap.size (fun k_ => some k_ ≠ (v1259 : Value).ownBlock ∧ some k_ ≠ ((.slice Ao20 t1261.length co20) : Value).ownBlock ∧ some k_ ≠ ((.slice Ao21 t1262.length co21) : Value).ownBlock ∧ k_ ≠ gb1270) (.slice Ao15 t1251.length co15) t1251) ∧ Aside0 (Kd.R k70 70 wc w.heap.size (fun k_ => some k_ ≠ ((.slice Ao15 t1251.length co15) : Value).ownBlock ∧ some k_ ≠ ((.slice Ao20 t1261.length co20) : Value).ownBlock ∧ some k_ ≠ ((.slice Ao21 t1262.length co21) : Value).ownBlock ∧ k_ ≠ gb1270) v1259 t1257) ∧ Aside0 (Kd.R k70 70 wc w.heap.size (fun k_ => some k_ ≠ ((.slice Ao15 t1251.length co15) : Value).ownBlock ∧ some k_ ≠ (v1259 : Value).ownBlock ∧ some k_ ≠ ((.slice Ao21 t1262.length co21) : Value).ownBlock ∧ k_ ≠ gb1270) (.slice Ao20 t1261.length co20) t1261) ∧ Aside0 (Kd.R k70 70 wc w.heap.size (fun k_ => some k_ ≠ ((.slice Ao15 t1251.length co15) : Value).ownBlock ∧ some k_ ≠ (v1259 : Value).ownBlock ∧ some k_ ≠ ((.slice Ao20 t1261.length co20) : Value).ownBlock ∧ k_ ≠ gb1270) (.slice Ao21 t1262.length co21) t1262) ∧ Aside0 (wc.heap[gb1270]? = some (.cells #[.int .i64 1, .int .i64 9, .int .i64 1, .int .i64 1, .int .i64 2, .int .i64 0] 70 (0, 0))) ∧ Aside0 (Below w.heap.size w wc))
    case first =>
     have H := HC13.out
     clear HC13
     by_cases c37 : t1269 = true
     ·subst c37
      have H1 : (if t1267.toList = t1268.toList then (laws_FnChains.j0 k t1251 t1254 t1255 t1256 t1257 t1258 t1261 t1262 t1267 t1268 true t1283 true 1 9 1 1 2 0) else ((spec_Digest.f t1267).bind fun t1284 => ((spec_Digest.f t1268).bind fun t1285 => (laws_FnChains.j0 k t1251 t1254 t1255 t1256 t1257 t1258 t1261 t1262 t1267 t1268 true t1283 (t1284.toList != t1285.toList) 1 9 1 1 2 0)))) = some r := by rw [if_pos rfl] at H; exact H
      clear H
      have H := H1
      clear H1
      by_cases c38 : t1267.toList = t1268.toList
      ·rw [if_pos c38] at H
       have c38b0 : (t1267.toList == t1268.toList) = true := beq_iff_eq.mpr c38
       have c38b1 : (t1267.toList != t1268.toList) = false := bne_eq_false_iff_eq.mpr c38
       clear c38
       (first | rw [c38b0] | (simp only [i64_w, i32_w]; rw [c38b0]) | skip)
       have H' := Aside0.mk H
       clear H
       go_wp2
       go_meet
       case rel => exact ⟨_, (true), (by first | rfl | (simp; done) | (simp [*]; done)), H', ⟨by first | omega | exact Nat.le_refl _⟩, ⟨by (with_reducible repeat (first | apply Kd.R_alloc | apply Kd.R_drewN | apply Kd.R_drew)); exact Kd.R_mono HO1253.out (fun _ hk => ⟨hk.1.1, ⟨hk.1.2.1, ⟨hk.1.2.2.1, hk.1.2.2.2.2⟩⟩⟩)⟩, ⟨by (with_reducible repeat (first | apply Kd.R_alloc | apply Kd.R_drewN | apply Kd.R_drew)); exact Kd.R_mono HO1260.out (fun _ hk => ⟨hk.1.1, ⟨hk.1.2.1, ⟨hk.1.2.2.1, hk.1.2.2.2.2⟩⟩⟩)⟩, ⟨by (with_reducible repeat (first | apply Kd.R_alloc | apply Kd.R_drewN | apply Kd.R_drew)); exact Kd.R_mono HO1264.out (fun _ hk => ⟨hk.1.1, ⟨hk.1.2.1, ⟨hk.1.2.2.1, hk.1.2.2.2.2⟩⟩⟩)⟩, ⟨by (with_reducible repeat (first | apply Kd.R_alloc | apply Kd.R_drewN | apply Kd.R_drew)); exact Kd.R_mono HO1266.out (fun _ hk => ⟨hk.1.1, ⟨hk.1.2.1, ⟨hk.1.2.2.1, hk.1.2.2.2.2⟩⟩⟩)⟩, ⟨bk_ BK1270.out⟩, ⟨bl_⟩⟩
      ·rw [if_neg c38] at H
       have c38b0 : (t1267.toList == t1268.toList) = false := beq_eq_false_iff_ne.mpr c38
       have c38b1 : (t1267.toList != t1268.toList) = true := bne_iff_ne.mpr c38
       (first | rw [c38b0] | (simp only [i64_w, i32_w]; rw [c38b0]) | skip)
       replace H := Option.bind_eq_some_iff.mp H
       obtain ⟨t1284, A390, H⟩ := H
       replace H : ((spec_Digest.f t1268).bind fun t1285 => (laws_FnChains.j0 k t1251 t1254 t1255 t1256 t1257 t1258 t1261 t1262 t1267 t1268 true t1283 (t1284.toList != t1285.toList) 1 9 1 1 2 0)) = some r := H
       have A39 := Aside0.mk A390
       clear A390
       replace H := Option.bind_eq_some_iff.mp H
       obtain ⟨t1285, A400, H⟩ := H
       replace H : (laws_FnChains.j0 k t1251 t1254 t1255 t1256 t1257 t1258 t1261 t1262 t1267 t1268 true t1283 (t1284.toList != t1285.toList) 1 9 1 1 2 0) = some r := H
       have A40 := Aside0.mk A400
       clear A400
       have H' := Aside0.mk H
       clear H
       go_wp2_with (first | (go_at_call 56; (with_reducible refine (spec_Digest.calls t1267 t1284 _ A39.out).mono ?_); rintro e w41 ⟨rfl, hb⟩; have n0_ := Aside0.mk (Kd.R_below (ra_ HO1253.out) hb); have n1_ := Aside0.mk (Kd.R_below (ra_ HO1260.out) hb); have n2_ := Aside0.mk (Kd.R_below (ra_ HO1264.out) hb); have n3_ := Aside0.mk (Kd.R_below (ra_ HO1266.out) hb); have n4_ := Aside0.mk (Kd.R_below (ra_ HO1279.out) hb); have n5_ := Aside0.mk (Kd.R_below (ra_ HO1282.out) hb); have n6_ := Aside0.mk (blk_below (g := gb1270) (o := .cells #[.int .i64 1, .int .i64 9, .int .i64 1, .int .i64 1, .int .i64 2, .int .i64 0] 70 (0, 0)) (bk_ BK1270.out) hb); have n7_ := Aside0.mk (below_step bl_ hb); clear HO1253; clear HO1260; clear HO1264; clear HO1266; clear HO1279; clear HO1282; clear BK1270; clear HB; have HO1253 := n0_; have HO1260 := n1_; have HO1264 := n2_; have HO1266 := n3_; have HO1279 := n4_; have HO1282 := n5_; have BK1270 := n6_; have HB := n7_; clear n0_ n1_ n2_ n3_ n4_ n5_ n6_ n7_; (try clear hb); (try clear hb2); (try clear hk); (try clear hi)) | (go_at_call 56; (with_reducible refine (spec_Digest.calls t1268 t1285 _ A40.out).mono ?_); rintro e w42 ⟨rfl, hb⟩; have n0_ := Aside0.mk (Kd.R_below (ra_ HO1253.out) hb); have n1_ := Aside0.mk (Kd.R_below (ra_ HO1260.out) hb); have n2_ := Aside0.mk (Kd.R_below (ra_ HO1264.out) hb); have n3_ := Aside0.mk (Kd.R_below (ra_ HO1266.out) hb); have n4_ := Aside0.mk (Kd.R_below (ra_ HO1279.out) hb); have n5_ := Aside0.mk (Kd.R_below (ra_ HO1282.out) hb); have n6_ := Aside0.mk (blk_below (g := gb1270) (o := .cells #[.int .i64 1, .int .i64 9, .int .i64 1, .int .i64 1, .int .i64 2, .int .i64 0] 70 (0, 0)) (bk_ BK1270.out) hb); have n7_ := Aside0.mk (below_step bl_ hb); clear HO1253; clear HO1260; clear HO1264; clear HO1266; clear HO1279; clear HO1282; clear BK1270; clear HB; have HO1253 := n0_; have HO1260 := n1_; have HO1264 := n2_; have HO1266 := n3_; have HO1279 := n4_; have HO1282 := n5_; have BK1270 := n6_; have HB := n7_; clear n0_ n1_ n2_ n3_ n4_ n5_ n6_ n7_; (try clear hb); (try clear hb2); (try clear hk); (try clear hi)))
       go_meet
       case rel => exact ⟨_, ((t1284.toList != t1285.toList)), (by first | rfl | (simp; done) | (simp [*]; done)), H', ⟨by first | omega | exact Nat.le_refl _⟩, ⟨by (with_reducible repeat (first | apply Kd.R_alloc | apply Kd.R_drewN | apply Kd.R_drew)); exact Kd.R_mono HO1253.out (fun _ hk => ⟨hk.1.1, ⟨hk.1.2.1, ⟨hk.1.2.2.1, hk.1.2.2.2.2⟩⟩⟩)⟩, ⟨by (with_reducible repeat (first | apply Kd.R_alloc | apply Kd.R_drewN | apply Kd.R_drew)); exact Kd.R_mono HO1260.out (fun _ hk => ⟨hk.1.1, ⟨hk.1.2.1, ⟨hk.1.2.2.1, hk.1.2.2.2.2⟩⟩⟩)⟩, ⟨by (with_reducible repeat (first | apply Kd.R_alloc | apply Kd.R_drewN | apply Kd.R_drew)); exact Kd.R_mono HO1264.out (fun _ hk => ⟨hk.1.1, ⟨hk.1.2.1, ⟨hk.1.2.2.1, hk.1.2.2.2.2⟩⟩⟩)⟩, ⟨by (with_reducible repeat (first | apply Kd.R_alloc | apply Kd.R_drewN | apply Kd.R_drew)); exact Kd.R_mono HO1266.out (fun _ hk => ⟨hk.1.1, ⟨hk.1.2.1, ⟨hk.1.2.2.1, hk.1.2.2.2.2⟩⟩⟩)⟩, ⟨bk_ BK1270.out⟩, ⟨bl_⟩⟩
     ·replace c37 := Bool.eq_false_iff.mpr c37
      subst c37
      have H1 : (laws_FnChains.j0 k t1251 t1254 t1255 t1256 t1257 t1258 t1261 t1262 t1267 t1268 false t1283 false 1 9 1 1 2 0) = some r := by rw [if_neg (show ¬ (false = true) by decide)] at H; exact H
      clear H
      have H := H1
      clear H1
      have H' := Aside0.mk H
      clear H
      go_wp2
      go_meet
      case rel => exact ⟨_, (false), (by first | rfl | (simp; done) | (simp [*]; done)), H', ⟨by first | omega | exact Nat.le_refl _⟩, ⟨by (with_reducible repeat (first | apply Kd.R_alloc | apply Kd.R_drewN | apply Kd.R_drew)); exact Kd.R_mono HO1253.out (fun _ hk => ⟨hk.1.1, ⟨hk.1.2.1, ⟨hk.1.2.2.1, hk.1.2.2.2.2⟩⟩⟩)⟩, ⟨by (with_reducible repeat (first | apply Kd.R_alloc | apply Kd.R_drewN | apply Kd.R_drew)); exact Kd.R_mono HO1260.out (fun _ hk => ⟨hk.1.1, ⟨hk.1.2.1, ⟨hk.1.2.2.1, hk.1.2.2.2.2⟩⟩⟩)⟩, ⟨by (with_reducible repeat (first | apply Kd.R_alloc | apply Kd.R_drewN | apply Kd.R_drew)); exact Kd.R_mono HO1264.out (fun _ hk => ⟨hk.1.1, ⟨hk.1.2.1, ⟨hk.1.2.2.1, hk.1.2.2.2.2⟩⟩⟩)⟩, ⟨by (with_reducible repeat (first | apply Kd.R_alloc | apply Kd.R_drewN | apply Kd.R_drew)); exact Kd.R_mono HO1266.out (fun _ hk => ⟨hk.1.1, ⟨hk.1.2.1, ⟨hk.1.2.2.1, hk.1.2.2.2.2⟩⟩⟩)⟩, ⟨bk_ BK1270.out⟩, ⟨bl_⟩⟩
    case rest =>
     clear HC13
     try clear c1
     try clear p2
     try clear c3
     try clear c4
     try clear c5
     try clear c6
     try clear c10
     try clear c11
     try clear c13
     try clear c37
     try clear c38
     try clear c38b0
     try clear c38b1
     try clear hcz24_0
     try clear hcz24_1
     try clear hcz24_2
     try clear hcz24_3
     try clear hcz24_4
     try clear hcz24_5
     try clear hfz24_0
     try clear hfz24_1
     try clear hfz24_2
     try clear hfz24_3
     try clear hfz24_4
     try clear hfz24_5
     obtain ⟨kq, x68_12, rfl, HA, HJ12, HO_3, HO_7, HO_9, HO_10, BK1270, HB⟩ := hcut
     cases kq with
     | zero => exact absurd HA.out (by simp [laws_FnChains.j0])
     | succ kj12 =>
      have H := HA.out
      clear HA
      simp only [laws_FnChains.j0] at H
      by_cases c43 : x68_12 = true
      ·subst c43
       have H1 : (some false) = some r := by rw [if_pos rfl] at H; exact H
       clear H
       have H := H1
       clear H1
       exact absurd ((Option.some.inj H).trans HR1.out) (by decide)
      ·replace c43 := Bool.eq_false_iff.mpr c43
       subst c43
       have H1 : (if (t1261.length : Int) = (t1262.length : Int) then (laws_FnChains.l0 kj12 t1251 t1254 t1255 t1256 t1257 t1258 t1261 t1262 t1267 t1268 t1269 t1283 true 0 1 9 1 1 2 0) else (if t1269 = true then (some false) else (if t1267.toList = ([] : List UInt8) then (if t1268.toList = ([] : List UInt8) then (laws_FnChains.j2 kj12 t1251 t1254 t1255 t1256 t1257 t1258 t1283 1 9 1 1 2 0) else (some false)) else (some false)))) = some r := by rw [if_neg (show ¬ (false = true) by decide)] at H; exact H
       clear H
       have H := H1
       clear H1
       have HC44 := Aside0.mk H
       clear H
       go_upto_if 73 with (fail)
       go_cut [] (fun wc => ∃ (kq : Nat), Aside0 (laws_FnChains.j2 kq t1251 t1254 t1255 t1256 t1257 t1258 t1283 1 9 1 1 2 0 = some r) ∧ Aside0 (kq ≤ kj12) ∧ Aside0 (Kd.R k70 70 wc w.heap.size (fun k_ => some k_ ≠ (v1259 : Value).ownBlock ∧ k_ ≠ gb1270) (.slice Ao15 t1251.length co15) t1251) ∧ Aside0 (Kd.R k70 70 wc w.heap.size (fun k_ => some k_ ≠ ((.slice Ao15 t1251.length co15) : Value).ownBlock ∧ k_ ≠ gb1270) v1259 t1257) ∧ Aside0 (wc.heap[gb1270]? = some (.cells #[.int .i64 1, .int .i64 9, .int .i64 1, .int .i64 1, .int .i64 2, .int .i64 0] 70 (0, 0))) ∧ Aside0 (Below w.heap.size w wc))
       case first =>
        have H := HC44.out
        clear HC44
        by_cases c45 : (t1261.length : Int) = (t1262.length : Int)
        ·rw [if_pos c45] at H
         have c45b0 : ((t1261.length : Int) == (t1262.length : Int)) = true := beq_iff_eq.mpr c45
         have c45b1 : ((t1261.length : Int) != (t1262.length : Int)) = false := bne_eq_false_iff_eq.mpr c45
         have c45b2 : (t1261.length == t1262.length) = true := by first | simpa using c45 | (simp at c45 ⊢; omega)
         clear c45
         (first | rw [c45b0] | (simp only [i64_w, i32_w]; rw [c45b0]) | skip)
         have H' := Aside0.mk H
         clear H
         go_wp2
         go_loopg [16, 17] kj12 (fun kq v16 v17 w' => ∃ (x16_2 : Bool) (x17_2 : Int), v16 = .bool x16_2 ∧ v17 = .int .i64 x17_2 ∧ Aside0 (laws_FnChains.l0 kq t1251 t1254 t1255 t1256 t1257 t1258 t1261 t1262 t1267 t1268 t1269 t1283 x16_2 x17_2 1 9 1 1 2 0 = some r) ∧ Aside0 (kq ≤ kj12) ∧ Aside0 (Kd.R k70 70 w' w.heap.size (fun k_ => some k_ ≠ (v1259 : Value).ownBlock ∧ some k_ ≠ ((.slice Ao20 t1261.length co20) : Value).ownBlock ∧ some k_ ≠ ((.slice Ao21 t1262.length co21) : Value).ownBlock ∧ k_ ≠ gb1270) (.slice Ao15 t1251.length co15) t1251) ∧ Aside0 (Kd.R k70 70 w' w.heap.size (fun k_ => some k_ ≠ ((.slice Ao15 t1251.length co15) : Value).ownBlock ∧ some k_ ≠ ((.slice Ao20 t1261.length co20) : Value).ownBlock ∧ some k_ ≠ ((.slice Ao21 t1262.length co21) : Value).ownBlock ∧ k_ ≠ gb1270) v1259 t1257) ∧ Aside0 (Kd.R k70 70 w' w.heap.size (fun k_ => some k_ ≠ ((.slice Ao15 t1251.length co15) : Value).ownBlock ∧ some k_ ≠ (v1259 : Value).ownBlock ∧ some k_ ≠ ((.slice Ao21 t1262.length co21) : Value).ownBlock ∧ k_ ≠ gb1270) (.slice Ao20 t1261.length co20) t1261) ∧ Aside0 (Kd.R k70 70 w' w.heap.size (fun k_ => some k_ ≠ ((.slice Ao15 t1251.length co15) : Value).ownBlock ∧ some k_ ≠ (v1259 : Value).ownBlock ∧ some k_ ≠ ((.slice Ao20 t1261.length co20) : Value).ownBlock ∧ k_ ≠ gb1270) (.slice Ao21 t1262.length co21) t1262) ∧ Aside0 (w'.heap[gb1270]? = some (.cells #[.int .i64 1, .int .i64 9, .int .i64 1, .int .i64 1, .int .i64 2, .int .i64 0] 70 (0, 0))) ∧ Aside0 (Below w.heap.size w w'))
         case atStart => exact ⟨(true), (0), (by first | rfl | (simp; done) | (simp [*]; done)), (by first | rfl | (simp; done) | (simp [*]; done)), H', ⟨Nat.le_refl _⟩, ⟨ra_ HO_3.out⟩, ⟨ra_ HO_7.out⟩, ⟨ra_ HO_9.out⟩, ⟨ra_ HO_10.out⟩, ⟨bk_ BK1270.out⟩, ⟨bl_⟩⟩
         case round =>
          clear H'
          try clear c1
          try clear p2
          try clear c3
          try clear c4
          try clear c5
          try clear c6
          try clear c10
          try clear c11
          try clear c13
          try clear c37
          try clear c38
          try clear c38b0
          try clear c38b1
          try clear c43
          try clear c45
          try clear c45b0
          try clear c45b1
          try clear c45b2
          try clear hcz24_0
          try clear hcz24_1
          try clear hcz24_2
          try clear hcz24_3
          try clear hcz24_4
          try clear hcz24_5
          try clear hfz24_0
          try clear hfz24_1
          try clear hfz24_2
          try clear hfz24_3
          try clear hfz24_4
          try clear hfz24_5
          try clear p2
          obtain ⟨x16_2, x17_2, rfl, rfl, HA, HK2, HO_3, HO_7, HO_9, HO_10, BK1270, HB⟩ := hrel
          cases gk with
          | zero => exact absurd HA.out (by simp [laws_FnChains.l0])
          | succ k2 =>
           have H := HA.out
           clear HA
           simp only [laws_FnChains.l0] at H
           by_cases c46 : x17_2 < (t1261.length : Int)
           ·rw [if_pos c46] at H
            have c46b0 : decide (x17_2 < (t1261.length : Int)) = true := decide_eq_true c46
            clear c46
            by_cases c47 : x16_2 = true
            ·subst c47
             have H1 : (if 0 ≤ x17_2 then ((spec_EntryText.f k2 ((rd_T70 t1261 x17_2).f0) ((rd_T70 t1261 x17_2).f1) ((rd_T70 t1261 x17_2).f2.f0) ((rd_T70 t1261 x17_2).f2.f1) ((rd_T70 t1261 x17_2).f2.f2) ((rd_T70 t1261 x17_2).f2.f3)).bind fun t1287 => (if x17_2 < (t1262.length : Int) then ((spec_EntryText.f k2 ((rd_T70 t1262 x17_2).f0) ((rd_T70 t1262 x17_2).f1) ((rd_T70 t1262 x17_2).f2.f0) ((rd_T70 t1262 x17_2).f2.f1) ((rd_T70 t1262 x17_2).f2.f2) ((rd_T70 t1262 x17_2).f2.f3)).bind fun t1289 => (laws_FnChains.l0 k2 t1251 t1254 t1255 t1256 t1257 t1258 t1261 t1262 t1267 t1268 t1269 t1283 (t1287.toList == t1289.toList) (wrap64 (x17_2 + 1)) 1 9 1 1 2 0)) else (none))) else (none)) = some r := by rw [if_pos rfl] at H; exact H
             clear H
             have H := H1
             clear H1
             by_cases c48 : 0 ≤ x17_2
             ·rw [if_pos c48] at H
              have c48b0 : decide (0 ≤ x17_2) = true := decide_eq_true c48
              clear c48
              replace H := Option.bind_eq_some_iff.mp H
              obtain ⟨t1287, A490, H⟩ := H
              replace H : (if x17_2 < (t1262.length : Int) then ((spec_EntryText.f k2 ((rd_T70 t1262 x17_2).f0) ((rd_T70 t1262 x17_2).f1) ((rd_T70 t1262 x17_2).f2.f0) ((rd_T70 t1262 x17_2).f2.f1) ((rd_T70 t1262 x17_2).f2.f2) ((rd_T70 t1262 x17_2).f2.f3)).bind fun t1289 => (laws_FnChains.l0 k2 t1251 t1254 t1255 t1256 t1257 t1258 t1261 t1262 t1267 t1268 t1269 t1283 (t1287.toList == t1289.toList) (wrap64 (x17_2 + 1)) 1 9 1 1 2 0)) else (none)) = some r := H
              have A49 := Aside0.mk A490
              clear A490
              by_cases c50 : x17_2 < (t1262.length : Int)
              ·rw [if_pos c50] at H
               have c50b0 : decide (x17_2 < (t1262.length : Int)) = true := decide_eq_true c50
               clear c50
               replace H := Option.bind_eq_some_iff.mp H
               obtain ⟨t1289, A510, H⟩ := H
               replace H : (laws_FnChains.l0 k2 t1251 t1254 t1255 t1256 t1257 t1258 t1261 t1262 t1267 t1268 t1269 t1283 (t1287.toList == t1289.toList) (wrap64 (x17_2 + 1)) 1 9 1 1 2 0) = some r := H
               have A51 := Aside0.mk A510
               clear A510
               have H' := Aside0.mk H
               clear H
               try go_wp2
               have n0_ := Aside0.mk (Kd.R_drew HO_3.out)
               have n1_ := Aside0.mk (Kd.R_drew HO_7.out)
               have n2_ := Aside0.mk (Kd.R_drew HO_9.out)
               have n3_ := Aside0.mk (Kd.R_drew HO_10.out)
               have n4_ := Aside0.mk (blk_drew BK1270.out)
               have n5_ := Aside0.mk (below_drew1 HB.out)
               clear HO_3
               clear HO_7
               clear HO_9
               clear HO_10
               clear BK1270
               clear HB
               have HO_3 := n0_
               have HO_7 := n1_
               have HO_9 := n2_
               have HO_10 := n3_
               have BK1270 := n4_
               have HB := n5_
               clear n0_ n1_ n2_ n3_ n4_ n5_
               have p1286 : 0 ≤ (x17_2 : Int) := of_decide_eq_true as_
               have q1286 : x17_2 < (t1261.length : Int) := of_decide_eq_true as_
               obtain ⟨ad1286, e1286, hx1286_0, hx1286_1, hx1286_2, hx1286_3, hx1286_4, hx1286_5⟩ := at_T70 (Kd.R_reads' HO_9.out).2.2 x17_2 p1286 q1286
               cases e1286
               replace p1286 := eq_true p1286
               replace q1286 := eq_true q1286
               have p1288 : 0 ≤ (x17_2 : Int) := of_decide_eq_true as_
               have q1288 : x17_2 < (t1262.length : Int) := of_decide_eq_true as_
               obtain ⟨ad1288, e1288, hx1288_0, hx1288_1, hx1288_2, hx1288_3, hx1288_4, hx1288_5⟩ := at_T70 (Kd.R_reads' HO_10.out).2.2 x17_2 p1288 q1288
               cases e1288
               replace p1288 := eq_true p1288
               replace q1288 := eq_true q1288
               refine start_ (n := 15) (S := fun w' => w'.cell? (ad1286.add ((x17_2).toNat * 6)) = some (.int .i64 ((rd_T70 t1261 x17_2).f0)) ∧ w'.cell? ⟨(ad1286.add ((x17_2).toNat * 6)).block, (ad1286.add ((x17_2).toNat * 6)).off + 1, none⟩ = some (.int .i64 ((rd_T70 t1261 x17_2).f1)) ∧ w'.cell? ⟨(ad1286.add ((x17_2).toNat * 6)).block, (ad1286.add ((x17_2).toNat * 6)).off + 2, none⟩ = some (.int .i64 ((rd_T70 t1261 x17_2).f2.f0)) ∧ w'.cell? ⟨(ad1286.add ((x17_2).toNat * 6)).block, (ad1286.add ((x17_2).toNat * 6)).off + 3, none⟩ = some (.int .i64 ((rd_T70 t1261 x17_2).f2.f1)) ∧ w'.cell? ⟨(ad1286.add ((x17_2).toNat * 6)).block, (ad1286.add ((x17_2).toNat * 6)).off + 4, none⟩ = some (.int .i64 ((rd_T70 t1261 x17_2).f2.f2)) ∧ w'.cell? ⟨(ad1286.add ((x17_2).toNat * 6)).block, (ad1286.add ((x17_2).toNat * 6)).off + 5, none⟩ = some (.int .i64 ((rd_T70 t1261 x17_2).f2.f3)) ∧ w'.cell? (ad1288.add ((x17_2).toNat * 6)) = some (.int .i64 ((rd_T70 t1262 x17_2).f0)) ∧ w'.cell? ⟨(ad1288.add ((x17_2).toNat * 6)).block, (ad1288.add ((x17_2).toNat * 6)).off + 1, none⟩ = some (.int .i64 ((rd_T70 t1262 x17_2).f1)) ∧ w'.cell? ⟨(ad1288.add ((x17_2).toNat * 6)).block, (ad1288.add ((x17_2).toNat * 6)).off + 2, none⟩ = some (.int .i64 ((rd_T70 t1262 x17_2).f2.f0)) ∧ w'.cell? ⟨(ad1288.add ((x17_2).toNat * 6)).block, (ad1288.add ((x17_2).toNat * 6)).off + 3, none⟩ = some (.int .i64 ((rd_T70 t1262 x17_2).f2.f1)) ∧ w'.cell? ⟨(ad1288.add ((x17_2).toNat * 6)).block, (ad1288.add ((x17_2).toNat * 6)).off + 4, none⟩ = some (.int .i64 ((rd_T70 t1262 x17_2).f2.f2)) ∧ w'.cell? ⟨(ad1288.add ((x17_2).toNat * 6)).block, (ad1288.add ((x17_2).toNat * 6)).off + 5, none⟩ = some (.int .i64 ((rd_T70 t1262 x17_2).f2.f3))) (ds := []) #[false, false, false, false, false, false, false, false, false, false, false, false, false, false, false] (by kernel_rfl) rfl rfl ⟨hx1286_0, hx1286_1, hx1286_2, hx1286_3, hx1286_4, hx1286_5, hx1288_0, hx1288_1, hx1288_2, hx1288_3, hx1288_4, hx1288_5⟩ (fun hHeld => ?_); refine with_tabW laws_FnChains.tab18 laws_FnChains.bits18 (fun HT_ HW_ => ?_)
               generalize wr.drew = w52 at HO_3 HO_7 HO_9 HO_10 BK1270 HB hx1286_0 hx1286_1 hx1286_2 hx1286_3 hx1286_4 hx1286_5 hx1288_0 hx1288_1 hx1288_2 hx1288_3 hx1288_4 hx1288_5 hHeld ⊢
               refine pure_ (i := 0) (N := some 80) (v := ?_) (a' := ?_) #[true, false, false, false, false, false, false, false, false, false, false, false, false, false, false] rfl rfl (any_of HT_.out (by kernel_rfl)) (fun _ _ _ h => h) (Or.inl ⟨by rfl, ?_⟩) ?_ ?_
               rotate_left
               ·intro w'
                go_simp
                with_reducible rfl
               rotate_left
               ·simp only [Act.put, List.setIfInBounds_toArray, List.set_cons_zero, List.set_cons_succ, i64_w, i32_w]
                rfl
               refine pure_ (i := 1) (N := some 81) (v := ?_) (a' := ?_) #[true, true, false, false, false, false, false, false, false, false, false, false, false, false, false] rfl rfl (any_of HT_.out (by kernel_rfl)) (fun _ _ _ h => h) (Or.inl ⟨by rfl, ?_⟩) ?_ ?_
               rotate_left
               ·intro w'
                go_simp
                with_reducible rfl
               rotate_left
               ·simp only [Act.put, List.setIfInBounds_toArray, List.set_cons_zero, List.set_cons_succ, i64_w, i32_w]
                rfl
               refine pure_ (i := 2) (N := some 82) (v := ?_) (a' := ?_) #[true, true, true, false, false, false, false, false, false, false, false, false, false, false, false] rfl rfl (any_of HT_.out (by kernel_rfl)) (fun _ _ _ h => h) (Or.inl ⟨by rfl, ?_⟩) ?_ ?_
               rotate_left
               ·intro w'
                go_simp
                with_reducible rfl
               rotate_left
               ·simp only [Act.put, List.setIfInBounds_toArray, List.set_cons_zero, List.set_cons_succ, i64_w, i32_w]
                rfl
               refine pure_ (i := 3) (N := some 83) (v := ?_) (a' := ?_) #[true, true, true, true, false, false, false, false, false, false, false, false, false, false, false] rfl rfl (any_of HT_.out (by kernel_rfl)) (fun _ _ _ h => h) (Or.inl ⟨by rfl, ?_⟩) ?_ ?_
               rotate_left
               ·intro w'
                go_simp
                with_reducible rfl
               rotate_left
               ·simp only [Act.put, List.setIfInBounds_toArray, List.set_cons_zero, List.set_cons_succ, i64_w, i32_w]
                rfl
               refine pure_ (i := 4) (N := some 84) (v := ?_) (a' := ?_) #[true, true, true, true, true, false, false, false, false, false, false, false, false, false, false] rfl rfl (any_of HT_.out (by kernel_rfl)) (fun _ _ _ h => h) (Or.inl ⟨by rfl, ?_⟩) ?_ ?_
               rotate_left
               ·intro w'
                go_simp
                with_reducible rfl
               rotate_left
               ·simp only [Act.put, List.setIfInBounds_toArray, List.set_cons_zero, List.set_cons_succ, i64_w, i32_w]
                rfl
               refine pure_ (i := 7) (N := some 87) (v := ?_) (a' := ?_) #[true, true, true, true, true, false, false, true, false, false, false, false, false, false, false] rfl rfl (any_of HT_.out (by kernel_rfl)) (fun _ _ _ h => h) (Or.inl ⟨by rfl, ?_⟩) ?_ ?_
               rotate_left
               ·intro w'
                go_simp
                with_reducible rfl
               rotate_left
               ·simp only [Act.put, List.setIfInBounds_toArray, List.set_cons_zero, List.set_cons_succ, i64_w, i32_w]
                rfl
               refine pure_ (i := 8) (N := some 88) (v := ?_) (a' := ?_) #[true, true, true, true, true, false, false, true, true, false, false, false, false, false, false] rfl rfl (any_of HT_.out (by kernel_rfl)) (fun _ _ _ h => h) (Or.inl ⟨by rfl, ?_⟩) ?_ ?_
               rotate_left
               ·intro w'
                go_simp
                with_reducible rfl
               rotate_left
               ·simp only [Act.put, List.setIfInBounds_toArray, List.set_cons_zero, List.set_cons_succ, i64_w, i32_w]
                rfl
               refine pure_ (i := 9) (N := some 89) (v := ?_) (a' := ?_) #[true, true, true, true, true, false, false, true, true, true, false, false, false, false, false] rfl rfl (any_of HT_.out (by kernel_rfl)) (fun _ _ _ h => h) (Or.inl ⟨by rfl, ?_⟩) ?_ ?_
               rotate_left
               ·intro w'
                go_simp
                with_reducible rfl
               rotate_left
               ·simp only [Act.put, List.setIfInBounds_toArray, List.set_cons_zero, List.set_cons_succ, i64_w, i32_w]
                rfl
               refine take_ (i := 5) (N := some 85) (v := ?_) (a' := ?_) #[true, true, true, true, true, true, false, true, true, true, false, false, false, false, false] rfl rfl (take_ofW HT_.out HW_.out (by kernel_rfl)) (fun _ _ _ h => h) (Or.inl ⟨by rfl, ?_⟩) hHeld ?_ ?_
               rotate_left
               ·rintro w' ⟨s0, s1, s2, s3, s4, s5, s6, s7, s8, s9, s10, s11⟩
                go_simp
                with_reducible rfl
               rotate_left
               ·simp only [Act.put, List.setIfInBounds_toArray, List.set_cons_zero, List.set_cons_succ, i64_w, i32_w]
                rfl
               refine take_ (i := 10) (N := some 90) (v := ?_) (a' := ?_) #[true, true, true, true, true, true, false, true, true, true, true, false, false, false, false] rfl rfl (take_ofW HT_.out HW_.out (by kernel_rfl)) (fun _ _ _ h => h) (Or.inl ⟨by rfl, ?_⟩) hHeld ?_ ?_
               rotate_left
               ·rintro w' ⟨s0, s1, s2, s3, s4, s5, s6, s7, s8, s9, s10, s11⟩
                go_simp
                with_reducible rfl
               rotate_left
               ·simp only [Act.put, List.setIfInBounds_toArray, List.set_cons_zero, List.set_cons_succ, i64_w, i32_w]
                rfl
               refine one_ (i := 6) (N := some 86) #[true, true, true, true, true, true, true, true, true, true, true, false, false, false, false] rfl rfl (one_of HT_.out (by kernel_rfl)) (by decide) (fun K hK => ?_)
               refine goes_ Tryd.func64 (by kernel_rfl) rfl #[.agg #[.int .i64 ((rd_T70 t1261 x17_2).f0), .int .i64 ((rd_T70 t1261 x17_2).f1), .int .i64 ((rd_T70 t1261 x17_2).f2.f0), .int .i64 ((rd_T70 t1261 x17_2).f2.f1), .int .i64 ((rd_T70 t1261 x17_2).f2.f2), .int .i64 ((rd_T70 t1261 x17_2).f2.f3)]] (by rfl) rfl rfl lm_ ?_
               with_reducible refine (spec_EntryText.calls k2 ((rd_T70 t1261 x17_2).f0) ((rd_T70 t1261 x17_2).f1) ((rd_T70 t1261 x17_2).f2.f0) ((rd_T70 t1261 x17_2).f2.f1) ((rd_T70 t1261 x17_2).f2.f2) ((rd_T70 t1261 x17_2).f2.f3) t1287 _ A49.out).mono ?_
               rintro e w53 ⟨rfl, hb⟩
               have HS0_ := (hb.cell (World.block_lt_of_cell? _ _ (hHeld.1))).trans (hHeld.1)
               have HS1_ := (hb.cell (World.block_lt_of_cell? _ _ (hHeld.2.1))).trans (hHeld.2.1)
               have HS2_ := (hb.cell (World.block_lt_of_cell? _ _ (hHeld.2.2.1))).trans (hHeld.2.2.1)
               have HS3_ := (hb.cell (World.block_lt_of_cell? _ _ (hHeld.2.2.2.1))).trans (hHeld.2.2.2.1)
               have HS4_ := (hb.cell (World.block_lt_of_cell? _ _ (hHeld.2.2.2.2.1))).trans (hHeld.2.2.2.2.1)
               have HS5_ := (hb.cell (World.block_lt_of_cell? _ _ (hHeld.2.2.2.2.2.1))).trans (hHeld.2.2.2.2.2.1)
               have HS6_ := (hb.cell (World.block_lt_of_cell? _ _ (hHeld.2.2.2.2.2.2.1))).trans (hHeld.2.2.2.2.2.2.1)
               have HS7_ := (hb.cell (World.block_lt_of_cell? _ _ (hHeld.2.2.2.2.2.2.2.1))).trans (hHeld.2.2.2.2.2.2.2.1)
               have HS8_ := (hb.cell (World.block_lt_of_cell? _ _ (hHeld.2.2.2.2.2.2.2.2.1))).trans (hHeld.2.2.2.2.2.2.2.2.1)
               have HS9_ := (hb.cell (World.block_lt_of_cell? _ _ (hHeld.2.2.2.2.2.2.2.2.2.1))).trans (hHeld.2.2.2.2.2.2.2.2.2.1)
               have HS10_ := (hb.cell (World.block_lt_of_cell? _ _ (hHeld.2.2.2.2.2.2.2.2.2.2.1))).trans (hHeld.2.2.2.2.2.2.2.2.2.2.1)
               have HS11_ := (hb.cell (World.block_lt_of_cell? _ _ (hHeld.2.2.2.2.2.2.2.2.2.2.2))).trans (hHeld.2.2.2.2.2.2.2.2.2.2.2)
               refine ⟨_, rfl, ?_⟩
               have n0_ := Aside0.mk (Kd.R_below (ra_ HO_3.out) hb)
               have n1_ := Aside0.mk (Kd.R_below (ra_ HO_7.out) hb)
               have n2_ := Aside0.mk (Kd.R_below (ra_ HO_9.out) hb)
               have n3_ := Aside0.mk (Kd.R_below (ra_ HO_10.out) hb)
               have n4_ := Aside0.mk (blk_below (g := gb1270) (o := .cells #[.int .i64 1, .int .i64 9, .int .i64 1, .int .i64 1, .int .i64 2, .int .i64 0] 70 (0, 0)) (bk_ BK1270.out) hb)
               have n5_ := Aside0.mk (below_step bl_ hb)
               clear HO_3
               clear HO_7
               clear HO_9
               clear HO_10
               clear BK1270
               clear HB
               have HO_3 := n0_
               have HO_7 := n1_
               have HO_9 := n2_
               have HO_10 := n3_
               have BK1270 := n4_
               have HB := n5_
               clear n0_ n1_ n2_ n3_ n4_ n5_
               (try clear hb)
               (try clear hb2)
               (try clear hk)
               (try clear hi)
               refine hK.out _ _ ⟨HS0_, HS1_, HS2_, HS3_, HS4_, HS5_, HS6_, HS7_, HS8_, HS9_, HS10_, HS11_⟩ (fun hHeld => ?_)
               clear hK K
               refine norm_ (a' := ?_) ?_ ?_
               rotate_left
               ·show Act.put _ (some 86) _ = _
                simp only [Act.put, List.setIfInBounds_toArray, List.set_cons_zero, List.set_cons_succ, i64_w, i32_w]
                rfl
               refine one_ (i := 11) (N := some 91) #[true, true, true, true, true, true, true, true, true, true, true, true, false, false, false] rfl rfl (one_of HT_.out (by kernel_rfl)) (by decide) (fun K hK => ?_)
               refine goes_ Tryd.func64 (by kernel_rfl) rfl #[.agg #[.int .i64 ((rd_T70 t1262 x17_2).f0), .int .i64 ((rd_T70 t1262 x17_2).f1), .int .i64 ((rd_T70 t1262 x17_2).f2.f0), .int .i64 ((rd_T70 t1262 x17_2).f2.f1), .int .i64 ((rd_T70 t1262 x17_2).f2.f2), .int .i64 ((rd_T70 t1262 x17_2).f2.f3)]] (by rfl) rfl rfl lm_ ?_
               with_reducible refine (spec_EntryText.calls k2 ((rd_T70 t1262 x17_2).f0) ((rd_T70 t1262 x17_2).f1) ((rd_T70 t1262 x17_2).f2.f0) ((rd_T70 t1262 x17_2).f2.f1) ((rd_T70 t1262 x17_2).f2.f2) ((rd_T70 t1262 x17_2).f2.f3) t1289 _ A51.out).mono ?_
               rintro e w54 ⟨rfl, hb⟩
               have HS0_ := (hb.cell (World.block_lt_of_cell? _ _ (hHeld.1))).trans (hHeld.1)
               have HS1_ := (hb.cell (World.block_lt_of_cell? _ _ (hHeld.2.1))).trans (hHeld.2.1)
               have HS2_ := (hb.cell (World.block_lt_of_cell? _ _ (hHeld.2.2.1))).trans (hHeld.2.2.1)
               have HS3_ := (hb.cell (World.block_lt_of_cell? _ _ (hHeld.2.2.2.1))).trans (hHeld.2.2.2.1)
               have HS4_ := (hb.cell (World.block_lt_of_cell? _ _ (hHeld.2.2.2.2.1))).trans (hHeld.2.2.2.2.1)
               have HS5_ := (hb.cell (World.block_lt_of_cell? _ _ (hHeld.2.2.2.2.2.1))).trans (hHeld.2.2.2.2.2.1)
               have HS6_ := (hb.cell (World.block_lt_of_cell? _ _ (hHeld.2.2.2.2.2.2.1))).trans (hHeld.2.2.2.2.2.2.1)
               have HS7_ := (hb.cell (World.block_lt_of_cell? _ _ (hHeld.2.2.2.2.2.2.2.1))).trans (hHeld.2.2.2.2.2.2.2.1)
               have HS8_ := (hb.cell (World.block_lt_of_cell? _ _ (hHeld.2.2.2.2.2.2.2.2.1))).trans (hHeld.2.2.2.2.2.2.2.2.1)
               have HS9_ := (hb.cell (World.block_lt_of_cell? _ _ (hHeld.2.2.2.2.2.2.2.2.2.1))).trans (hHeld.2.2.2.2.2.2.2.2.2.1)
               have HS10_ := (hb.cell (World.block_lt_of_cell? _ _ (hHeld.2.2.2.2.2.2.2.2.2.2.1))).trans (hHeld.2.2.2.2.2.2.2.2.2.2.1)
               have HS11_ := (hb.cell (World.block_lt_of_cell? _ _ (hHeld.2.2.2.2.2.2.2.2.2.2.2))).trans (hHeld.2.2.2.2.2.2.2.2.2.2.2)
               refine ⟨_, rfl, ?_⟩
               have n0_ := Aside0.mk (Kd.R_below (ra_ HO_3.out) hb)
               have n1_ := Aside0.mk (Kd.R_below (ra_ HO_7.out) hb)
               have n2_ := Aside0.mk (Kd.R_below (ra_ HO_9.out) hb)
               have n3_ := Aside0.mk (Kd.R_below (ra_ HO_10.out) hb)
               have n4_ := Aside0.mk (blk_below (g := gb1270) (o := .cells #[.int .i64 1, .int .i64 9, .int .i64 1, .int .i64 1, .int .i64 2, .int .i64 0] 70 (0, 0)) (bk_ BK1270.out) hb)
               have n5_ := Aside0.mk (below_step bl_ hb)
               clear HO_3
               clear HO_7
               clear HO_9
               clear HO_10
               clear BK1270
               clear HB
               have HO_3 := n0_
               have HO_7 := n1_
               have HO_9 := n2_
               have HO_10 := n3_
               have BK1270 := n4_
               have HB := n5_
               clear n0_ n1_ n2_ n3_ n4_ n5_
               (try clear hb)
               (try clear hb2)
               (try clear hk)
               (try clear hi)
               refine hK.out _ _ ⟨HS0_, HS1_, HS2_, HS3_, HS4_, HS5_, HS6_, HS7_, HS8_, HS9_, HS10_, HS11_⟩ (fun hHeld => ?_)
               clear hK K
               refine norm_ (a' := ?_) ?_ ?_
               rotate_left
               ·show Act.put _ (some 91) _ = _
                simp only [Act.put, List.setIfInBounds_toArray, List.set_cons_zero, List.set_cons_succ, i64_w, i32_w]
                rfl
               refine pure_ (i := 12) (N := some 92) (v := ?_) (a' := ?_) #[true, true, true, true, true, true, true, true, true, true, true, true, true, false, false] rfl rfl (any_of HT_.out (by kernel_rfl)) (fun _ _ _ h => h) (Or.inl ⟨by rfl, ?_⟩) ?_ ?_
               rotate_left
               ·intro w'
                go_simp
                with_reducible rfl
               rotate_left
               ·simp only [Act.put, List.setIfInBounds_toArray, List.set_cons_zero, List.set_cons_succ, i64_w, i32_w]
                rfl
               refine pure_ (i := 13) (N := some 93) (v := ?_) (a' := ?_) #[true, true, true, true, true, true, true, true, true, true, true, true, true, true, false] rfl rfl (any_of HT_.out (by kernel_rfl)) (fun _ _ _ h => h) (Or.inl ⟨by rfl, ?_⟩) ?_ ?_
               rotate_left
               ·intro w'
                go_simp
                with_reducible rfl
               rotate_left
               ·simp only [Act.put, List.setIfInBounds_toArray, List.set_cons_zero, List.set_cons_succ, i64_w, i32_w]
                rfl
               refine pure_ (i := 14) (N := some 16) (v := ?_) (a' := ?_) #[true, true, true, true, true, true, true, true, true, true, true, true, true, true, true] rfl rfl (any_of HT_.out (by kernel_rfl)) (fun _ _ _ h => h) (Or.inl ⟨by rfl, ?_⟩) ?_ ?_
               rotate_left
               ·intro w'
                go_simp
                with_reducible rfl
               rotate_left
               ·simp only [Act.put, List.setIfInBounds_toArray, List.set_cons_zero, List.set_cons_succ, i64_w, i32_w]
                rfl
               refine done_ (done_of HT_.out (by kernel_rfl)) ?_
               try go_wp2
               go_roundg k2
               case measure => have := HJ12.out; have := HK2.out; omega
               case rel => exact ⟨((t1287.toList == t1289.toList)), (wrap64 (x17_2 + 1)), (by first | rfl | (simp; done) | (simp [*]; done)), (by first | rfl | (simp; done) | (simp [*]; done)), H', ⟨by have := HJ12.out; have := HK2.out; omega⟩, ⟨ra_ HO_3.out⟩, ⟨ra_ HO_7.out⟩, ⟨ra_ HO_9.out⟩, ⟨ra_ HO_10.out⟩, ⟨bk_ BK1270.out⟩, ⟨bl_⟩⟩
              ·rw [if_neg c50] at H
               exact absurd H (by simp)
             ·rw [if_neg c48] at H
              exact absurd H (by simp)
            ·replace c47 := Bool.eq_false_iff.mpr c47
             subst c47
             have H1 : (laws_FnChains.l0 k2 t1251 t1254 t1255 t1256 t1257 t1258 t1261 t1262 t1267 t1268 t1269 t1283 false (wrap64 (x17_2 + 1)) 1 9 1 1 2 0) = some r := by rw [if_neg (show ¬ (false = true) by decide)] at H; exact H
             clear H
             have H := H1
             clear H1
             have H' := Aside0.mk H
             clear H
             try go_wp2
             have n0_ := Aside0.mk (Kd.R_drew HO_3.out)
             have n1_ := Aside0.mk (Kd.R_drew HO_7.out)
             have n2_ := Aside0.mk (Kd.R_drew HO_9.out)
             have n3_ := Aside0.mk (Kd.R_drew HO_10.out)
             have n4_ := Aside0.mk (blk_drew BK1270.out)
             have n5_ := Aside0.mk (below_drew1 HB.out)
             clear HO_3
             clear HO_7
             clear HO_9
             clear HO_10
             clear BK1270
             clear HB
             have HO_3 := n0_
             have HO_7 := n1_
             have HO_9 := n2_
             have HO_10 := n3_
             have BK1270 := n4_
             have HB := n5_
             clear n0_ n1_ n2_ n3_ n4_ n5_
             refine start_ (n := 15) (S := fun w' => True) (ds := []) #[false, false, false, false, false, false, false, false, false, false, false, false, false, false, false] (by kernel_rfl) rfl rfl trivial (fun hHeld => ?_); refine with_tabW laws_FnChains.tab18 laws_FnChains.bits18 (fun HT_ HW_ => ?_)
             generalize wr.drew = w55 at HO_3 HO_7 HO_9 HO_10 BK1270 HB hHeld ⊢
             refine pure_ (i := 0) (N := some 80) (v := ?_) (a' := ?_) #[true, false, false, false, false, false, false, false, false, false, false, false, false, false, false] rfl rfl (any_of HT_.out (by kernel_rfl)) (fun _ _ _ h => h) (Or.inl ⟨by rfl, ?_⟩) ?_ ?_
             rotate_left
             ·intro w'
              go_simp
              with_reducible rfl
             rotate_left
             ·simp only [Act.put, List.setIfInBounds_toArray, List.set_cons_zero, List.set_cons_succ, i64_w, i32_w]
              rfl
             refine pure_ (i := 1) (N := some 81) (v := ?_) (a' := ?_) #[true, true, false, false, false, false, false, false, false, false, false, false, false, false, false] rfl rfl (any_of HT_.out (by kernel_rfl)) (fun _ _ _ h => h) (Or.inl ⟨by rfl, ?_⟩) ?_ ?_
             rotate_left
             ·intro w'
              go_simp
              with_reducible rfl
             rotate_left
             ·simp only [Act.put, List.setIfInBounds_toArray, List.set_cons_zero, List.set_cons_succ, i64_w, i32_w]
              rfl
             refine pure_ (i := 2) (N := some 82) (v := undef) (a' := ?_) #[true, true, true, false, false, false, false, false, false, false, false, false, false, false, false] rfl rfl (any_of HT_.out (by kernel_rfl)) (fun _ _ _ h => h) (Or.inr ⟨by rfl, rfl⟩) ?_ ?_
             rotate_left
             ·simp only [Act.put, List.setIfInBounds_toArray, List.set_cons_zero, List.set_cons_succ, i64_w, i32_w]
              rfl
             refine pure_ (i := 3) (N := some 83) (v := undef) (a' := ?_) #[true, true, true, true, false, false, false, false, false, false, false, false, false, false, false] rfl rfl (any_of HT_.out (by kernel_rfl)) (fun _ _ _ h => h) (Or.inr ⟨by rfl, rfl⟩) ?_ ?_
             rotate_left
             ·simp only [Act.put, List.setIfInBounds_toArray, List.set_cons_zero, List.set_cons_succ, i64_w, i32_w]
              rfl
             refine pure_ (i := 4) (N := some 84) (v := undef) (a' := ?_) #[true, true, true, true, true, false, false, false, false, false, false, false, false, false, false] rfl rfl (any_of HT_.out (by kernel_rfl)) (fun _ _ _ h => h) (Or.inr ⟨by rfl, rfl⟩) ?_ ?_
             rotate_left
             ·simp only [Act.put, List.setIfInBounds_toArray, List.set_cons_zero, List.set_cons_succ, i64_w, i32_w]
              rfl
             refine pure_ (i := 5) (N := some 85) (v := undef) (a' := ?_) #[true, true, true, true, true, true, false, false, false, false, false, false, false, false, false] rfl rfl (any_of HT_.out (by kernel_rfl)) (fun _ _ _ h => h) (Or.inr ⟨by rfl, rfl⟩) ?_ ?_
             rotate_left
             ·simp only [Act.put, List.setIfInBounds_toArray, List.set_cons_zero, List.set_cons_succ, i64_w, i32_w]
              rfl
             refine pure_ (i := 6) (N := some 86) (v := undef) (a' := ?_) #[true, true, true, true, true, true, true, false, false, false, false, false, false, false, false] rfl rfl (any_of HT_.out (by kernel_rfl)) (fun _ _ _ h => h) (Or.inr ⟨by rfl, rfl⟩) ?_ ?_
             rotate_left
             ·simp only [Act.put, List.setIfInBounds_toArray, List.set_cons_zero, List.set_cons_succ, i64_w, i32_w]
              rfl
             refine pure_ (i := 7) (N := some 87) (v := undef) (a' := ?_) #[true, true, true, true, true, true, true, true, false, false, false, false, false, false, false] rfl rfl (any_of HT_.out (by kernel_rfl)) (fun _ _ _ h => h) (Or.inr ⟨by rfl, rfl⟩) ?_ ?_
             rotate_left
             ·simp only [Act.put, List.setIfInBounds_toArray, List.set_cons_zero, List.set_cons_succ, i64_w, i32_w]
              rfl
             refine pure_ (i := 8) (N := some 88) (v := undef) (a' := ?_) #[true, true, true, true, true, true, true, true, true, false, false, false, false, false, false] rfl rfl (any_of HT_.out (by kernel_rfl)) (fun _ _ _ h => h) (Or.inr ⟨by rfl, rfl⟩) ?_ ?_
             rotate_left
             ·simp only [Act.put, List.setIfInBounds_toArray, List.set_cons_zero, List.set_cons_succ, i64_w, i32_w]
              rfl
             refine pure_ (i := 9) (N := some 89) (v := undef) (a' := ?_) #[true, true, true, true, true, true, true, true, true, true, false, false, false, false, false] rfl rfl (any_of HT_.out (by kernel_rfl)) (fun _ _ _ h => h) (Or.inr ⟨by rfl, rfl⟩) ?_ ?_
             rotate_left
             ·simp only [Act.put, List.setIfInBounds_toArray, List.set_cons_zero, List.set_cons_succ, i64_w, i32_w]
              rfl
             refine pure_ (i := 10) (N := some 90) (v := undef) (a' := ?_) #[true, true, true, true, true, true, true, true, true, true, true, false, false, false, false] rfl rfl (any_of HT_.out (by kernel_rfl)) (fun _ _ _ h => h) (Or.inr ⟨by rfl, rfl⟩) ?_ ?_
             rotate_left
             ·simp only [Act.put, List.setIfInBounds_toArray, List.set_cons_zero, List.set_cons_succ, i64_w, i32_w]
              rfl
             refine pure_ (i := 11) (N := some 91) (v := undef) (a' := ?_) #[true, true, true, true, true, true, true, true, true, true, true, true, false, false, false] rfl rfl (any_of HT_.out (by kernel_rfl)) (fun _ _ _ h => h) (Or.inr ⟨by rfl, rfl⟩) ?_ ?_
             rotate_left
             ·simp only [Act.put, List.setIfInBounds_toArray, List.set_cons_zero, List.set_cons_succ, i64_w, i32_w]
              rfl
             refine pure_ (i := 12) (N := some 92) (v := undef) (a' := ?_) #[true, true, true, true, true, true, true, true, true, true, true, true, true, false, false] rfl rfl (any_of HT_.out (by kernel_rfl)) (fun _ _ _ h => h) (Or.inr ⟨by rfl, rfl⟩) ?_ ?_
             rotate_left
             ·simp only [Act.put, List.setIfInBounds_toArray, List.set_cons_zero, List.set_cons_succ, i64_w, i32_w]
              rfl
             refine pure_ (i := 13) (N := some 93) (v := ?_) (a' := ?_) #[true, true, true, true, true, true, true, true, true, true, true, true, true, true, false] rfl rfl (any_of HT_.out (by kernel_rfl)) (fun _ _ _ h => h) (Or.inl ⟨by rfl, ?_⟩) ?_ ?_
             rotate_left
             ·intro w'
              go_simp
              with_reducible rfl
             rotate_left
             ·simp only [Act.put, List.setIfInBounds_toArray, List.set_cons_zero, List.set_cons_succ, i64_w, i32_w]
              rfl
             refine pure_ (i := 14) (N := some 16) (v := ?_) (a' := ?_) #[true, true, true, true, true, true, true, true, true, true, true, true, true, true, true] rfl rfl (any_of HT_.out (by kernel_rfl)) (fun _ _ _ h => h) (Or.inl ⟨by rfl, ?_⟩) ?_ ?_
             rotate_left
             ·intro w'
              go_simp
              with_reducible rfl
             rotate_left
             ·simp only [Act.put, List.setIfInBounds_toArray, List.set_cons_zero, List.set_cons_succ, i64_w, i32_w]
              rfl
             refine done_ (done_of HT_.out (by kernel_rfl)) ?_
             try go_wp2
             go_roundg k2
             case measure => have := HJ12.out; have := HK2.out; omega
             case rel => exact ⟨(false), (wrap64 (x17_2 + 1)), (by first | rfl | (simp; done) | (simp [*]; done)), (by first | rfl | (simp; done) | (simp [*]; done)), H', ⟨by have := HJ12.out; have := HK2.out; omega⟩, ⟨ra_ HO_3.out⟩, ⟨ra_ HO_7.out⟩, ⟨ra_ HO_9.out⟩, ⟨ra_ HO_10.out⟩, ⟨bk_ BK1270.out⟩, ⟨bl_⟩⟩
           ·rw [if_neg c46] at H
            have c46b0 : decide (x17_2 < (t1261.length : Int)) = false := decide_eq_false c46
            clear c46
            replace H := Option.bind_eq_some_iff.mp H
            obtain ⟨t1290, A560, H⟩ := H
            replace H : ((spec_HeadOf.f k2 t1262).bind fun t1291 => (if ((t1267.toList == t1268.toList) != x16_2) = true then (some false) else (if t1290.toList = t1291.toList then (if (t1269 != (!x16_2)) = true then (some false) else (laws_FnChains.j2 k2 t1251 t1254 t1255 t1256 t1257 t1258 t1283 1 9 1 1 2 0)) else (if (t1269 != false) = true then (some false) else (laws_FnChains.j2 k2 t1251 t1254 t1255 t1256 t1257 t1258 t1283 1 9 1 1 2 0))))) = some r := H
            have A56 := Aside0.mk A560
            clear A560
            replace H := Option.bind_eq_some_iff.mp H
            obtain ⟨t1291, A570, H⟩ := H
            replace H : (if ((t1267.toList == t1268.toList) != x16_2) = true then (some false) else (if t1290.toList = t1291.toList then (if (t1269 != (!x16_2)) = true then (some false) else (laws_FnChains.j2 k2 t1251 t1254 t1255 t1256 t1257 t1258 t1283 1 9 1 1 2 0)) else (if (t1269 != false) = true then (some false) else (laws_FnChains.j2 k2 t1251 t1254 t1255 t1256 t1257 t1258 t1283 1 9 1 1 2 0)))) = some r := H
            have A57 := Aside0.mk A570
            clear A570
            by_cases c58 : ((t1267.toList == t1268.toList) != x16_2) = true
            ·rw [if_pos c58] at H
             have c58b0 : ((t1267.toList == t1268.toList) != x16_2) = true := c58
             (try (have c58b1 : decide ((t1267.toList == t1268.toList) = x16_2) = false := by simpa using c58))
             (try (have c58b2 : ((t1267.toList == t1268.toList) == x16_2) = false := by simpa using c58))
             (try (have c58b3 : ¬ ((t1267.toList == t1268.toList) = x16_2) := by simpa using c58))
             clear c58
             exact absurd ((Option.some.inj H).trans HR1.out) (by decide)
            ·rw [if_neg c58] at H
             have c58b0 : ((t1267.toList == t1268.toList) != x16_2) = false := by simpa using c58
             (try (have c58b1 : decide ((t1267.toList == t1268.toList) = x16_2) = true := by simpa using c58))
             (try (have c58b2 : ((t1267.toList == t1268.toList) == x16_2) = true := by simpa using c58))
             clear c58
             by_cases c59 : t1290.toList = t1291.toList
             ·rw [if_pos c59] at H
              have c59b0 : (t1290.toList == t1291.toList) = true := beq_iff_eq.mpr c59
              have c59b1 : (t1290.toList != t1291.toList) = false := bne_eq_false_iff_eq.mpr c59
              clear c59
              by_cases c60 : (t1269 != (!x16_2)) = true
              ·rw [if_pos c60] at H
               have c60b0 : (t1269 != (!x16_2)) = true := c60
               (try (have c60b8 : (t1269 == (!x16_2)) = false := by have h_ := c60b0; revert h_; generalize t1269 = a_; generalize (!x16_2) = b_; cases a_ <;> cases b_ <;> simp))
               (try (have c60b1 : decide (t1269 = (!x16_2)) = false := by simpa using c60))
               (try (have c60b2 : (t1269 == (!x16_2)) = false := by simpa using c60))
               (try (have c60b3 : ¬ (t1269 = (!x16_2)) := by simpa using c60))
               clear c60
               exact absurd ((Option.some.inj H).trans HR1.out) (by decide)
              ·rw [if_neg c60] at H
               have c60b0 : (t1269 != (!x16_2)) = false := by simpa using c60
               (try (have c60b8 : (t1269 == (!x16_2)) = true := by have h_ := c60b0; revert h_; generalize t1269 = a_; generalize (!x16_2) = b_; cases a_ <;> cases b_ <;> simp))
               (try (have c60b1 : decide (t1269 = (!x16_2)) = true := by simpa using c60))
               (try (have c60b2 : (t1269 == (!x16_2)) = true := by simpa using c60))
               clear c60
               have H' := Aside0.mk H
               clear H
               go_wp2_with (first | ((with_reducible refine gate_callee (f := 65) rfl ?_); refine goesL_ (some 95) rfl rfl Tryd.func65 (by kernel_rfl) rfl #[.slice Ao20 t1261.length co20] rfl lm_ ?_; (with_reducible refine (spec_HeadOf.calls k2 _ _ t1261 t1290 _ ?side1 ?side2 A56.out).mono ?_); (case side1 => repeat (first | exact (Kd.R_reads' HO_9.out).2.2 | (with_reducible refine Kd.C_alloc ?_ _) | (with_reducible refine Kd.C_drewN ?_ _) | (with_reducible refine Kd.C_drew ?_))); (case side2 => exact (Kd.R_reads' HO_9.out).2.1); rintro e w61 ⟨rfl, hb⟩; refine ⟨_, rfl, ?_⟩; have n0_ := Aside0.mk (Kd.R_below (ra_ HO_3.out) hb); have n1_ := Aside0.mk (Kd.R_below (ra_ HO_7.out) hb); have n2_ := Aside0.mk (Kd.R_below (ra_ HO_9.out) hb); have n3_ := Aside0.mk (Kd.R_below (ra_ HO_10.out) hb); have n4_ := Aside0.mk (blk_below (g := gb1270) (o := .cells #[.int .i64 1, .int .i64 9, .int .i64 1, .int .i64 1, .int .i64 2, .int .i64 0] 70 (0, 0)) (bk_ BK1270.out) hb); have n5_ := Aside0.mk (below_step bl_ hb); clear HO_3; clear HO_7; clear HO_9; clear HO_10; clear BK1270; clear HB; have HO_3 := n0_; have HO_7 := n1_; have HO_9 := n2_; have HO_10 := n3_; have BK1270 := n4_; have HB := n5_; clear n0_ n1_ n2_ n3_ n4_ n5_; (try clear hb); (try clear hb2); (try clear hk); (try clear hi)) | ((with_reducible refine gate_callee (f := 65) rfl ?_); refine goesL_ (some 97) rfl rfl Tryd.func65 (by kernel_rfl) rfl #[.slice Ao21 t1262.length co21] rfl lm_ ?_; (with_reducible refine (spec_HeadOf.calls k2 _ _ t1262 t1291 _ ?side1 ?side2 A57.out).mono ?_); (case side1 => repeat (first | exact (Kd.R_reads' HO_10.out).2.2 | (with_reducible refine Kd.C_alloc ?_ _) | (with_reducible refine Kd.C_drewN ?_ _) | (with_reducible refine Kd.C_drew ?_))); (case side2 => exact (Kd.R_reads' HO_10.out).2.1); rintro e w62 ⟨rfl, hb⟩; refine ⟨_, rfl, ?_⟩; have n0_ := Aside0.mk (Kd.R_below (ra_ HO_3.out) hb); have n1_ := Aside0.mk (Kd.R_below (ra_ HO_7.out) hb); have n2_ := Aside0.mk (Kd.R_below (ra_ HO_9.out) hb); have n3_ := Aside0.mk (Kd.R_below (ra_ HO_10.out) hb); have n4_ := Aside0.mk (blk_below (g := gb1270) (o := .cells #[.int .i64 1, .int .i64 9, .int .i64 1, .int .i64 1, .int .i64 2, .int .i64 0] 70 (0, 0)) (bk_ BK1270.out) hb); have n5_ := Aside0.mk (below_step bl_ hb); clear HO_3; clear HO_7; clear HO_9; clear HO_10; clear BK1270; clear HB; have HO_3 := n0_; have HO_7 := n1_; have HO_9 := n2_; have HO_10 := n3_; have BK1270 := n4_; have HB := n5_; clear n0_ n1_ n2_ n3_ n4_ n5_; (try clear hb); (try clear hb2); (try clear hk); (try clear hi)))
               go_meet
               case rel => exact ⟨_, H', ⟨by have := HJ12.out; have := HK2.out; first | omega | exact Nat.le_refl _⟩, ⟨by (with_reducible repeat (first | apply Kd.R_alloc | apply Kd.R_drewN | apply Kd.R_drew)); exact Kd.R_mono HO_3.out (fun _ hk => ⟨hk.1, hk.2.2.2⟩)⟩, ⟨by (with_reducible repeat (first | apply Kd.R_alloc | apply Kd.R_drewN | apply Kd.R_drew)); exact Kd.R_mono HO_7.out (fun _ hk => ⟨hk.1, hk.2.2.2⟩)⟩, ⟨bk_ BK1270.out⟩, ⟨bl_⟩⟩
             ·rw [if_neg c59] at H
              have c59b0 : (t1290.toList == t1291.toList) = false := beq_eq_false_iff_ne.mpr c59
              have c59b1 : (t1290.toList != t1291.toList) = true := bne_iff_ne.mpr c59
              by_cases c63 : (t1269 != false) = true
              ·rw [if_pos c63] at H
               have c63b0 : (t1269 != false) = true := c63
               (try (have c63b8 : (t1269 == false) = false := by have h_ := c63b0; revert h_; generalize t1269 = a_; generalize false = b_; cases a_ <;> cases b_ <;> simp))
               (try (have c63b1 : decide (t1269 = false) = false := by simpa using c63))
               (try (have c63b2 : (t1269 == false) = false := by simpa using c63))
               (try (have c63b3 : ¬ (t1269 = false) := by simpa using c63))
               clear c63
               exact absurd ((Option.some.inj H).trans HR1.out) (by decide)
              ·rw [if_neg c63] at H
               have c63b0 : (t1269 != false) = false := by simpa using c63
               (try (have c63b8 : (t1269 == false) = true := by have h_ := c63b0; revert h_; generalize t1269 = a_; generalize false = b_; cases a_ <;> cases b_ <;> simp))
               (try (have c63b1 : decide (t1269 = false) = true := by simpa using c63))
               (try (have c63b2 : (t1269 == false) = true := by simpa using c63))
               clear c63
               have H' := Aside0.mk H
               clear H
               go_wp2_with (first | ((with_reducible refine gate_callee (f := 65) rfl ?_); refine goesL_ (some 95) rfl rfl Tryd.func65 (by kernel_rfl) rfl #[.slice Ao20 t1261.length co20] rfl lm_ ?_; (with_reducible refine (spec_HeadOf.calls k2 _ _ t1261 t1290 _ ?side1 ?side2 A56.out).mono ?_); (case side1 => repeat (first | exact (Kd.R_reads' HO_9.out).2.2 | (with_reducible refine Kd.C_alloc ?_ _) | (with_reducible refine Kd.C_drewN ?_ _) | (with_reducible refine Kd.C_drew ?_))); (case side2 => exact (Kd.R_reads' HO_9.out).2.1); rintro e w64 ⟨rfl, hb⟩; refine ⟨_, rfl, ?_⟩; have n0_ := Aside0.mk (Kd.R_below (ra_ HO_3.out) hb); have n1_ := Aside0.mk (Kd.R_below (ra_ HO_7.out) hb); have n2_ := Aside0.mk (Kd.R_below (ra_ HO_9.out) hb); have n3_ := Aside0.mk (Kd.R_below (ra_ HO_10.out) hb); have n4_ := Aside0.mk (blk_below (g := gb1270) (o := .cells #[.int .i64 1, .int .i64 9, .int .i64 1, .int .i64 1, .int .i64 2, .int .i64 0] 70 (0, 0)) (bk_ BK1270.out) hb); have n5_ := Aside0.mk (below_step bl_ hb); clear HO_3; clear HO_7; clear HO_9; clear HO_10; clear BK1270; clear HB; have HO_3 := n0_; have HO_7 := n1_; have HO_9 := n2_; have HO_10 := n3_; have BK1270 := n4_; have HB := n5_; clear n0_ n1_ n2_ n3_ n4_ n5_; (try clear hb); (try clear hb2); (try clear hk); (try clear hi)) | ((with_reducible refine gate_callee (f := 65) rfl ?_); refine goesL_ (some 97) rfl rfl Tryd.func65 (by kernel_rfl) rfl #[.slice Ao21 t1262.length co21] rfl lm_ ?_; (with_reducible refine (spec_HeadOf.calls k2 _ _ t1262 t1291 _ ?side1 ?side2 A57.out).mono ?_); (case side1 => repeat (first | exact (Kd.R_reads' HO_10.out).2.2 | (with_reducible refine Kd.C_alloc ?_ _) | (with_reducible refine Kd.C_drewN ?_ _) | (with_reducible refine Kd.C_drew ?_))); (case side2 => exact (Kd.R_reads' HO_10.out).2.1); rintro e w65 ⟨rfl, hb⟩; refine ⟨_, rfl, ?_⟩; have n0_ := Aside0.mk (Kd.R_below (ra_ HO_3.out) hb); have n1_ := Aside0.mk (Kd.R_below (ra_ HO_7.out) hb); have n2_ := Aside0.mk (Kd.R_below (ra_ HO_9.out) hb); have n3_ := Aside0.mk (Kd.R_below (ra_ HO_10.out) hb); have n4_ := Aside0.mk (blk_below (g := gb1270) (o := .cells #[.int .i64 1, .int .i64 9, .int .i64 1, .int .i64 1, .int .i64 2, .int .i64 0] 70 (0, 0)) (bk_ BK1270.out) hb); have n5_ := Aside0.mk (below_step bl_ hb); clear HO_3; clear HO_7; clear HO_9; clear HO_10; clear BK1270; clear HB; have HO_3 := n0_; have HO_7 := n1_; have HO_9 := n2_; have HO_10 := n3_; have BK1270 := n4_; have HB := n5_; clear n0_ n1_ n2_ n3_ n4_ n5_; (try clear hb); (try clear hb2); (try clear hk); (try clear hi)))
               go_meet
               case rel => exact ⟨_, H', ⟨by have := HJ12.out; have := HK2.out; first | omega | exact Nat.le_refl _⟩, ⟨by (with_reducible repeat (first | apply Kd.R_alloc | apply Kd.R_drewN | apply Kd.R_drew)); exact Kd.R_mono HO_3.out (fun _ hk => ⟨hk.1, hk.2.2.2⟩)⟩, ⟨by (with_reducible repeat (first | apply Kd.R_alloc | apply Kd.R_drewN | apply Kd.R_drew)); exact Kd.R_mono HO_7.out (fun _ hk => ⟨hk.1, hk.2.2.2⟩)⟩, ⟨bk_ BK1270.out⟩, ⟨bl_⟩⟩
        ·rw [if_neg c45] at H
         have c45b0 : ((t1261.length : Int) == (t1262.length : Int)) = false := beq_eq_false_iff_ne.mpr c45
         have c45b1 : ((t1261.length : Int) != (t1262.length : Int)) = true := bne_iff_ne.mpr c45
         have c45b2 : (t1261.length == t1262.length) = false := by first | simpa using c45 | (simp at c45 ⊢; omega)
         (first | rw [c45b0] | (simp only [i64_w, i32_w]; rw [c45b0]) | skip)
         by_cases c66 : t1269 = true
         ·subst c66
          have H1 : (some false) = some r := by rw [if_pos rfl] at H; exact H
          clear H
          have H := H1
          clear H1
          exact absurd ((Option.some.inj H).trans HR1.out) (by decide)
         ·replace c66 := Bool.eq_false_iff.mpr c66
          subst c66
          have H1 : (if t1267.toList = ([] : List UInt8) then (if t1268.toList = ([] : List UInt8) then (laws_FnChains.j2 kj12 t1251 t1254 t1255 t1256 t1257 t1258 t1283 1 9 1 1 2 0) else (some false)) else (some false)) = some r := by rw [if_neg (show ¬ (false = true) by decide)] at H; exact H
          clear H
          have H := H1
          clear H1
          by_cases c67 : t1267.toList = ([] : List UInt8)
          ·rw [if_pos c67] at H
           have c67b0 : (t1267.toList == ([] : List UInt8)) = true := beq_iff_eq.mpr c67
           have c67b1 : (t1267.toList != ([] : List UInt8)) = false := bne_eq_false_iff_eq.mpr c67
           clear c67
           by_cases c68 : t1268.toList = ([] : List UInt8)
           ·rw [if_pos c68] at H
            have c68b0 : (t1268.toList == ([] : List UInt8)) = true := beq_iff_eq.mpr c68
            have c68b1 : (t1268.toList != ([] : List UInt8)) = false := bne_eq_false_iff_eq.mpr c68
            clear c68
            have H' := Aside0.mk H
            clear H
            go_wp2
            go_meet
            case rel => exact ⟨_, H', ⟨by have := HJ12.out; first | omega | exact Nat.le_refl _⟩, ⟨by (with_reducible repeat (first | apply Kd.R_alloc | apply Kd.R_drewN | apply Kd.R_drew)); exact Kd.R_mono HO_3.out (fun _ hk => ⟨hk.1, hk.2.2.2⟩)⟩, ⟨by (with_reducible repeat (first | apply Kd.R_alloc | apply Kd.R_drewN | apply Kd.R_drew)); exact Kd.R_mono HO_7.out (fun _ hk => ⟨hk.1, hk.2.2.2⟩)⟩, ⟨bk_ BK1270.out⟩, ⟨bl_⟩⟩
           ·rw [if_neg c68] at H
            have c68b0 : (t1268.toList == ([] : List UInt8)) = false := beq_eq_false_iff_ne.mpr c68
            have c68b1 : (t1268.toList != ([] : List UInt8)) = true := bne_iff_ne.mpr c68
            exact absurd ((Option.some.inj H).trans HR1.out) (by decide)
          ·rw [if_neg c67] at H
           have c67b0 : (t1267.toList == ([] : List UInt8)) = false := beq_eq_false_iff_ne.mpr c67
           have c67b1 : (t1267.toList != ([] : List UInt8)) = true := bne_iff_ne.mpr c67
           exact absurd ((Option.some.inj H).trans HR1.out) (by decide)
       case rest =>
        clear HC44
        try clear c1
        try clear p1
        try clear q1
        try clear hx1
        try clear p2
        try clear c3
        try clear c4
        try clear c5
        try clear c6
        try clear p6
        try clear c10
        try clear c11
        try clear p12
        try clear q12
        try clear hx12
        try clear c13
        try clear c37
        try clear c38
        try clear c38b0
        try clear c38b1
        try clear c43
        try clear c45
        try clear c45b0
        try clear c45b1
        try clear c45b2
        try clear c46
        try clear c46b0
        try clear c47
        try clear c48
        try clear c48b0
        try clear c50
        try clear c50b0
        try clear c58
        try clear c58b0
        try clear c58b1
        try clear c58b2
        try clear c59
        try clear c59b0
        try clear c59b1
        try clear c60
        try clear c60b0
        try clear c60b1
        try clear c60b2
        try clear c63
        try clear c63b0
        try clear c63b1
        try clear c63b2
        try clear c64
        try clear p64
        try clear c65
        try clear c66
        try clear c67
        try clear c67b0
        try clear c67b1
        try clear c68
        try clear c68b0
        try clear c68b1
        try clear hcz24_0
        try clear hcz24_1
        try clear hcz24_2
        try clear hcz24_3
        try clear hcz24_4
        try clear hcz24_5
        try clear hfz24_0
        try clear hfz24_1
        try clear hfz24_2
        try clear hfz24_3
        try clear hfz24_4
        try clear hfz24_5
        try clear hx1286_0
        try clear hx1286_1
        try clear hx1286_2
        try clear hx1286_3
        try clear hx1286_4
        try clear hx1286_5
        try clear hx1288_0
        try clear hx1288_1
        try clear hx1288_2
        try clear hx1288_3
        try clear hx1288_4
        try clear hx1288_5
        try clear p1286
        try clear p1288
        try clear p2
        try clear q1286
        try clear q1288
        obtain ⟨kq, HA, HJ43, HO_3, HO_7, BK1270, HB⟩ := hcut
        cases kq with
        | zero => exact absurd HA.out (by simp [laws_FnChains.j2])
        | succ kj43 =>
         have H := HA.out
         clear HA
         simp only [laws_FnChains.j2] at H
         by_cases c69 : t1256 = true
         ·subst c69
          have H1 : (if t1258 = true then ((laws_sameEntries.f kj43 t1257 t1251).bind fun t1292 => (if t1292 = true then ((impl_Verified.f kj43 t1255 t1254).bind fun t1293 => (if t1293 = true then ((spec_EntryText.f kj43 1 9 1 1 2 0).bind fun t1294 => (if t1254.size + t1294.size ≤ 9223372036854775807 then ((spec_Digest.f (t1254 ++ t1294)).bind fun t1295 => (if t1283.toList = t1295.toList then (if (t1254.size : Int) = 32 then ((impl_Verified.f kj43 t1255 (⟨#[120]⟩ : ByteArray)).bind fun t1296 => (some (t1296 == false))) else (some false)) else (some false))) else (none))) else (some false))) else (some false))) else (some false)) = some r := by rw [if_pos rfl] at H; exact H
          clear H
          have H := H1
          clear H1
          by_cases c70 : t1258 = true
          ·subst c70
           have H1 : ((laws_sameEntries.f kj43 t1257 t1251).bind fun t1292 => (if t1292 = true then ((impl_Verified.f kj43 t1255 t1254).bind fun t1293 => (if t1293 = true then ((spec_EntryText.f kj43 1 9 1 1 2 0).bind fun t1294 => (if t1254.size + t1294.size ≤ 9223372036854775807 then ((spec_Digest.f (t1254 ++ t1294)).bind fun t1295 => (if t1283.toList = t1295.toList then (if (t1254.size : Int) = 32 then ((impl_Verified.f kj43 t1255 (⟨#[120]⟩ : ByteArray)).bind fun t1296 => (some (t1296 == false))) else (some false)) else (some false))) else (none))) else (some false))) else (some false))) = some r := by rw [if_pos rfl] at H; exact H
           clear H
           have H := H1
           clear H1
           replace H := Option.bind_eq_some_iff.mp H
           obtain ⟨t1292, A710, H⟩ := H
           replace H : (if t1292 = true then ((impl_Verified.f kj43 t1255 t1254).bind fun t1293 => (if t1293 = true then ((spec_EntryText.f kj43 1 9 1 1 2 0).bind fun t1294 => (if t1254.size + t1294.size ≤ 9223372036854775807 then ((spec_Digest.f (t1254 ++ t1294)).bind fun t1295 => (if t1283.toList = t1295.toList then (if (t1254.size : Int) = 32 then ((impl_Verified.f kj43 t1255 (⟨#[120]⟩ : ByteArray)).bind fun t1296 => (some (t1296 == false))) else (some false)) else (some false))) else (none))) else (some false))) else (some false)) = some r := H
           have A71 := Aside0.mk A710
           clear A710
           by_cases c72 : t1292 = true
           ·subst c72
            have H1 : ((impl_Verified.f kj43 t1255 t1254).bind fun t1293 => (if t1293 = true then ((spec_EntryText.f kj43 1 9 1 1 2 0).bind fun t1294 => (if t1254.size + t1294.size ≤ 9223372036854775807 then ((spec_Digest.f (t1254 ++ t1294)).bind fun t1295 => (if t1283.toList = t1295.toList then (if (t1254.size : Int) = 32 then ((impl_Verified.f kj43 t1255 (⟨#[120]⟩ : ByteArray)).bind fun t1296 => (some (t1296 == false))) else (some false)) else (some false))) else (none))) else (some false))) = some r := by rw [if_pos rfl] at H; exact H
            clear H
            have H := H1
            clear H1
            replace H := Option.bind_eq_some_iff.mp H
            obtain ⟨t1293, A730, H⟩ := H
            replace H : (if t1293 = true then ((spec_EntryText.f kj43 1 9 1 1 2 0).bind fun t1294 => (if t1254.size + t1294.size ≤ 9223372036854775807 then ((spec_Digest.f (t1254 ++ t1294)).bind fun t1295 => (if t1283.toList = t1295.toList then (if (t1254.size : Int) = 32 then ((impl_Verified.f kj43 t1255 (⟨#[120]⟩ : ByteArray)).bind fun t1296 => (some (t1296 == false))) else (some false)) else (some false))) else (none))) else (some false)) = some r := H
            have A73 := Aside0.mk A730
            clear A730
            by_cases c74 : t1293 = true
            ·subst c74
             have H1 : ((spec_EntryText.f kj43 1 9 1 1 2 0).bind fun t1294 => (if t1254.size + t1294.size ≤ 9223372036854775807 then ((spec_Digest.f (t1254 ++ t1294)).bind fun t1295 => (if t1283.toList = t1295.toList then (if (t1254.size : Int) = 32 then ((impl_Verified.f kj43 t1255 (⟨#[120]⟩ : ByteArray)).bind fun t1296 => (some (t1296 == false))) else (some false)) else (some false))) else (none))) = some r := by rw [if_pos rfl] at H; exact H
             clear H
             have H := H1
             clear H1
             replace H := Option.bind_eq_some_iff.mp H
             obtain ⟨t1294, A750, H⟩ := H
             replace H : (if t1254.size + t1294.size ≤ 9223372036854775807 then ((spec_Digest.f (t1254 ++ t1294)).bind fun t1295 => (if t1283.toList = t1295.toList then (if (t1254.size : Int) = 32 then ((impl_Verified.f kj43 t1255 (⟨#[120]⟩ : ByteArray)).bind fun t1296 => (some (t1296 == false))) else (some false)) else (some false))) else (none)) = some r := H
             have A75 := Aside0.mk A750
             clear A750
             by_cases c76 : t1254.size + t1294.size ≤ 9223372036854775807
             ·rw [if_pos c76] at H
              have c76b0 := eq_true c76
              have c76b1 : decide (t1254.size + t1294.size ≤ 9223372036854775807) = true := decide_eq_true c76
              try have c76b2 : (9223372036854775807 < t1254.size + t1294.size) = False := eq_false (Nat.not_lt.2 c76)
              replace H := Option.bind_eq_some_iff.mp H
              obtain ⟨t1295, A770, H⟩ := H
              replace H : (if t1283.toList = t1295.toList then (if (t1254.size : Int) = 32 then ((impl_Verified.f kj43 t1255 (⟨#[120]⟩ : ByteArray)).bind fun t1296 => (some (t1296 == false))) else (some false)) else (some false)) = some r := H
              have A77 := Aside0.mk A770
              clear A770
              by_cases c78 : t1283.toList = t1295.toList
              ·rw [if_pos c78] at H
               have c78b0 : (t1283.toList == t1295.toList) = true := beq_iff_eq.mpr c78
               have c78b1 : (t1283.toList != t1295.toList) = false := bne_eq_false_iff_eq.mpr c78
               clear c78
               by_cases c79 : (t1254.size : Int) = 32
               ·rw [if_pos c79] at H
                have c79b0 : ((t1254.size : Int) == 32) = true := beq_iff_eq.mpr c79
                have c79b1 : ((t1254.size : Int) != 32) = false := bne_eq_false_iff_eq.mpr c79
                clear c79
                replace H := Option.bind_eq_some_iff.mp H
                obtain ⟨t1296, A800, H⟩ := H
                replace H : (some (t1296 == false)) = some r := H
                have A80 := Aside0.mk A800
                clear A800
                obtain rfl := Option.some.inj H
                obtain ⟨Ao81, co81, eo81⟩ := Kd.R_slice HO_7.out
                subst eo81
                go_wp2_with (first | (go_at_call 66; (with_reducible refine (laws_sameEntries.calls kj43 _ _ t1257 _ _ t1251 true _ ?side1 ?side2 ?side3 ?side4 A71.out).mono ?_); (case side1 => repeat (first | exact (Kd.R_reads' HO_7.out).2.2 | (with_reducible refine Kd.C_alloc ?_ _) | (with_reducible refine Kd.C_drewN ?_ _) | (with_reducible refine Kd.C_drew ?_))); (case side2 => exact (Kd.R_reads' HO_7.out).2.1); (case side3 => repeat (first | exact (Kd.R_reads' HO_3.out).2.2 | (with_reducible refine Kd.C_alloc ?_ _) | (with_reducible refine Kd.C_drewN ?_ _) | (with_reducible refine Kd.C_drew ?_))); (case side4 => exact (Kd.R_reads' HO_3.out).2.1); rintro e w' ⟨rfl, ⟨nd, rfl⟩⟩) | (go_at_call 16; (with_reducible refine (impl_Verified.calls kj43 t1255 t1254 true _ ?side1 A73.out).mono ?_); (case side1 => exact tab_of HT.out bl_); rintro e w82 ⟨rfl, hb⟩; have n0_ := Aside0.mk (Kd.R_below (ra_ HO_3.out) hb); have n1_ := Aside0.mk (Kd.R_below (ra_ HO_7.out) hb); have n2_ := Aside0.mk (blk_below (g := gb1270) (o := .cells #[.int .i64 1, .int .i64 9, .int .i64 1, .int .i64 1, .int .i64 2, .int .i64 0] 70 (0, 0)) (bk_ BK1270.out) hb); have n3_ := Aside0.mk (below_step bl_ hb); clear HO_3; clear HO_7; clear BK1270; clear HB; have HO_3 := n0_; have HO_7 := n1_; have BK1270 := n2_; have HB := n3_; clear n0_ n1_ n2_ n3_; (try clear hb); (try clear hb2); (try clear hk); (try clear hi); have hcz83_0 : w82.cell? ⟨gb1270, 0, none⟩ = some (.int .i64 1) := (blk_cell BK1270.out 0).trans rfl; have hcz83_1 : w82.cell? ⟨gb1270, 1, none⟩ = some (.int .i64 9) := (blk_cell BK1270.out 1).trans rfl; have hcz83_2 : w82.cell? ⟨gb1270, 2, none⟩ = some (.int .i64 1) := (blk_cell BK1270.out 2).trans rfl; have hcz83_3 : w82.cell? ⟨gb1270, 3, none⟩ = some (.int .i64 1) := (blk_cell BK1270.out 3).trans rfl; have hcz83_4 : w82.cell? ⟨gb1270, 4, none⟩ = some (.int .i64 2) := (blk_cell BK1270.out 4).trans rfl; have hcz83_5 : w82.cell? ⟨gb1270, 5, none⟩ = some (.int .i64 0) := (blk_cell BK1270.out 5).trans rfl; have hfz83_0 := blk_frozen BK1270.out 0; have hfz83_1 := blk_frozen BK1270.out 1; have hfz83_2 := blk_frozen BK1270.out 2; have hfz83_3 := blk_frozen BK1270.out 3; have hfz83_4 := blk_frozen BK1270.out 4; have hfz83_5 := blk_frozen BK1270.out 5) | (go_at_call 64; (with_reducible refine (spec_EntryText.calls kj43 1 9 1 1 2 0 t1294 _ A75.out).mono ?_); rintro e w84 ⟨rfl, hb⟩; have n0_ := Aside0.mk (Kd.R_below (ra_ HO_3.out) hb); have n1_ := Aside0.mk (Kd.R_below (ra_ HO_7.out) hb); have n2_ := Aside0.mk (blk_below (g := gb1270) (o := .cells #[.int .i64 1, .int .i64 9, .int .i64 1, .int .i64 1, .int .i64 2, .int .i64 0] 70 (0, 0)) (bk_ BK1270.out) hb); have n3_ := Aside0.mk (below_step bl_ hb); clear HO_3; clear HO_7; clear BK1270; clear HB; have HO_3 := n0_; have HO_7 := n1_; have BK1270 := n2_; have HB := n3_; clear n0_ n1_ n2_ n3_; (try clear hb); (try clear hb2); (try clear hk); (try clear hi)) | (go_at_call 56; (with_reducible refine (spec_Digest.calls (t1254 ++ t1294) t1295 _ A77.out).mono ?_); rintro e w85 ⟨rfl, hb⟩; have n0_ := Aside0.mk (Kd.R_below (ra_ HO_3.out) hb); have n1_ := Aside0.mk (Kd.R_below (ra_ HO_7.out) hb); have n2_ := Aside0.mk (blk_below (g := gb1270) (o := .cells #[.int .i64 1, .int .i64 9, .int .i64 1, .int .i64 1, .int .i64 2, .int .i64 0] 70 (0, 0)) (bk_ BK1270.out) hb); have n3_ := Aside0.mk (below_step bl_ hb); clear HO_3; clear HO_7; clear BK1270; clear HB; have HO_3 := n0_; have HO_7 := n1_; have BK1270 := n2_; have HB := n3_; clear n0_ n1_ n2_ n3_; (try clear hb); (try clear hb2); (try clear hk); (try clear hi)) | (go_at_call 16; (with_reducible refine (impl_Verified.calls kj43 t1255 (⟨#[120]⟩ : ByteArray) t1296 _ ?side1 A80.out).mono ?_); (case side1 => exact tab_of HT.out bl_); rintro e w86 ⟨rfl, hb⟩; have n0_ := Aside0.mk (Kd.R_below (ra_ HO_3.out) hb); have n1_ := Aside0.mk (Kd.R_below (ra_ HO_7.out) hb); have n2_ := Aside0.mk (blk_below (g := gb1270) (o := .cells #[.int .i64 1, .int .i64 9, .int .i64 1, .int .i64 1, .int .i64 2, .int .i64 0] 70 (0, 0)) (bk_ BK1270.out) hb); have n3_ := Aside0.mk (below_step bl_ hb); clear HO_3; clear HO_7; clear BK1270; clear HB; have HO_3 := n0_; have HO_7 := n1_; have BK1270 := n2_; have HB := n3_; clear n0_ n1_ n2_ n3_; (try clear hb); (try clear hb2); (try clear hk); (try clear hi)))
                go_ret
                exact ⟨by first | rfl | (simp [errW_none, errW_some] <;> rfl) | (simp [*, errW_none, errW_some] <;> rfl) | exact False.elim (Bool.noConfusion ((decide_eq_true (of_eq_true (by assumption))).symm.trans (by assumption))), bl_⟩
               ·rw [if_neg c79] at H
                have c79b0 : ((t1254.size : Int) == 32) = false := beq_eq_false_iff_ne.mpr c79
                have c79b1 : ((t1254.size : Int) != 32) = true := bne_iff_ne.mpr c79
                exact absurd ((Option.some.inj H).trans HR1.out) (by decide)
              ·rw [if_neg c78] at H
               have c78b0 : (t1283.toList == t1295.toList) = false := beq_eq_false_iff_ne.mpr c78
               have c78b1 : (t1283.toList != t1295.toList) = true := bne_iff_ne.mpr c78
               exact absurd ((Option.some.inj H).trans HR1.out) (by decide)
             ·rw [if_neg c76] at H
              exact absurd H (by simp)
            ·replace c74 := Bool.eq_false_iff.mpr c74
             subst c74
             have H1 : (some false) = some r := by rw [if_neg (show ¬ (false = true) by decide)] at H; exact H
             clear H
             have H := H1
             clear H1
             exact absurd ((Option.some.inj H).trans HR1.out) (by decide)
           ·replace c72 := Bool.eq_false_iff.mpr c72
            subst c72
            have H1 : (some false) = some r := by rw [if_neg (show ¬ (false = true) by decide)] at H; exact H
            clear H
            have H := H1
            clear H1
            exact absurd ((Option.some.inj H).trans HR1.out) (by decide)
          ·replace c70 := Bool.eq_false_iff.mpr c70
           subst c70
           have H1 : (some false) = some r := by rw [if_neg (show ¬ (false = true) by decide)] at H; exact H
           clear H
           have H := H1
           clear H1
           exact absurd ((Option.some.inj H).trans HR1.out) (by decide)
         ·replace c69 := Bool.eq_false_iff.mpr c69
          subst c69
          have H1 : (some false) = some r := by rw [if_neg (show ¬ (false = true) by decide)] at H; exact H
          clear H
          have H := H1
          clear H1
          exact absurd ((Option.some.inj H).trans HR1.out) (by decide)
   ·rw [if_neg c11] at H
    exact absurd H (by simp)
  ·rw [if_neg c10] at H
   exact absurd H (by simp)

end Go.Proofs.YtdhjolglbcoijaaDoor.PA
