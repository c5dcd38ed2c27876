/- Contracts of functions of the program and of the reference, and plain lemmas on what they compute: a part of the proof of the law FnExactReadScript. No condition. -/
import Derived.Test.YtjfmpodeenidnaaJFnExactReadScript1
import Derived.Test.YtjfmpodeenidnaaJFnExactReadScript5
import Derived.Test.YtjfmpodeenidnaaJFnExactReadScript6
import Derived.Test.YtjfmpodeenidnaaShortV
set_option maxHeartbeats 8000000
set_option maxRecDepth 100000
namespace Go.Proofs.Ytjfmpodeenidnaa.PA
open Go.RowKit Go.Proofs.YtjfmpodeenidnaaW.PrintWords Go.Proofs.YtjfmpodeenidnaaW.PrintLast Go.Proofs.YtjfmpodeenidnaaW.PrintMore
attribute [local go_sem] max2_int min2_int max_two min_two max_three min_three max_four min_four   -- for this text's walks alone
set_option linter.unusedVariables false
set_option linter.unusedSimpArgs false

mutual
def impl_eventOf.j3 : Nat → List Int → Int → Int → Int → Int → Int → Int → List (S98) → ByteArray → Option (Int × Int × Int × Int × Int × (List (S98)) × ByteArray × Bool)
 | 0, _, _, _, _, _, _, _, _, _ => none
 | k + 1, x4, x7, x312000, x312001, x312002, x312003, x312004, x312005, x312006 => if (x4.length : Int) = x7 then ((impl_EventOk.f k x312000 x312001 x312002 x312003 x312004 x312005 x312006).bind fun t339 => (some (x312000, x312001, x312002, x312003, x312004, x312005, x312006, t339))) else (some (x312000, x312001, x312002, x312003, x312004, x312005, x312006, false))
def impl_eventOf.j0 : Nat → List ByteArray → List Int → Int → ByteArray → Bool → Int → Int → Int → Int → Int → ByteArray → Option (Int × Int × Int × Int × Int × (List (S98)) × ByteArray × Bool)
 | 0, _, _, _, _, _, _, _, _, _, _, _ => none
 | k + 1, x0, x4, x7, x28, x70, x312000, x312001, x312002, x312003, x312004, x312006 => if x70 = true then (if 0 < (x0.length : Int) then (if (rdOf ByteArray.empty x0 0).toList = ([102, 97, 108, 108] : List UInt8) then (impl_eventOf.j3 k x4 0 11 x312001 x312002 x312003 x312004 ([] : List (S98)) x312006) else (impl_eventOf.j3 k x4 0 10 x312001 x312002 x312003 x312004 ([] : List (S98)) x312006)) else (none)) else (if x28.toList = ([115, 97, 121] : List UInt8) then (impl_eventOf.j1 k x0 x4 x7 (x28.toList == ([115, 97, 121] : List UInt8)) x312000 x312001 x312002 x312003 x312004 x312006) else (impl_eventOf.j1 k x0 x4 x7 (x28.toList == ([115, 112, 111, 105, 108] : List UInt8)) x312000 x312001 x312002 x312003 x312004 x312006))
def impl_eventOf.j1 : Nat → List ByteArray → List Int → Int → Bool → Int → Int → Int → Int → Int → ByteArray → Option (Int × Int × Int × Int × Int × (List (S98)) × ByteArray × Bool)
 | 0, _, _, _, _, _, _, _, _, _, _ => none
 | k + 1, x0, x4, x7, x79, x312000, x312001, x312002, x312003, x312004, x312006 => if x79 = true then (if (x4.length : Int) = 2 then (if 0 < (x0.length : Int) then (impl_eventOf.j2 k x4 2 ((rdOf ByteArray.empty x0 0).toList == ([115, 97, 121] : List UInt8)) x312000 x312001 x312002 x312003 x312004 x312006) else (none)) else (impl_eventOf.j2 k x4 2 false x312000 x312001 x312002 x312003 x312004 x312006)) else (if (x4.length : Int) = x7 then (if 0 < (x0.length : Int) then (if 0 < (x4.length : Int) then ((impl_single.f (rdOf ByteArray.empty x0 0) (rd x4 0)).bind fun bt330 => (impl_eventOf.j3 k x4 x7 bt330.1 bt330.2.1 bt330.2.2.1 bt330.2.2.2.1 bt330.2.2.2.2.1 bt330.2.2.2.2.2.1 bt330.2.2.2.2.2.2)) else (none)) else (none)) else (impl_eventOf.j3 k x4 x7 x312000 x312001 x312002 x312003 x312004 ([] : List (S98)) x312006))
def impl_eventOf.j2 : Nat → List Int → Int → Bool → Int → Int → Int → Int → Int → ByteArray → Option (Int × Int × Int × Int × Int × (List (S98)) × ByteArray × Bool)
 | 0, _, _, _, _, _, _, _, _, _ => none
 | k + 1, x4, x7, x91, x312000, x312001, x312002, x312003, x312004, x312006 => if x91 = true then (if 0 < (x4.length : Int) then (if 1 < (x4.length : Int) then (impl_eventOf.j3 k x4 x7 5 (rd x4 0) (rd x4 1) 0 0 ([] : List (S98)) (⟨#[]⟩ : ByteArray)) else (none)) else (none)) else (if (x4.length : Int) = x7 then (if 0 < (x4.length : Int) then (if 1 < (x4.length : Int) then (impl_eventOf.j3 k x4 x7 9 (rd x4 1) (rd x4 0) 0 0 ([] : List (S98)) (⟨#[]⟩ : ByteArray)) else (none)) else (none)) else (impl_eventOf.j3 k x4 x7 x312000 x312001 x312002 x312003 x312004 ([] : List (S98)) x312006))
end
def impl_eventOf.f (k : Nat) (l0 : List ByteArray) : Option (Int × Int × Int × Int × Int × (List (S98)) × ByteArray × Bool) := if 0 < (l0.length : Int) then (if (rdOf ByteArray.empty l0 0).toList = ([112, 117, 115, 104] : List UInt8) then ((impl_pushOf.f k l0).bind fun bt296 => (some (bt296.1, bt296.2.1, bt296.2.2.1, bt296.2.2.2.1, bt296.2.2.2.2.1, bt296.2.2.2.2.2.1, bt296.2.2.2.2.2.2.1, bt296.2.2.2.2.2.2.2))) else (if 1 ≤ (l0.length : Int) then ((impl_numbersOf.f k (l0.drop 1)).bind fun bt307 => (if bt307.2 = true then (if (rdOf ByteArray.empty l0 0).toList = ([99, 97, 108, 108] : List UInt8) then (if (bt307.1.length : Int) = 6 then (if 0 < (bt307.1.length : Int) then (if 1 < (bt307.1.length : Int) then (if 2 < (bt307.1.length : Int) then (if 3 < (bt307.1.length : Int) then (if 4 < (bt307.1.length : Int) then (if 5 < (bt307.1.length : Int) then (impl_eventOf.j3 k bt307.1 6 1 (rd bt307.1 0) 0 (rd bt307.1 1) (rd bt307.1 2) (([(⟨0, rd bt307.1 3⟩ : S98), (⟨0, rd bt307.1 4⟩ : S98), (⟨0, rd bt307.1 5⟩ : S98)] : List (S98))) (⟨#[]⟩ : ByteArray)) else (none)) else (none)) else (none)) else (none)) else (none)) else (none)) else (impl_eventOf.j3 k bt307.1 6 0 0 0 0 0 ([] : List (S98)) (⟨#[]⟩ : ByteArray))) else (if (rdOf ByteArray.empty l0 0).toList = ([115, 97, 118, 101] : List UInt8) then (impl_eventOf.j0 k l0 bt307.1 1 (rdOf ByteArray.empty l0 0) ((rdOf ByteArray.empty l0 0).toList == ([115, 97, 118, 101] : List UInt8)) 0 0 0 0 0 (⟨#[]⟩ : ByteArray)) else (impl_eventOf.j0 k l0 bt307.1 1 (rdOf ByteArray.empty l0 0) ((rdOf ByteArray.empty l0 0).toList == ([102, 97, 108, 108] : List UInt8)) 0 0 0 0 0 (⟨#[]⟩ : ByteArray)))) else (some (0, 0, 0, 0, 0, ([] : List (S98)), (⟨#[]⟩ : ByteArray), false)))) else (none))) else (none)
theorem impl_eventOf.mono_l : ∀ k, (∀ y0 y1 y2 y3 y4 y5 y6 y7 y8, LeO (impl_eventOf.j3 k y0 y1 y2 y3 y4 y5 y6 y7 y8) (impl_eventOf.j3 (k + 1) y0 y1 y2 y3 y4 y5 y6 y7 y8)) ∧ (∀ y0 y1 y2 y3 y4 y5 y6 y7 y8 y9 y10, LeO (impl_eventOf.j0 k y0 y1 y2 y3 y4 y5 y6 y7 y8 y9 y10) (impl_eventOf.j0 (k + 1) y0 y1 y2 y3 y4 y5 y6 y7 y8 y9 y10)) ∧ (∀ y0 y1 y2 y3 y4 y5 y6 y7 y8 y9, LeO (impl_eventOf.j1 k y0 y1 y2 y3 y4 y5 y6 y7 y8 y9) (impl_eventOf.j1 (k + 1) y0 y1 y2 y3 y4 y5 y6 y7 y8 y9)) ∧ (∀ y0 y1 y2 y3 y4 y5 y6 y7 y8, LeO (impl_eventOf.j2 k y0 y1 y2 y3 y4 y5 y6 y7 y8) (impl_eventOf.j2 (k + 1) y0 y1 y2 y3 y4 y5 y6 y7 y8))
 | 0 => ⟨fun _ _ _ _ _ _ _ _ _ r h => by simp [impl_eventOf.j3] at h, fun _ _ _ _ _ _ _ _ _ _ _ r h => by simp [impl_eventOf.j0] at h, fun _ _ _ _ _ _ _ _ _ _ r h => by simp [impl_eventOf.j1] at h, fun _ _ _ _ _ _ _ _ _ r h => by simp [impl_eventOf.j2] at h⟩
 | k + 1 => by
  obtain ⟨ih0, ih1, ih2, ih3⟩ := impl_eventOf.mono_l k
  refine ⟨?_, ?_, ?_, ?_⟩
  ·intro y0 y1 y2 y3 y4 y5 y6 y7 y8
   unfold impl_eventOf.j3
   repeat' first
   | (with_reducible exact ih0 _ _ _ _ _ _ _ _ _)
   | (with_reducible exact ih1 _ _ _ _ _ _ _ _ _ _ _)
   | (with_reducible exact ih2 _ _ _ _ _ _ _ _ _ _)
   | (with_reducible exact ih3 _ _ _ _ _ _ _ _ _)
   | (with_reducible exact impl_EventOk.mono _ _ _ _ _ _ _ _)
   | (with_reducible exact impl_numbersOf.mono _ _)
   | (with_reducible exact impl_pushOf.mono _ _)
   | (with_reducible exact LeO.refl _)
   | (with_reducible exact LeO.none _)
   | (with_reducible refine LeO.ite ?_ ?_)
   | (with_reducible refine LeO.bind ?_ (fun _ => ?_))
   | exact ih0 _ _ _ _ _ _ _ _ _
   | exact ih1 _ _ _ _ _ _ _ _ _ _ _
   | exact ih2 _ _ _ _ _ _ _ _ _ _
   | exact ih3 _ _ _ _ _ _ _ _ _
   | exact impl_EventOk.mono _ _ _ _ _ _ _ _
   | exact impl_numbersOf.mono _ _
   | exact impl_pushOf.mono _ _
   | exact LeO.none _
   | refine LeO.ite ?_ ?_
   | refine LeO.bind ?_ (fun _ => ?_)
  ·intro y0 y1 y2 y3 y4 y5 y6 y7 y8 y9 y10
   unfold impl_eventOf.j0
   repeat' first
   | (with_reducible exact ih0 _ _ _ _ _ _ _ _ _)
   | (with_reducible exact ih1 _ _ _ _ _ _ _ _ _ _ _)
   | (with_reducible exact ih2 _ _ _ _ _ _ _ _ _ _)
   | (with_reducible exact ih3 _ _ _ _ _ _ _ _ _)
   | (with_reducible exact impl_EventOk.mono _ _ _ _ _ _ _ _)
   | (with_reducible exact impl_numbersOf.mono _ _)
   | (with_reducible exact impl_pushOf.mono _ _)
   | (with_reducible exact LeO.refl _)
   | (with_reducible exact LeO.none _)
   | (with_reducible refine LeO.ite ?_ ?_)
   | (with_reducible refine LeO.bind ?_ (fun _ => ?_))
   | exact ih0 _ _ _ _ _ _ _ _ _
   | exact ih1 _ _ _ _ _ _ _ _ _ _ _
   | exact ih2 _ _ _ _ _ _ _ _ _ _
   | exact ih3 _ _ _ _ _ _ _ _ _
   | exact impl_EventOk.mono _ _ _ _ _ _ _ _
   | exact impl_numbersOf.mono _ _
   | exact impl_pushOf.mono _ _
   | exact LeO.none _
   | refine LeO.ite ?_ ?_
   | refine LeO.bind ?_ (fun _ => ?_)
  ·intro y0 y1 y2 y3 y4 y5 y6 y7 y8 y9
   unfold impl_eventOf.j1
   repeat' first
   | (with_reducible exact ih0 _ _ _ _ _ _ _ _ _)
   | (with_reducible exact ih1 _ _ _ _ _ _ _ _ _ _ _)
   | (with_reducible exact ih2 _ _ _ _ _ _ _ _ _ _)
   | (with_reducible exact ih3 _ _ _ _ _ _ _ _ _)
   | (with_reducible exact impl_EventOk.mono _ _ _ _ _ _ _ _)
   | (with_reducible exact impl_numbersOf.mono _ _)
   | (with_reducible exact impl_pushOf.mono _ _)
   | (with_reducible exact LeO.refl _)
   | (with_reducible exact LeO.none _)
   | (with_reducible refine LeO.ite ?_ ?_)
   | (with_reducible refine LeO.bind ?_ (fun _ => ?_))
   | exact ih0 _ _ _ _ _ _ _ _ _
   | exact ih1 _ _ _ _ _ _ _ _ _ _ _
   | exact ih2 _ _ _ _ _ _ _ _ _ _
   | exact ih3 _ _ _ _ _ _ _ _ _
   | exact impl_EventOk.mono _ _ _ _ _ _ _ _
   | exact impl_numbersOf.mono _ _
   | exact impl_pushOf.mono _ _
   | exact LeO.none _
   | refine LeO.ite ?_ ?_
   | refine LeO.bind ?_ (fun _ => ?_)
  ·intro y0 y1 y2 y3 y4 y5 y6 y7 y8
   unfold impl_eventOf.j2
   repeat' first
   | (with_reducible exact ih0 _ _ _ _ _ _ _ _ _)
   | (with_reducible exact ih1 _ _ _ _ _ _ _ _ _ _ _)
   | (with_reducible exact ih2 _ _ _ _ _ _ _ _ _ _)
   | (with_reducible exact ih3 _ _ _ _ _ _ _ _ _)
   | (with_reducible exact impl_EventOk.mono _ _ _ _ _ _ _ _)
   | (with_reducible exact impl_numbersOf.mono _ _)
   | (with_reducible exact impl_pushOf.mono _ _)
   | (with_reducible exact LeO.refl _)
   | (with_reducible exact LeO.none _)
   | (with_reducible refine LeO.ite ?_ ?_)
   | (with_reducible refine LeO.bind ?_ (fun _ => ?_))
   | exact ih0 _ _ _ _ _ _ _ _ _
   | exact ih1 _ _ _ _ _ _ _ _ _ _ _
   | exact ih2 _ _ _ _ _ _ _ _ _ _
   | exact ih3 _ _ _ _ _ _ _ _ _
   | exact impl_EventOk.mono _ _ _ _ _ _ _ _
   | exact impl_numbersOf.mono _ _
   | exact impl_pushOf.mono _ _
   | exact LeO.none _
   | refine LeO.ite ?_ ?_
   | refine LeO.bind ?_ (fun _ => ?_)
theorem impl_eventOf.mono : ∀ a0 k, LeO (impl_eventOf.f k a0) (impl_eventOf.f (k + 1) a0) := by
 intro a0 k
 obtain ⟨ih0, ih1, ih2, ih3⟩ := impl_eventOf.mono_l k
 unfold impl_eventOf.f
 repeat' first
  | (with_reducible exact ih0 _ _ _ _ _ _ _ _ _)
  | (with_reducible exact ih1 _ _ _ _ _ _ _ _ _ _ _)
  | (with_reducible exact ih2 _ _ _ _ _ _ _ _ _ _)
  | (with_reducible exact ih3 _ _ _ _ _ _ _ _ _)
  | (with_reducible exact impl_EventOk.mono _ _ _ _ _ _ _ _)
  | (with_reducible exact impl_numbersOf.mono _ _)
  | (with_reducible exact impl_pushOf.mono _ _)
  | (with_reducible exact LeO.refl _)
  | (with_reducible exact LeO.none _)
  | (with_reducible refine LeO.ite ?_ ?_)
  | (with_reducible refine LeO.bind ?_ (fun _ => ?_))
  | exact ih0 _ _ _ _ _ _ _ _ _
  | exact ih1 _ _ _ _ _ _ _ _ _ _ _
  | exact ih2 _ _ _ _ _ _ _ _ _ _
  | exact ih3 _ _ _ _ _ _ _ _ _
  | exact impl_EventOk.mono _ _ _ _ _ _ _ _
  | exact impl_numbersOf.mono _ _
  | exact impl_pushOf.mono _ _
  | exact LeO.none _
  | refine LeO.ite ?_ ?_
  | refine LeO.bind ?_ (fun _ => ?_)
def impl_eventOf.T10 : Bool × List (List Nat × List Nat) := (true, [([], []), ([0], [0]), ([1], [1]), ([], []), ([3], [3]), ([4], [4]), ([2, 5], [2, 5]), ([6, 6, 0, 1, 2, 3, 4, 5, 6], [6])])
def impl_eventOf.B10 : List Nat := [0, 1, 3, 0, 8, 24, 63, 127]
theorem impl_eventOf.tab10 : rtab .any (opsOf Try.f47 10) = impl_eventOf.T10 := by kernel_rfl
theorem impl_eventOf.bits10 : waitsOk impl_eventOf.T10.2 impl_eventOf.B10 = true := by kernel_rfl
def impl_eventOf.T14 : Bool × List (List Nat × List Nat) := (true, [([], []), ([0], [0]), ([1], [1]), ([], []), ([3], [3]), ([4], [4]), ([], []), ([6], [6]), ([7], [7]), ([], []), ([9], [9]), ([10], [10]), ([11], [11]), ([], []), ([13], [13]), ([14], [14]), ([15], [15]), ([], []), ([17], [17]), ([18], [18]), ([19], [19]), ([12, 16, 20], [12, 16, 20]), ([5, 8, 21], [5, 8, 21]), ([2, 22], [2, 22]), ([23, 0, 1, 2, 3, 4, 5, 6, 7, 8, 9, 10, 11, 12, 13, 14, 15, 16, 17, 18, 19, 20, 21, 22, 23], [23])])
def impl_eventOf.B14 : List Nat := [0, 1, 3, 0, 8, 24, 0, 64, 192, 0, 512, 1536, 3584, 0, 8192, 24576, 57344, 0, 131072, 393216, 917504, 2096640, 4194296, 8388607, 16777215]
theorem impl_eventOf.tab14 : rtab .any (opsOf Try.f47 14) = impl_eventOf.T14 := by kernel_rfl
theorem impl_eventOf.bits14 : waitsOk impl_eventOf.T14.2 impl_eventOf.B14 = true := by kernel_rfl
def impl_eventOf.T25 : Bool × List (List Nat × List Nat) := (true, [([], []), ([0], [0]), ([1], [1]), ([], []), ([3], [3]), ([4], [4]), ([2, 5], [2, 5]), ([6, 0, 1, 2, 3, 4, 5, 6], [6])])
def impl_eventOf.B25 : List Nat := [0, 1, 3, 0, 8, 24, 63, 127]
theorem impl_eventOf.tab25 : rtab .any (opsOf Try.f47 25) = impl_eventOf.T25 := by kernel_rfl
theorem impl_eventOf.bits25 : waitsOk impl_eventOf.T25.2 impl_eventOf.B25 = true := by kernel_rfl
def impl_eventOf.T27 : Bool × List (List Nat × List Nat) := (true, [([], []), ([0], [0]), ([1], [1]), ([], []), ([3], [3]), ([4], [4]), ([2, 5], [2, 5]), ([6, 0, 1, 2, 3, 4, 5, 6], [6])])
def impl_eventOf.B27 : List Nat := [0, 1, 3, 0, 8, 24, 63, 127]
theorem impl_eventOf.tab27 : rtab .any (opsOf Try.f47 27) = impl_eventOf.T27 := by kernel_rfl
theorem impl_eventOf.bits27 : waitsOk impl_eventOf.T27.2 impl_eventOf.B27 = true := by kernel_rfl
def impl_eventOf.T28 : Bool × List (List Nat × List Nat) := (true, [([], []), ([], []), ([1], [1]), ([], []), ([2, 3], [2, 3]), ([4], [4]), ([5], [5]), ([6, 5, 5], [5, 6]), ([5, 7], [5, 7]), ([0, 7, 0], [0]), ([8, 9, 0, 1, 2, 3, 4, 5, 6, 7, 8, 9], [8])])
def impl_eventOf.B28 : List Nat := [0, 0, 2, 0, 14, 30, 62, 126, 254, 255, 1023]
theorem impl_eventOf.tab28 : rtab .any (opsOf Try.f47 28) = impl_eventOf.T28 := by kernel_rfl
theorem impl_eventOf.bits28 : waitsOk impl_eventOf.T28.2 impl_eventOf.B28 = true := by kernel_rfl
theorem impl_eventOf.calls (k : Nat) (A0 : Option Addr) (c0 : Nat) (l0 : List ByteArray) (r1 : Int) (r2 : Int) (r3 : Int) (r4 : Int) (r5 : Int) (r6 : List (S98)) (r7 : ByteArray) (r8 : Bool) (w : World) (hr0 : Kd.C Kd.string w A0 l0.length l0) (hc0 : l0.length ≤ c0) (h : impl_eventOf.f k l0 = some (r1, r2, r3, r4, r5, r6, r7, r8)) :
 Calls Try.prog 47 #[.slice A0 l0.length c0] w fun e w' => ∃ v5_ : Value, e = .returned (.tuple #[.agg #[.int .i64 r1, .int .i64 r2, .int .i64 r3, .int .i64 r4, .int .i64 r5, v5_, .string r7], .bool r8]) ∧ Kd.R k98 98 w' w.heap.size (fun _ => True) v5_ r6 ∧ Below w.heap.size w w' := by
 have hu69 := Try.underlying69
 have hu98 := Try.underlying98
 have hu47 := Try.underlying47
 have HR0 := Aside0.mk hr0
 have HC0 := Aside0.mk hc0
 clear hr0 hc0
 have HB := Aside0.mk (Below.refl w.heap.size w)
 have H : (if 0 < (l0.length : Int) then (if (rdOf ByteArray.empty l0 0).toList = ([112, 117, 115, 104] : List UInt8) then ((impl_pushOf.f k l0).bind fun bt296 => (some (bt296.1, bt296.2.1, bt296.2.2.1, bt296.2.2.2.1, bt296.2.2.2.2.1, bt296.2.2.2.2.2.1, bt296.2.2.2.2.2.2.1, bt296.2.2.2.2.2.2.2))) else (if 1 ≤ (l0.length : Int) then ((impl_numbersOf.f k (l0.drop 1)).bind fun bt307 => (if bt307.2 = true then (if (rdOf ByteArray.empty l0 0).toList = ([99, 97, 108, 108] : List UInt8) then (if (bt307.1.length : Int) = 6 then (if 0 < (bt307.1.length : Int) then (if 1 < (bt307.1.length : Int) then (if 2 < (bt307.1.length : Int) then (if 3 < (bt307.1.length : Int) then (if 4 < (bt307.1.length : Int) then (if 5 < (bt307.1.length : Int) then (impl_eventOf.j3 k bt307.1 6 1 (rd bt307.1 0) 0 (rd bt307.1 1) (rd bt307.1 2) (([(⟨0, rd bt307.1 3⟩ : S98), (⟨0, rd bt307.1 4⟩ : S98), (⟨0, rd bt307.1 5⟩ : S98)] : List (S98))) (⟨#[]⟩ : ByteArray)) else (none)) else (none)) else (none)) else (none)) else (none)) else (none)) else (impl_eventOf.j3 k bt307.1 6 0 0 0 0 0 ([] : List (S98)) (⟨#[]⟩ : ByteArray))) else (if (rdOf ByteArray.empty l0 0).toList = ([115, 97, 118, 101] : List UInt8) then (impl_eventOf.j0 k l0 bt307.1 1 (rdOf ByteArray.empty l0 0) ((rdOf ByteArray.empty l0 0).toList == ([115, 97, 118, 101] : List UInt8)) 0 0 0 0 0 (⟨#[]⟩ : ByteArray)) else (impl_eventOf.j0 k l0 bt307.1 1 (rdOf ByteArray.empty l0 0) ((rdOf ByteArray.empty l0 0).toList == ([102, 97, 108, 108] : List UInt8)) 0 0 0 0 0 (⟨#[]⟩ : ByteArray)))) else (some (0, 0, 0, 0, 0, ([] : List (S98)), (⟨#[]⟩ : ByteArray), false)))) else (none))) else (none)) = some (r1, r2, r3, r4, r5, r6, r7, r8) := h
 clear h
 by_cases c2 : 0 < (l0.length : Int)
 ·rw [if_pos c2] at H
  have c2b0 : decide (0 < (l0.length : Int)) = true := decide_eq_true c2
  have c2b1 : decide (0 < l0.length) = true := decide_eq_true (by omega)
  clear c2
  by_cases c3 : (rdOf ByteArray.empty l0 0).toList = ([112, 117, 115, 104] : List UInt8)
  ·rw [if_pos c3] at H
   have c3b0 : ((rdOf ByteArray.empty l0 0).toList == ([112, 117, 115, 104] : List UInt8)) = true := beq_iff_eq.mpr c3
   have c3b1 : ((rdOf ByteArray.empty l0 0).toList != ([112, 117, 115, 104] : List UInt8)) = false := bne_eq_false_iff_eq.mpr c3
   clear c3
   replace H := Option.bind_eq_some_iff.mp H
   obtain ⟨⟨t296, t297, t298, t299, t300, t301, t304, t305⟩, A40, H⟩ := H
   replace H : (some (t296, t297, t298, t299, t300, t301, t304, t305)) = some (r1, r2, r3, r4, r5, r6, r7, r8) := H
   have A4 := Aside0.mk A40
   clear A40
   simp only [Option.some.injEq, Prod.mk.injEq] at H
   obtain ⟨rfl, rfl, rfl, rfl, rfl, rfl, rfl, rfl⟩ := H
   go_enter Try.func47, Try.ntmps47
   go_wp2_with (first | ((with_reducible refine gate_dst (N := 2) rfl ?_); refine box_event ?hg (N := 2) ?hd (cs := #[.int .i64 0, .int .i64 0, .int .i64 0, .int .i64 0, .int .i64 0, .slice none 0 0, .string (⟨#[]⟩ : ByteArray)]) (t := 69) ?hr ?_; (case hd => rfl); (case hg => rfl); (case hr => first | (go_simp; done) | (go_simp; rfl)); intro gb294 hg w5 hbox hb; have n0_ := Aside0.mk (below_step (by repeat (first | (with_reducible first | exact HB.out | apply below_alloc | apply pw_below_drewN | apply below_drew1) | exact HB.out)) hb); have n1_ := Aside0.mk (hbox); have n2_ := Aside0.mk ((by rw [hg]; exact (below_size (by repeat (first | (with_reducible first | exact HB.out | apply below_alloc | apply pw_below_drewN | apply below_drew1) | exact HB.out))) : w.heap.size ≤ gb294)); have n3_ := Aside0.mk ((by rw [hg]; exact (below_size (by repeat (first | (with_reducible first | exact HB.out | apply below_alloc | apply pw_below_drewN | apply below_drew1) | exact HB.out))) : w.heap.size ≤ gb294)); clear HB; have HB := n0_; have BK294 := n1_; have GW294 := n2_; have GE294 := n3_; clear n0_ n1_ n2_ n3_; clear hb hbox hg; have p295 : 0 ≤ (0 : Int) := (by omega); have q295 : 0 < (l0.length : Int) := of_decide_eq_true (by first | (with_reducible assumption) | assumption); obtain ⟨ad295, e295, hx295_0⟩ := Kd.at_string HR0.out 0 p295 q295; cases e295; have qi295 : (0 < l0.length) = True := eq_true (by omega); (try rw [show ((0 : Int)).toNat = 0 from rfl] at hx295_0); (try rw [Addr.add_zero'] at hx295_0); replace hx295_0 := (HB.out.cell (World.block_lt_of_cell? w _ hx295_0)).trans hx295_0; replace p295 := eq_true p295; replace q295 := eq_true q295) | ((with_reducible refine gate_callee (f := 91) rfl ?_); refine goesL_ (some 13) rfl rfl Try.func91 (by kernel_rfl) rfl #[.slice (some ad295) l0.length c0] rfl (by (try simp only [List.map_toArray, List.map_cons, List.map_nil]); first | done | rfl | (simp only [List.length_drop, List.length_take]; rfl)) ?_; (with_reducible refine (impl_pushOf.calls k _ _ l0 t296 t297 t298 t299 t300 t301 t304 t305 _ ?side1 ?side2 A4.out).mono ?_); (case side1 => repeat (first | exact (Kd.C_below HR0.out HB.out) | exact HR0.out | (with_reducible refine Kd.C_alloc ?_ _) | (with_reducible refine Kd.C_drewN ?_ _) | (with_reducible refine Kd.C_drew ?_))); (case side2 => exact HC0.out); rintro e w6 ⟨v302, rfl, ho0, hb⟩; refine ⟨_, rfl, ?_⟩; have n0_ := Aside0.mk (Kd.R_lower ho0 (below_size (by repeat (first | (with_reducible first | exact HB.out | apply below_alloc | apply pw_below_drewN | apply below_drew1 | refine below_set ?_ GE294.out) | exact HB.out)))); have n1_ := Aside0.mk (blk_below (g := gb294) (o := .cells #[.int .i64 0, .int .i64 0, .int .i64 0, .int .i64 0, .int .i64 0, .slice none 0 0, .string (⟨#[]⟩ : ByteArray)] 69 (0, 0)) (by (with_reducible repeat (first | refine blk_drewN ?_ _ | refine blk_drew ?_ | refine blk_alloc ?_ _)); exact BK294.out) hb); have n2_ := Aside0.mk (below_step (by repeat (first | (with_reducible first | exact HB.out | apply below_alloc | apply pw_below_drewN | apply below_drew1 | refine below_set ?_ GE294.out) | exact HB.out)) hb); clear BK294; clear HB; have HO303 := n0_; have BK294 := n1_; have HB := n2_; clear n0_ n1_ n2_; (try clear hb); (try clear hb2); (try clear hk); (try clear hi); (try clear ho0); have hcz7_0 : w6.cell? ⟨gb294, 0, none⟩ = some (.int .i64 0) := (blk_cell BK294.out 0).trans rfl; have hcz7_1 : w6.cell? ⟨gb294, 1, none⟩ = some (.int .i64 0) := (blk_cell BK294.out 1).trans rfl; have hcz7_2 : w6.cell? ⟨gb294, 2, none⟩ = some (.int .i64 0) := (blk_cell BK294.out 2).trans rfl; have hcz7_3 : w6.cell? ⟨gb294, 3, none⟩ = some (.int .i64 0) := (blk_cell BK294.out 3).trans rfl; have hcz7_4 : w6.cell? ⟨gb294, 4, none⟩ = some (.int .i64 0) := (blk_cell BK294.out 4).trans rfl; have hcz7_5 : w6.cell? ⟨gb294, 5, none⟩ = some (.slice none 0 0) := (blk_cell BK294.out 5).trans rfl; have hcz7_6 : w6.cell? ⟨gb294, 6, none⟩ = some (.string (⟨#[]⟩ : ByteArray)) := (blk_cell BK294.out 6).trans rfl; have hfz7_0 := blk_frozen BK294.out 0; have hfz7_1 := blk_frozen BK294.out 1; have hfz7_2 := blk_frozen BK294.out 2; have hfz7_3 := blk_frozen BK294.out 3; have hfz7_4 := blk_frozen BK294.out 4; have hfz7_5 := blk_frozen BK294.out 5; have hfz7_6 := blk_frozen BK294.out 6; obtain ⟨Ao8, co8, eo8⟩ := Kd.R_slice HO303.out; subst eo8))
   refine bodyPost_ret (results_ct rfl _ _ gb294 69 #[.int .i64 t296, .int .i64 t297, .int .i64 t298, .int .i64 t299, .int .i64 t300, .slice Ao8 t301.length co8, .string t304] (0, 0) _ rfl (by (with_reducible repeat (first | refine blk_drewN ?_ _ | refine blk_drew ?_ | refine blk_alloc ?_ _)); refine blk_put (cs := #[.int .i64 t296, .int .i64 t297, .int .i64 t298, .int .i64 t299, .int .i64 t300, .slice Ao8 t301.length co8, .string (⟨#[]⟩ : ByteArray)]) ?_ 6 _ rfl; (with_reducible repeat (first | refine blk_drewN ?_ _ | refine blk_drew ?_ | refine blk_alloc ?_ _)); refine blk_put (cs := #[.int .i64 t296, .int .i64 t297, .int .i64 t298, .int .i64 t299, .int .i64 t300, .slice none 0 0, .string (⟨#[]⟩ : ByteArray)]) ?_ 5 _ rfl; (with_reducible repeat (first | refine blk_drewN ?_ _ | refine blk_drew ?_ | refine blk_alloc ?_ _)); refine blk_put (cs := #[.int .i64 t296, .int .i64 t297, .int .i64 t298, .int .i64 t299, .int .i64 0, .slice none 0 0, .string (⟨#[]⟩ : ByteArray)]) ?_ 4 _ rfl; (with_reducible repeat (first | refine blk_drewN ?_ _ | refine blk_drew ?_ | refine blk_alloc ?_ _)); refine blk_put (cs := #[.int .i64 t296, .int .i64 t297, .int .i64 t298, .int .i64 0, .int .i64 0, .slice none 0 0, .string (⟨#[]⟩ : ByteArray)]) ?_ 3 _ rfl; (with_reducible repeat (first | refine blk_drewN ?_ _ | refine blk_drew ?_ | refine blk_alloc ?_ _)); refine blk_put (cs := #[.int .i64 t296, .int .i64 t297, .int .i64 0, .int .i64 0, .int .i64 0, .slice none 0 0, .string (⟨#[]⟩ : ByteArray)]) ?_ 2 _ rfl; (with_reducible repeat (first | refine blk_drewN ?_ _ | refine blk_drew ?_ | refine blk_alloc ?_ _)); refine blk_put (cs := #[.int .i64 t296, .int .i64 0, .int .i64 0, .int .i64 0, .int .i64 0, .slice none 0 0, .string (⟨#[]⟩ : ByteArray)]) ?_ 1 _ rfl; (with_reducible repeat (first | refine blk_drewN ?_ _ | refine blk_drew ?_ | refine blk_alloc ?_ _)); refine blk_put (cs := #[.int .i64 0, .int .i64 0, .int .i64 0, .int .i64 0, .int .i64 0, .slice none 0 0, .string (⟨#[]⟩ : ByteArray)]) ?_ 0 _ rfl; (with_reducible repeat (first | refine blk_drewN ?_ _ | refine blk_drew ?_ | refine blk_alloc ?_ _)); exact BK294.out) Try.underlying69 rfl (by kernel_rfl)) rfl ?_
   exact ⟨_, by first | rfl | (simp [errW_none, errW_some] <;> rfl) | (simp [*, errW_none, errW_some] <;> rfl) | exact False.elim (Bool.noConfusion ((decide_eq_true (of_eq_true (by assumption))).symm.trans (by assumption))), by (with_reducible repeat (first | apply Kd.R_alloc | apply Kd.R_drewN | apply Kd.R_drew)); exact Kd.R_mono (Kd.R_far (p := ⟨gb294, 6, none⟩) (Kd.R_far (p := ⟨gb294, 5, none⟩) (Kd.R_far (p := ⟨gb294, 4, none⟩) (Kd.R_far (p := ⟨gb294, 3, none⟩) (Kd.R_far (p := ⟨gb294, 2, none⟩) (Kd.R_far (p := ⟨gb294, 1, none⟩) (Kd.R_far (p := ⟨gb294, 0, none⟩) (Kd.R_types HO303.out BK294.out (by decide)) (fun _ hk => hk.2) (.int .i64 t296)) (fun _ hk => hk.2) (.int .i64 t297)) (fun _ hk => hk.2) (.int .i64 t298)) (fun _ hk => hk.2) (.int .i64 t299)) (fun _ hk => hk.2) (.int .i64 t300)) (fun _ hk => hk.2) (.slice Ao8 t301.length co8)) (fun _ hk => hk.2) (.string t304)) (fun _ hk => trivial), by repeat (first | (with_reducible first | exact HB.out | apply below_alloc | apply pw_below_drewN | apply below_drew1 | refine below_set ?_ GE294.out) | exact HB.out)⟩
  ·rw [if_neg c3] at H
   have c3b0 : ((rdOf ByteArray.empty l0 0).toList == ([112, 117, 115, 104] : List UInt8)) = false := beq_eq_false_iff_ne.mpr c3
   have c3b1 : ((rdOf ByteArray.empty l0 0).toList != ([112, 117, 115, 104] : List UInt8)) = true := bne_iff_ne.mpr c3
   by_cases c9 : 1 ≤ (l0.length : Int)
   ·rw [if_pos c9] at H
    have c9b0 := eq_true c9
    have c9b1 : decide (1 ≤ (l0.length : Int)) = true := decide_eq_true c9
    clear c9
    replace H := Option.bind_eq_some_iff.mp H
    obtain ⟨⟨t307, t308⟩, A100, H⟩ := H
    replace H : (if t308 = true then (if (rdOf ByteArray.empty l0 0).toList = ([99, 97, 108, 108] : List UInt8) then (if (t307.length : Int) = 6 then (if 0 < (t307.length : Int) then (if 1 < (t307.length : Int) then (if 2 < (t307.length : Int) then (if 3 < (t307.length : Int) then (if 4 < (t307.length : Int) then (if 5 < (t307.length : Int) then (impl_eventOf.j3 k t307 6 1 (rd t307 0) 0 (rd t307 1) (rd t307 2) (([(⟨0, rd t307 3⟩ : S98), (⟨0, rd t307 4⟩ : S98), (⟨0, rd t307 5⟩ : S98)] : List (S98))) (⟨#[]⟩ : ByteArray)) else (none)) else (none)) else (none)) else (none)) else (none)) else (none)) else (impl_eventOf.j3 k t307 6 0 0 0 0 0 ([] : List (S98)) (⟨#[]⟩ : ByteArray))) else (if (rdOf ByteArray.empty l0 0).toList = ([115, 97, 118, 101] : List UInt8) then (impl_eventOf.j0 k l0 t307 1 (rdOf ByteArray.empty l0 0) ((rdOf ByteArray.empty l0 0).toList == ([115, 97, 118, 101] : List UInt8)) 0 0 0 0 0 (⟨#[]⟩ : ByteArray)) else (impl_eventOf.j0 k l0 t307 1 (rdOf ByteArray.empty l0 0) ((rdOf ByteArray.empty l0 0).toList == ([102, 97, 108, 108] : List UInt8)) 0 0 0 0 0 (⟨#[]⟩ : ByteArray)))) else (some (0, 0, 0, 0, 0, ([] : List (S98)), (⟨#[]⟩ : ByteArray), false))) = some (r1, r2, r3, r4, r5, r6, r7, r8) := H
    have A10 := Aside0.mk A100
    clear A100
    by_cases c11 : t308 = true
    ·subst c11
     have H1 : (if (rdOf ByteArray.empty l0 0).toList = ([99, 97, 108, 108] : List UInt8) then (if (t307.length : Int) = 6 then (if 0 < (t307.length : Int) then (if 1 < (t307.length : Int) then (if 2 < (t307.length : Int) then (if 3 < (t307.length : Int) then (if 4 < (t307.length : Int) then (if 5 < (t307.length : Int) then (impl_eventOf.j3 k t307 6 1 (rd t307 0) 0 (rd t307 1) (rd t307 2) (([(⟨0, rd t307 3⟩ : S98), (⟨0, rd t307 4⟩ : S98), (⟨0, rd t307 5⟩ : S98)] : List (S98))) (⟨#[]⟩ : ByteArray)) else (none)) else (none)) else (none)) else (none)) else (none)) else (none)) else (impl_eventOf.j3 k t307 6 0 0 0 0 0 ([] : List (S98)) (⟨#[]⟩ : ByteArray))) else (if (rdOf ByteArray.empty l0 0).toList = ([115, 97, 118, 101] : List UInt8) then (impl_eventOf.j0 k l0 t307 1 (rdOf ByteArray.empty l0 0) ((rdOf ByteArray.empty l0 0).toList == ([115, 97, 118, 101] : List UInt8)) 0 0 0 0 0 (⟨#[]⟩ : ByteArray)) else (impl_eventOf.j0 k l0 t307 1 (rdOf ByteArray.empty l0 0) ((rdOf ByteArray.empty l0 0).toList == ([102, 97, 108, 108] : List UInt8)) 0 0 0 0 0 (⟨#[]⟩ : ByteArray)))) = some (r1, r2, r3, r4, r5, r6, r7, r8) := by rw [if_pos rfl] at H; exact H
     clear H
     have H := H1
     clear H1
     have HC12 := Aside0.mk H
     clear H
     go_enter Try.func47, Try.ntmps47
     go_upto_block 0 with (first | ((with_reducible refine gate_dst (N := 2) rfl ?_); refine box_event ?hg (N := 2) ?hd (cs := #[.int .i64 0, .int .i64 0, .int .i64 0, .int .i64 0, .int .i64 0, .slice none 0 0, .string (⟨#[]⟩ : ByteArray)]) (t := 69) ?hr ?_; (case hd => rfl); (case hg => rfl); (case hr => first | (go_simp; done) | (go_simp; rfl)); intro gb294 hg w13 hbox hb; have n0_ := Aside0.mk (below_step (by repeat (first | (with_reducible first | exact HB.out | apply below_alloc | apply pw_below_drewN | apply below_drew1) | exact HB.out)) hb); have n1_ := Aside0.mk (hbox); have n2_ := Aside0.mk ((by rw [hg]; exact (below_size (by repeat (first | (with_reducible first | exact HB.out | apply below_alloc | apply pw_below_drewN | apply below_drew1) | exact HB.out))) : w.heap.size ≤ gb294)); have n3_ := Aside0.mk ((by rw [hg]; exact (below_size (by repeat (first | (with_reducible first | exact HB.out | apply below_alloc | apply pw_below_drewN | apply below_drew1) | exact HB.out))) : w.heap.size ≤ gb294)); clear HB; have HB := n0_; have BK294 := n1_; have GW294 := n2_; have GE294 := n3_; clear n0_ n1_ n2_ n3_; clear hb hbox hg; have p295 : 0 ≤ (0 : Int) := (by omega); have q295 : 0 < (l0.length : Int) := of_decide_eq_true (by first | (with_reducible assumption) | assumption); obtain ⟨ad295, e295, hx295_0⟩ := Kd.at_string HR0.out 0 p295 q295; cases e295; have qi295 : (0 < l0.length) = True := eq_true (by omega); (try rw [show ((0 : Int)).toNat = 0 from rfl] at hx295_0); (try rw [Addr.add_zero'] at hx295_0); replace hx295_0 := (HB.out.cell (World.block_lt_of_cell? w _ hx295_0)).trans hx295_0; replace p295 := eq_true p295; replace q295 := eq_true q295; obtain ⟨i014, hi014, _, hsz14, _⟩ := info_parts info9; obtain ⟨A14, hcut14, hA14, hC14⟩ := print_drop_of (P := Try.prog) Value.string (⟨#[]⟩ : ByteArray) 62 9 .i64 Try.underlying62 hi014 hsz14 (some ad295) c0 l0 1 (by omega) (of_decide_eq_true (by first | (with_reducible assumption) | assumption)) HC0.out; have HR306 := Aside0.mk (Kd.C_of_reads (h1 := fun _ => rfl) (hA14 _ (Kd.reads_of_C HR0.out))); have HC306 := Aside0.mk hC14; clear hA14 hC14 hi014 hsz14) | ((with_reducible refine gate_callee (f := 46) rfl ?_); refine goesL_ (some 19) rfl rfl Try.func46 (by kernel_rfl) rfl #[.slice A14 (l0.drop 1).length (c0 - 1)] rfl (by (try simp only [List.map_toArray, List.map_cons, List.map_nil]); first | done | (rw [show (l0.drop 1).length = (l0.length - 1) from List.length_drop] <;> rfl) | rfl | (simp only [List.length_drop, List.length_take]; rfl)) ?_; (with_reducible refine (impl_numbersOf.calls k _ _ (l0.drop 1) t307 true _ ?side1 ?side2 A10.out).mono ?_); (case side1 => repeat (first | exact (Kd.C_below HR306.out HB.out) | exact HR306.out | (with_reducible refine Kd.C_alloc ?_ _) | (with_reducible refine Kd.C_drewN ?_ _) | (with_reducible refine Kd.C_drew ?_))); (case side2 => exact HC306.out); rintro e w15 ⟨v309, rfl, ho0, hb⟩; refine ⟨_, rfl, ?_⟩; have n0_ := Aside0.mk (Kd.R_lower ho0 (below_size (by repeat (first | (with_reducible first | exact HB.out | apply below_alloc | apply pw_below_drewN | apply below_drew1 | refine below_set ?_ GE294.out) | exact HB.out)))); have n1_ := Aside0.mk (blk_below (g := gb294) (o := .cells #[.int .i64 0, .int .i64 0, .int .i64 0, .int .i64 0, .int .i64 0, .slice none 0 0, .string (⟨#[]⟩ : ByteArray)] 69 (0, 0)) (by (with_reducible repeat (first | refine blk_drewN ?_ _ | refine blk_drew ?_ | refine blk_alloc ?_ _)); exact BK294.out) hb); have n2_ := Aside0.mk (below_step (by repeat (first | (with_reducible first | exact HB.out | apply below_alloc | apply pw_below_drewN | apply below_drew1 | refine below_set ?_ GE294.out) | exact HB.out)) hb); clear BK294; clear HB; have HO310 := n0_; have BK294 := n1_; have HB := n2_; clear n0_ n1_ n2_; (try clear hb); (try clear hb2); (try clear hk); (try clear hi); (try clear ho0)) | ((with_reducible refine gate_dst (N := 6) rfl ?_); refine box_event ?hg (N := 6) ?hd (cs := #[.int .i64 0, .int .i64 0, .int .i64 0, .int .i64 0, .int .i64 0, .slice none 0 0, .string (⟨#[]⟩ : ByteArray)]) (t := 69) ?hr ?_; (case hd => rfl); (case hg => rfl); (case hr => first | (go_simp; done) | (go_simp; rfl)); intro gb311 hg w16 hbox hb; have n0_ := Aside0.mk (Kd.R_below (by (with_reducible repeat (first | apply Kd.R_alloc | apply Kd.R_drewN | apply Kd.R_drew)); exact HO310.out) hb); have n1_ := Aside0.mk (blk_below (g := gb294) (o := .cells #[.int .i64 0, .int .i64 0, .int .i64 0, .int .i64 0, .int .i64 0, .slice none 0 0, .string (⟨#[]⟩ : ByteArray)] 69 (0, 0)) (by (with_reducible repeat (first | refine blk_drewN ?_ _ | refine blk_drew ?_ | refine blk_alloc ?_ _)); exact BK294.out) hb); have n2_ := Aside0.mk (below_step (by repeat (first | (with_reducible first | exact HB.out | apply below_alloc | apply pw_below_drewN | apply below_drew1 | refine below_set ?_ GE294.out) | exact HB.out)) hb); have n3_ := Aside0.mk (hbox); have n4_ := Aside0.mk ((by rw [hg]; exact (below_size (by repeat (first | (with_reducible first | exact HB.out | apply below_alloc | apply pw_below_drewN | apply below_drew1 | refine below_set ?_ GE294.out) | exact HB.out))) : w.heap.size ≤ gb311)); have n5_ := Aside0.mk ((by rw [hg]; exact (below_size (by repeat (first | (with_reducible first | exact HB.out | apply below_alloc | apply pw_below_drewN | apply below_drew1 | refine below_set ?_ GE294.out) | exact HB.out))) : w.heap.size ≤ gb311)); have n6_ := Aside0.mk ((by rw [hg]; exact Nat.ne_of_lt (blk_lt (g := gb294) (o := .cells #[.int .i64 0, .int .i64 0, .int .i64 0, .int .i64 0, .int .i64 0, .slice none 0 0, .string (⟨#[]⟩ : ByteArray)] 69 (0, 0)) (by (with_reducible repeat (first | refine blk_drewN ?_ _ | refine blk_drew ?_ | refine blk_alloc ?_ _)); exact BK294.out)) : gb294 ≠ gb311)); have n7_ := Aside0.mk ((by rw [hg]; exact Nat.ne_of_gt (blk_lt (g := gb294) (o := .cells #[.int .i64 0, .int .i64 0, .int .i64 0, .int .i64 0, .int .i64 0, .slice none 0 0, .string (⟨#[]⟩ : ByteArray)] 69 (0, 0)) (by (with_reducible repeat (first | refine blk_drewN ?_ _ | refine blk_drew ?_ | refine blk_alloc ?_ _)); exact BK294.out)) : gb311 ≠ gb294)); clear HO310; clear BK294; clear HB; have HO310 := n0_; have BK294 := n1_; have HB := n2_; have BK311 := n3_; have GW311 := n4_; have GE311 := n5_; have NB294_311 := n6_; have NB311_294 := n7_; clear n0_ n1_ n2_ n3_ n4_ n5_ n6_ n7_; clear hb hbox hg; have hnb17 := NB311_294.out; have hnc17 := NB294_311.out; have hcz18_0 : w16.cell? ⟨gb311, 0, none⟩ = some (.int .i64 0) := (blk_cell BK311.out 0).trans rfl; have hcz18_1 : w16.cell? ⟨gb311, 1, none⟩ = some (.int .i64 0) := (blk_cell BK311.out 1).trans rfl; have hcz18_2 : w16.cell? ⟨gb311, 2, none⟩ = some (.int .i64 0) := (blk_cell BK311.out 2).trans rfl; have hcz18_3 : w16.cell? ⟨gb311, 3, none⟩ = some (.int .i64 0) := (blk_cell BK311.out 3).trans rfl; have hcz18_4 : w16.cell? ⟨gb311, 4, none⟩ = some (.int .i64 0) := (blk_cell BK311.out 4).trans rfl; have hcz18_5 : w16.cell? ⟨gb311, 5, none⟩ = some (.slice none 0 0) := (blk_cell BK311.out 5).trans rfl; have hcz18_6 : w16.cell? ⟨gb311, 6, none⟩ = some (.string (⟨#[]⟩ : ByteArray)) := (blk_cell BK311.out 6).trans rfl; have hfz18_0 := blk_frozen BK311.out 0; have hfz18_1 := blk_frozen BK311.out 1; have hfz18_2 := blk_frozen BK311.out 2; have hfz18_3 := blk_frozen BK311.out 3; have hfz18_4 := blk_frozen BK311.out 4; have hfz18_5 := blk_frozen BK311.out 5; have hfz18_6 := blk_frozen BK311.out 6; have p312 : 0 ≤ (0 : Int) := (by omega); have q312 : 0 < (l0.length : Int) := of_decide_eq_true (by first | (with_reducible assumption) | assumption); obtain ⟨ad312, e312, hx312_0⟩ := Kd.at_string HR0.out 0 p312 q312; obtain rfl : ad295 = ad312 := (by injection e312); have qi312 : (0 < l0.length) = True := eq_true (by omega); (try rw [show ((0 : Int)).toNat = 0 from rfl] at hx312_0); (try rw [Addr.add_zero'] at hx312_0); have hn312_0 : ad295.block ≠ gb311 := Nat.ne_of_lt (Nat.lt_of_lt_of_le (by have := World.block_lt_of_cell? _ _ hx312_0; first | rwa [add_block] at this | exact this) GW311.out); have hn312_1 : ad295.block ≠ gb311 := Nat.ne_of_lt (Nat.lt_of_lt_of_le (by have := World.block_lt_of_cell? _ _ hx312_0; first | rwa [add_block] at this | exact this) GW311.out); have hn312_2 : ad295.block ≠ gb311 := Nat.ne_of_lt (Nat.lt_of_lt_of_le (by have := World.block_lt_of_cell? _ _ hx312_0; first | rwa [add_block] at this | exact this) GW311.out); have hn312_3 : ad295.block ≠ gb311 := Nat.ne_of_lt (Nat.lt_of_lt_of_le (by have := World.block_lt_of_cell? _ _ hx312_0; first | rwa [add_block] at this | exact this) GW311.out); have hn312_4 : ad295.block ≠ gb311 := Nat.ne_of_lt (Nat.lt_of_lt_of_le (by have := World.block_lt_of_cell? _ _ hx312_0; first | rwa [add_block] at this | exact this) GW311.out); have hn312_5 : ad295.block ≠ gb311 := Nat.ne_of_lt (Nat.lt_of_lt_of_le (by have := World.block_lt_of_cell? _ _ hx312_0; first | rwa [add_block] at this | exact this) GW311.out); have hn312_6 : ad295.block ≠ gb311 := Nat.ne_of_lt (Nat.lt_of_lt_of_le (by have := World.block_lt_of_cell? _ _ hx312_0; first | rwa [add_block] at this | exact this) GW311.out); replace hx312_0 := (HB.out.cell (World.block_lt_of_cell? w _ hx312_0)).trans hx312_0; replace hx312_0 := (cell_far (p := ⟨gb311, 0, none⟩) (by first | (rw [add_block]; exact hn312_0) | (show (Addr.add _ _).block ≠ _; rw [add_block]; exact hn312_0) | exact hn312_0) (.int .i64 0)).trans hx312_0; replace hx312_0 := (cell_far (p := ⟨gb311, 1, none⟩) (by first | (rw [add_block]; exact hn312_1) | (show (Addr.add _ _).block ≠ _; rw [add_block]; exact hn312_1) | exact hn312_1) (.int .i64 0)).trans hx312_0; replace hx312_0 := (cell_far (p := ⟨gb311, 2, none⟩) (by first | (rw [add_block]; exact hn312_2) | (show (Addr.add _ _).block ≠ _; rw [add_block]; exact hn312_2) | exact hn312_2) (.int .i64 0)).trans hx312_0; replace hx312_0 := (cell_far (p := ⟨gb311, 3, none⟩) (by first | (rw [add_block]; exact hn312_3) | (show (Addr.add _ _).block ≠ _; rw [add_block]; exact hn312_3) | exact hn312_3) (.int .i64 0)).trans hx312_0; replace hx312_0 := (cell_far (p := ⟨gb311, 4, none⟩) (by first | (rw [add_block]; exact hn312_4) | (show (Addr.add _ _).block ≠ _; rw [add_block]; exact hn312_4) | exact hn312_4) (.int .i64 0)).trans hx312_0; replace hx312_0 := (cell_far (p := ⟨gb311, 5, none⟩) (by first | (rw [add_block]; exact hn312_5) | (show (Addr.add _ _).block ≠ _; rw [add_block]; exact hn312_5) | exact hn312_5) (.slice none 0 0)).trans hx312_0; replace hx312_0 := (cell_far (p := ⟨gb311, 6, none⟩) (by first | (rw [add_block]; exact hn312_6) | (show (Addr.add _ _).block ≠ _; rw [add_block]; exact hn312_6) | exact hn312_6) (.string (⟨#[]⟩ : ByteArray))).trans hx312_0; clear hn312_0; clear hn312_1; clear hn312_2; clear hn312_3; clear hn312_4; clear hn312_5; clear hn312_6; replace p312 := eq_true p312; replace q312 := eq_true q312))
     (try simp only [Act.put, List.setIfInBounds_toArray, List.set_cons_zero, List.set_cons_succ])
     go_cut [7] (fun v7 wc => ∃ (kq : Nat) (x7_11 : Int) (x312000_11 : Int) (x312001_11 : Int) (x312002_11 : Int) (x312003_11 : Int) (x312004_11 : Int) (x312005_11 : List (S98)) (x312006_11 : ByteArray) (u312005 : Value), v7 = .int .i64 x7_11 ∧ Aside0 (impl_eventOf.j3 kq t307 x7_11 x312000_11 x312001_11 x312002_11 x312003_11 x312004_11 x312005_11 x312006_11 = some (r1, r2, r3, r4, r5, r6, r7, r8)) ∧ Aside0 (kq ≤ k) ∧ Aside0 (Kd.R (Kd.int .i64) 3 wc w.heap.size (fun _ => True) v309 t307) ∧ Aside0 (Kd.R k98 98 wc w.heap.size (fun _ => True) u312005 x312005_11) ∧ Aside0 (wc.heap[gb294]? = some (.cells #[.int .i64 0, .int .i64 0, .int .i64 0, .int .i64 0, .int .i64 0, (.slice none 0 0), .string (⟨#[]⟩ : ByteArray)] 69 (0, 0))) ∧ Aside0 (wc.heap[gb311]? = some (.cells #[.int .i64 x312000_11, .int .i64 x312001_11, .int .i64 x312002_11, .int .i64 x312003_11, .int .i64 x312004_11, u312005, .string x312006_11] 69 (0, 0))) ∧ Aside0 (Below w.heap.size w wc))
     case first =>
      have H := HC12.out
      clear HC12
      by_cases c19 : (rdOf ByteArray.empty l0 0).toList = ([99, 97, 108, 108] : List UInt8)
      ·rw [if_pos c19] at H
       have c19b0 : ((rdOf ByteArray.empty l0 0).toList == ([99, 97, 108, 108] : List UInt8)) = true := beq_iff_eq.mpr c19
       have c19b1 : ((rdOf ByteArray.empty l0 0).toList != ([99, 97, 108, 108] : List UInt8)) = false := bne_eq_false_iff_eq.mpr c19
       clear c19
       (first | rw [c19b0] | (simp only [i64_w, i32_w]; rw [c19b0]) | skip)
       by_cases c20 : (t307.length : Int) = 6
       ·rw [if_pos c20] at H
        have c20b0 : ((t307.length : Int) == 6) = true := beq_iff_eq.mpr c20
        have c20b1 : ((t307.length : Int) != 6) = false := bne_eq_false_iff_eq.mpr c20
        clear c20
        by_cases c21 : 0 < (t307.length : Int)
        ·rw [if_pos c21] at H
         have c21b0 : decide (0 < (t307.length : Int)) = true := decide_eq_true c21
         have c21b1 : decide (0 < t307.length) = true := decide_eq_true (by omega)
         clear c21
         by_cases c22 : 1 < (t307.length : Int)
         ·rw [if_pos c22] at H
          have c22b0 : decide (1 < (t307.length : Int)) = true := decide_eq_true c22
          have c22b1 : decide (1 < t307.length) = true := decide_eq_true (by omega)
          clear c22
          by_cases c23 : 2 < (t307.length : Int)
          ·rw [if_pos c23] at H
           have c23b0 : decide (2 < (t307.length : Int)) = true := decide_eq_true c23
           have c23b1 : decide (2 < t307.length) = true := decide_eq_true (by omega)
           clear c23
           by_cases c24 : 3 < (t307.length : Int)
           ·rw [if_pos c24] at H
            have c24b0 : decide (3 < (t307.length : Int)) = true := decide_eq_true c24
            have c24b1 : decide (3 < t307.length) = true := decide_eq_true (by omega)
            clear c24
            by_cases c25 : 4 < (t307.length : Int)
            ·rw [if_pos c25] at H
             have c25b0 : decide (4 < (t307.length : Int)) = true := decide_eq_true c25
             have c25b1 : decide (4 < t307.length) = true := decide_eq_true (by omega)
             clear c25
             by_cases c26 : 5 < (t307.length : Int)
             ·rw [if_pos c26] at H
              have c26b0 : decide (5 < (t307.length : Int)) = true := decide_eq_true c26
              have c26b1 : decide (5 < t307.length) = true := decide_eq_true (by omega)
              clear c26
              obtain ⟨y319, hy319⟩ : ∃ y_ : List (S98), y_ = (([(⟨0, rd t307 3⟩ : S98), (⟨0, rd t307 4⟩ : S98), (⟨0, rd t307 5⟩ : S98)] : List (S98))) := ⟨_, rfl⟩
              replace H : (impl_eventOf.j3 k t307 6 1 (rd t307 0) 0 (rd t307 1) (rd t307 2) y319 (⟨#[]⟩ : ByteArray)) = some (r1, r2, r3, r4, r5, r6, r7, r8) := by first | (rw [hy319]; with_reducible exact H) | (have H2_ := (Option.bind_some _ _).symm.trans H; rw [hy319]; with_reducible exact H2_) | (have H2_ := (Option.bind_some _ _).symm.trans H; with_reducible exact H2_) | with_reducible exact H | (rw [hy319]; exact H) | exact H
              have Ny319 := Aside0.mk hy319
              clear hy319
              have H' := Aside0.mk H
              clear H
              obtain ⟨Ao27, co27, eo27⟩ := Kd.R_slice HO310.out
              subst eo27
              try go_wp2
              have n0_ : Aside0 (Kd.R (Kd.int .i64) 3 (((((((w16.setCell ⟨gb311, 0, none⟩ (.int .i64 0)).setCell ⟨gb311, 1, none⟩ (.int .i64 0)).setCell ⟨gb311, 2, none⟩ (.int .i64 0)).setCell ⟨gb311, 3, none⟩ (.int .i64 0)).setCell ⟨gb311, 4, none⟩ (.int .i64 0)).setCell ⟨gb311, 5, none⟩ (.slice none 0 0)).setCell ⟨gb311, 6, none⟩ (.string (⟨#[]⟩ : ByteArray))) w.heap.size (fun _ => True) (.slice Ao27 t307.length co27) t307) := ⟨by (with_reducible repeat (first | apply Kd.R_alloc | apply Kd.R_drewN | apply Kd.R_drew)); exact Kd.R_mono (Kd.R_far (p := ⟨gb311, 6, none⟩) (Kd.R_far (p := ⟨gb311, 5, none⟩) (Kd.R_far (p := ⟨gb311, 4, none⟩) (Kd.R_far (p := ⟨gb311, 3, none⟩) (Kd.R_far (p := ⟨gb311, 2, none⟩) (Kd.R_far (p := ⟨gb311, 1, none⟩) (Kd.R_far (p := ⟨gb311, 0, none⟩) (Kd.R_types HO310.out BK311.out (by decide)) (fun _ hk => hk.2) (.int .i64 0)) (fun _ hk => hk.2) (.int .i64 0)) (fun _ hk => hk.2) (.int .i64 0)) (fun _ hk => hk.2) (.int .i64 0)) (fun _ hk => hk.2) (.int .i64 0)) (fun _ hk => hk.2) (.slice none 0 0)) (fun _ hk => hk.2) (.string (⟨#[]⟩ : ByteArray))) (fun _ hk => trivial)⟩
              have n1_ : Aside0 ((((((((w16.setCell ⟨gb311, 0, none⟩ (.int .i64 0)).setCell ⟨gb311, 1, none⟩ (.int .i64 0)).setCell ⟨gb311, 2, none⟩ (.int .i64 0)).setCell ⟨gb311, 3, none⟩ (.int .i64 0)).setCell ⟨gb311, 4, none⟩ (.int .i64 0)).setCell ⟨gb311, 5, none⟩ (.slice none 0 0)).setCell ⟨gb311, 6, none⟩ (.string (⟨#[]⟩ : ByteArray))).heap[gb294]? = some (.cells #[.int .i64 0, .int .i64 0, .int .i64 0, .int .i64 0, .int .i64 0, .slice none 0 0, .string (⟨#[]⟩ : ByteArray)] 69 (0, 0))) := ⟨by (with_reducible repeat (first | refine blk_drewN ?_ _ | refine blk_drew ?_ | refine blk_alloc ?_ _)); refine blk_far ?_ NB294_311.out _; (with_reducible repeat (first | refine blk_drewN ?_ _ | refine blk_drew ?_ | refine blk_alloc ?_ _)); refine blk_far ?_ NB294_311.out _; (with_reducible repeat (first | refine blk_drewN ?_ _ | refine blk_drew ?_ | refine blk_alloc ?_ _)); refine blk_far ?_ NB294_311.out _; (with_reducible repeat (first | refine blk_drewN ?_ _ | refine blk_drew ?_ | refine blk_alloc ?_ _)); refine blk_far ?_ NB294_311.out _; (with_reducible repeat (first | refine blk_drewN ?_ _ | refine blk_drew ?_ | refine blk_alloc ?_ _)); refine blk_far ?_ NB294_311.out _; (with_reducible repeat (first | refine blk_drewN ?_ _ | refine blk_drew ?_ | refine blk_alloc ?_ _)); refine blk_far ?_ NB294_311.out _; (with_reducible repeat (first | refine blk_drewN ?_ _ | refine blk_drew ?_ | refine blk_alloc ?_ _)); refine blk_far ?_ NB294_311.out _; (with_reducible repeat (first | refine blk_drewN ?_ _ | refine blk_drew ?_ | refine blk_alloc ?_ _)); exact BK294.out⟩
              have n2_ : Aside0 ((((((((w16.setCell ⟨gb311, 0, none⟩ (.int .i64 0)).setCell ⟨gb311, 1, none⟩ (.int .i64 0)).setCell ⟨gb311, 2, none⟩ (.int .i64 0)).setCell ⟨gb311, 3, none⟩ (.int .i64 0)).setCell ⟨gb311, 4, none⟩ (.int .i64 0)).setCell ⟨gb311, 5, none⟩ (.slice none 0 0)).setCell ⟨gb311, 6, none⟩ (.string (⟨#[]⟩ : ByteArray))).heap[gb311]? = some (.cells #[.int .i64 0, .int .i64 0, .int .i64 0, .int .i64 0, .int .i64 0, .slice none 0 0, .string (⟨#[]⟩ : ByteArray)] 69 (0, 0))) := ⟨by (with_reducible repeat (first | refine blk_drewN ?_ _ | refine blk_drew ?_ | refine blk_alloc ?_ _)); refine blk_put (cs := #[.int .i64 0, .int .i64 0, .int .i64 0, .int .i64 0, .int .i64 0, .slice none 0 0, .string (⟨#[]⟩ : ByteArray)]) ?_ 6 _ rfl; (with_reducible repeat (first | refine blk_drewN ?_ _ | refine blk_drew ?_ | refine blk_alloc ?_ _)); refine blk_put (cs := #[.int .i64 0, .int .i64 0, .int .i64 0, .int .i64 0, .int .i64 0, .slice none 0 0, .string (⟨#[]⟩ : ByteArray)]) ?_ 5 _ rfl; (with_reducible repeat (first | refine blk_drewN ?_ _ | refine blk_drew ?_ | refine blk_alloc ?_ _)); refine blk_put (cs := #[.int .i64 0, .int .i64 0, .int .i64 0, .int .i64 0, .int .i64 0, .slice none 0 0, .string (⟨#[]⟩ : ByteArray)]) ?_ 4 _ rfl; (with_reducible repeat (first | refine blk_drewN ?_ _ | refine blk_drew ?_ | refine blk_alloc ?_ _)); refine blk_put (cs := #[.int .i64 0, .int .i64 0, .int .i64 0, .int .i64 0, .int .i64 0, .slice none 0 0, .string (⟨#[]⟩ : ByteArray)]) ?_ 3 _ rfl; (with_reducible repeat (first | refine blk_drewN ?_ _ | refine blk_drew ?_ | refine blk_alloc ?_ _)); refine blk_put (cs := #[.int .i64 0, .int .i64 0, .int .i64 0, .int .i64 0, .int .i64 0, .slice none 0 0, .string (⟨#[]⟩ : ByteArray)]) ?_ 2 _ rfl; (with_reducible repeat (first | refine blk_drewN ?_ _ | refine blk_drew ?_ | refine blk_alloc ?_ _)); refine blk_put (cs := #[.int .i64 0, .int .i64 0, .int .i64 0, .int .i64 0, .int .i64 0, .slice none 0 0, .string (⟨#[]⟩ : ByteArray)]) ?_ 1 _ rfl; (with_reducible repeat (first | refine blk_drewN ?_ _ | refine blk_drew ?_ | refine blk_alloc ?_ _)); refine blk_put (cs := #[.int .i64 0, .int .i64 0, .int .i64 0, .int .i64 0, .int .i64 0, .slice none 0 0, .string (⟨#[]⟩ : ByteArray)]) ?_ 0 _ rfl; (with_reducible repeat (first | refine blk_drewN ?_ _ | refine blk_drew ?_ | refine blk_alloc ?_ _)); exact BK311.out⟩
              have n3_ : Aside0 (Below w.heap.size w (((((((w16.setCell ⟨gb311, 0, none⟩ (.int .i64 0)).setCell ⟨gb311, 1, none⟩ (.int .i64 0)).setCell ⟨gb311, 2, none⟩ (.int .i64 0)).setCell ⟨gb311, 3, none⟩ (.int .i64 0)).setCell ⟨gb311, 4, none⟩ (.int .i64 0)).setCell ⟨gb311, 5, none⟩ (.slice none 0 0)).setCell ⟨gb311, 6, none⟩ (.string (⟨#[]⟩ : ByteArray)))) := ⟨by repeat (first | (with_reducible first | exact HB.out | apply below_alloc | apply pw_below_drewN | apply below_drew1 | refine below_set ?_ GE294.out | refine below_set ?_ GE311.out) | exact HB.out)⟩
              (try clear HO310)
              (try clear BK294)
              (try clear BK311)
              (try clear HB)
              generalize (((((((w16.setCell ⟨gb311, 0, none⟩ (.int .i64 0)).setCell ⟨gb311, 1, none⟩ (.int .i64 0)).setCell ⟨gb311, 2, none⟩ (.int .i64 0)).setCell ⟨gb311, 3, none⟩ (.int .i64 0)).setCell ⟨gb311, 4, none⟩ (.int .i64 0)).setCell ⟨gb311, 5, none⟩ (.slice none 0 0)).setCell ⟨gb311, 6, none⟩ (.string (⟨#[]⟩ : ByteArray))) = w28 at n0_ n1_ n2_ n3_ ⊢
              have HO310 := n0_
              have BK294 := n1_
              have BK311 := n2_
              have HB := n3_
              clear n0_ n1_ n2_ n3_
              have n0_ := Aside0.mk (Kd.R_drew HO310.out)
              have n1_ := Aside0.mk (blk_drew BK294.out)
              have n2_ := Aside0.mk (blk_drew BK311.out)
              have n3_ := Aside0.mk (below_drew1 HB.out)
              clear HO310
              clear BK294
              clear BK311
              clear HB
              have HO310 := n0_
              have BK294 := n1_
              have BK311 := n2_
              have HB := n3_
              clear n0_ n1_ n2_ n3_
              have p313 : 0 ≤ (0 : Int) := (by omega)
              have q313 : 0 < (t307.length : Int) := of_decide_eq_true (by first | (with_reducible assumption) | assumption)
              obtain ⟨ad313, e313, hx313_0⟩ := Kd.at_int (Kd.R_reads' HO310.out).2.2 0 p313 q313
              cases e313
              have qi313 : (0 < t307.length) = True := eq_true (by omega)
              (try rw [show ((0 : Int)).toNat = 0 from rfl] at hx313_0)
              (try rw [Addr.add_zero'] at hx313_0)
              replace p313 := eq_true p313
              replace q313 := eq_true q313
              have p314 : 0 ≤ (1 : Int) := (by omega)
              have q314 : 1 < (t307.length : Int) := of_decide_eq_true (by first | (with_reducible assumption) | assumption)
              obtain ⟨ad314, e314, hx314_0⟩ := Kd.at_int (Kd.R_reads' HO310.out).2.2 1 p314 q314
              obtain rfl : ad313 = ad314 := (by injection e314)
              (try simp only [show (1 : Int).toNat = 1 from rfl, Nat.reduceMul, Nat.reduceEqDiff, Go.Addr.add, ↓reduceIte] at hx314_0)
              have qi314 : (1 < t307.length) = True := eq_true (by omega)
              (try rw [show ((1 : Int)).toNat = 1 from rfl] at hx314_0)
              replace p314 := eq_true p314
              replace q314 := eq_true q314
              have p315 : 0 ≤ (2 : Int) := (by omega)
              have q315 : 2 < (t307.length : Int) := of_decide_eq_true (by first | (with_reducible assumption) | assumption)
              obtain ⟨ad315, e315, hx315_0⟩ := Kd.at_int (Kd.R_reads' HO310.out).2.2 2 p315 q315
              obtain rfl : ad313 = ad315 := (by injection e315)
              (try simp only [show (2 : Int).toNat = 2 from rfl, Nat.reduceMul, Nat.reduceEqDiff, Go.Addr.add, ↓reduceIte] at hx315_0)
              have qi315 : (2 < t307.length) = True := eq_true (by omega)
              (try rw [show ((2 : Int)).toNat = 2 from rfl] at hx315_0)
              replace p315 := eq_true p315
              replace q315 := eq_true q315
              have p316 : 0 ≤ (3 : Int) := (by omega)
              have q316 : 3 < (t307.length : Int) := of_decide_eq_true (by first | (with_reducible assumption) | assumption)
              obtain ⟨ad316, e316, hx316_0⟩ := Kd.at_int (Kd.R_reads' HO310.out).2.2 3 p316 q316
              obtain rfl : ad313 = ad316 := (by injection e316)
              (try simp only [show (3 : Int).toNat = 3 from rfl, Nat.reduceMul, Nat.reduceEqDiff, Go.Addr.add, ↓reduceIte] at hx316_0)
              have qi316 : (3 < t307.length) = True := eq_true (by omega)
              (try rw [show ((3 : Int)).toNat = 3 from rfl] at hx316_0)
              replace p316 := eq_true p316
              replace q316 := eq_true q316
              have p317 : 0 ≤ (4 : Int) := (by omega)
              have q317 : 4 < (t307.length : Int) := of_decide_eq_true (by first | (with_reducible assumption) | assumption)
              obtain ⟨ad317, e317, hx317_0⟩ := Kd.at_int (Kd.R_reads' HO310.out).2.2 4 p317 q317
              obtain rfl : ad313 = ad317 := (by injection e317)
              (try simp only [show (4 : Int).toNat = 4 from rfl, Nat.reduceMul, Nat.reduceEqDiff, Go.Addr.add, ↓reduceIte] at hx317_0)
              have qi317 : (4 < t307.length) = True := eq_true (by omega)
              (try rw [show ((4 : Int)).toNat = 4 from rfl] at hx317_0)
              replace p317 := eq_true p317
              replace q317 := eq_true q317
              have p318 : 0 ≤ (5 : Int) := (by omega)
              have q318 : 5 < (t307.length : Int) := of_decide_eq_true (by first | (with_reducible assumption) | assumption)
              obtain ⟨ad318, e318, hx318_0⟩ := Kd.at_int (Kd.R_reads' HO310.out).2.2 5 p318 q318
              obtain rfl : ad313 = ad318 := (by injection e318)
              (try simp only [show (5 : Int).toNat = 5 from rfl, Nat.reduceMul, Nat.reduceEqDiff, Go.Addr.add, ↓reduceIte] at hx318_0)
              have qi318 : (5 < t307.length) = True := eq_true (by omega)
              (try rw [show ((5 : Int)).toNat = 5 from rfl] at hx318_0)
              replace p318 := eq_true p318
              replace q318 := eq_true q318
              refine start_ (n := 25) (S := fun w' => w'.cell? ad313 = some (.int .i64 (rd t307 0)) ∧ w'.cell? ⟨ad313.block, ad313.off + 1, none⟩ = some (.int .i64 (rd t307 1)) ∧ w'.cell? ⟨ad313.block, ad313.off + 2, none⟩ = some (.int .i64 (rd t307 2)) ∧ w'.cell? ⟨ad313.block, ad313.off + 3, none⟩ = some (.int .i64 (rd t307 3)) ∧ w'.cell? ⟨ad313.block, ad313.off + 4, none⟩ = some (.int .i64 (rd t307 4)) ∧ w'.cell? ⟨ad313.block, ad313.off + 5, none⟩ = some (.int .i64 (rd t307 5))) (ds := []) #[false, false, false, false, false, false, false, false, false, false, false, false, false, false, false, false, false, false, false, false, false, false, false, false, false] (by kernel_rfl) rfl rfl ⟨hx313_0, hx314_0, hx315_0, hx316_0, hx317_0, hx318_0⟩ (fun hHeld => ?_); refine with_tabW impl_eventOf.tab14 impl_eventOf.bits14 (fun HT_ HW_ => ?_)
              generalize w28.drew = w29 at HO310 BK294 BK311 HB hx313_0 hx314_0 hx315_0 hx316_0 hx317_0 hx318_0 hHeld ⊢
              refine pure_ (i := 0) (N := some 46) (v := ?_) (a' := ?_) #[true, false, false, false, false, false, false, false, false, false, false, false, false, false, false, false, false, false, false, false, false, false, false, false, false] rfl rfl (any_of HT_.out (by kernel_rfl)) (fun _ _ _ h => h) (Or.inl ⟨by rfl, ?_⟩) ?_ ?_
              rotate_left
              ·intro w'
               go_simp
               with_reducible rfl
              rotate_left
              ·simp only [Act.put, List.setIfInBounds_toArray, List.set_cons_zero, List.set_cons_succ, i64_w, i32_w]
               rfl
              refine pure_ (i := 1) (N := some 47) (v := ?_) (a' := ?_) #[true, true, false, false, false, false, false, false, false, false, false, false, false, false, false, false, false, false, false, false, false, false, false, false, false] rfl rfl (any_of HT_.out (by kernel_rfl)) (fun _ _ _ h => h) (Or.inl ⟨by rfl, ?_⟩) ?_ ?_
              rotate_left
              ·intro w'
               go_simp
               with_reducible rfl
              rotate_left
              ·simp only [Act.put, List.setIfInBounds_toArray, List.set_cons_zero, List.set_cons_succ, i64_w, i32_w]
               rfl
              refine pure_ (i := 3) (N := some 49) (v := ?_) (a' := ?_) #[true, true, false, true, false, false, false, false, false, false, false, false, false, false, false, false, false, false, false, false, false, false, false, false, false] rfl rfl (any_of HT_.out (by kernel_rfl)) (fun _ _ _ h => h) (Or.inl ⟨by rfl, ?_⟩) ?_ ?_
              rotate_left
              ·intro w'
               go_simp
               with_reducible rfl
              rotate_left
              ·simp only [Act.put, List.setIfInBounds_toArray, List.set_cons_zero, List.set_cons_succ, i64_w, i32_w]
               rfl
              refine pure_ (i := 4) (N := some 50) (v := ?_) (a' := ?_) #[true, true, false, true, true, false, false, false, false, false, false, false, false, false, false, false, false, false, false, false, false, false, false, false, false] rfl rfl (any_of HT_.out (by kernel_rfl)) (fun _ _ _ h => h) (Or.inl ⟨by rfl, ?_⟩) ?_ ?_
              rotate_left
              ·intro w'
               go_simp
               with_reducible rfl
              rotate_left
              ·simp only [Act.put, List.setIfInBounds_toArray, List.set_cons_zero, List.set_cons_succ, i64_w, i32_w]
               rfl
              refine pure_ (i := 6) (N := some 52) (v := ?_) (a' := ?_) #[true, true, false, true, true, false, true, false, false, false, false, false, false, false, false, false, false, false, false, false, false, false, false, false, false] rfl rfl (any_of HT_.out (by kernel_rfl)) (fun _ _ _ h => h) (Or.inl ⟨by rfl, ?_⟩) ?_ ?_
              rotate_left
              ·intro w'
               go_simp
               with_reducible rfl
              rotate_left
              ·simp only [Act.put, List.setIfInBounds_toArray, List.set_cons_zero, List.set_cons_succ, i64_w, i32_w]
               rfl
              refine pure_ (i := 7) (N := some 53) (v := ?_) (a' := ?_) #[true, true, false, true, true, false, true, true, false, false, false, false, false, false, false, false, false, false, false, false, false, false, false, false, false] rfl rfl (any_of HT_.out (by kernel_rfl)) (fun _ _ _ h => h) (Or.inl ⟨by rfl, ?_⟩) ?_ ?_
              rotate_left
              ·intro w'
               go_simp
               with_reducible rfl
              rotate_left
              ·simp only [Act.put, List.setIfInBounds_toArray, List.set_cons_zero, List.set_cons_succ, i64_w, i32_w]
               rfl
              refine pure_ (i := 9) (N := some 55) (v := ?_) (a' := ?_) #[true, true, false, true, true, false, true, true, false, true, false, false, false, false, false, false, false, false, false, false, false, false, false, false, false] rfl rfl (any_of HT_.out (by kernel_rfl)) (fun _ _ _ h => h) (Or.inl ⟨by rfl, ?_⟩) ?_ ?_
              rotate_left
              ·intro w'
               go_simp
               with_reducible rfl
              rotate_left
              ·simp only [Act.put, List.setIfInBounds_toArray, List.set_cons_zero, List.set_cons_succ, i64_w, i32_w]
               rfl
              refine pure_ (i := 10) (N := some 56) (v := ?_) (a' := ?_) #[true, true, false, true, true, false, true, true, false, true, true, false, false, false, false, false, false, false, false, false, false, false, false, false, false] rfl rfl (any_of HT_.out (by kernel_rfl)) (fun _ _ _ h => h) (Or.inl ⟨by rfl, ?_⟩) ?_ ?_
              rotate_left
              ·intro w'
               go_simp
               with_reducible rfl
              rotate_left
              ·simp only [Act.put, List.setIfInBounds_toArray, List.set_cons_zero, List.set_cons_succ, i64_w, i32_w]
               rfl
              refine pure_ (i := 13) (N := some 59) (v := ?_) (a' := ?_) #[true, true, false, true, true, false, true, true, false, true, true, false, false, true, false, false, false, false, false, false, false, false, false, false, false] rfl rfl (any_of HT_.out (by kernel_rfl)) (fun _ _ _ h => h) (Or.inl ⟨by rfl, ?_⟩) ?_ ?_
              rotate_left
              ·intro w'
               go_simp
               with_reducible rfl
              rotate_left
              ·simp only [Act.put, List.setIfInBounds_toArray, List.set_cons_zero, List.set_cons_succ, i64_w, i32_w]
               rfl
              refine pure_ (i := 14) (N := some 60) (v := ?_) (a' := ?_) #[true, true, false, true, true, false, true, true, false, true, true, false, false, true, true, false, false, false, false, false, false, false, false, false, false] rfl rfl (any_of HT_.out (by kernel_rfl)) (fun _ _ _ h => h) (Or.inl ⟨by rfl, ?_⟩) ?_ ?_
              rotate_left
              ·intro w'
               go_simp
               with_reducible rfl
              rotate_left
              ·simp only [Act.put, List.setIfInBounds_toArray, List.set_cons_zero, List.set_cons_succ, i64_w, i32_w]
               rfl
              refine pure_ (i := 17) (N := some 63) (v := ?_) (a' := ?_) #[true, true, false, true, true, false, true, true, false, true, true, false, false, true, true, false, false, true, false, false, false, false, false, false, false] rfl rfl (any_of HT_.out (by kernel_rfl)) (fun _ _ _ h => h) (Or.inl ⟨by rfl, ?_⟩) ?_ ?_
              rotate_left
              ·intro w'
               go_simp
               with_reducible rfl
              rotate_left
              ·simp only [Act.put, List.setIfInBounds_toArray, List.set_cons_zero, List.set_cons_succ, i64_w, i32_w]
               rfl
              refine pure_ (i := 18) (N := some 64) (v := ?_) (a' := ?_) #[true, true, false, true, true, false, true, true, false, true, true, false, false, true, true, false, false, true, true, false, false, false, false, false, false] rfl rfl (any_of HT_.out (by kernel_rfl)) (fun _ _ _ h => h) (Or.inl ⟨by rfl, ?_⟩) ?_ ?_
              rotate_left
              ·intro w'
               go_simp
               with_reducible rfl
              rotate_left
              ·simp only [Act.put, List.setIfInBounds_toArray, List.set_cons_zero, List.set_cons_succ, i64_w, i32_w]
               rfl
              refine take_ (i := 2) (N := some 48) (v := ?_) (a' := ?_) #[true, true, true, true, true, false, true, true, false, true, true, false, false, true, true, false, false, true, true, false, false, false, false, false, false] rfl rfl (take_ofW HT_.out HW_.out (by kernel_rfl)) (fun _ _ _ h => h) (Or.inl ⟨by rfl, ?_⟩) hHeld ?_ ?_
              rotate_left
              ·rintro w' ⟨s0, s1, s2, s3, s4, s5⟩
               go_simp
               with_reducible rfl
              rotate_left
              ·simp only [Act.put, List.setIfInBounds_toArray, List.set_cons_zero, List.set_cons_succ, i64_w, i32_w]
               rfl
              refine take_ (i := 5) (N := some 51) (v := ?_) (a' := ?_) #[true, true, true, true, true, true, true, true, false, true, true, false, false, true, true, false, false, true, true, false, false, false, false, false, false] rfl rfl (take_ofW HT_.out HW_.out (by kernel_rfl)) (fun _ _ _ h => h) (Or.inl ⟨by rfl, ?_⟩) hHeld ?_ ?_
              rotate_left
              ·rintro w' ⟨s0, s1, s2, s3, s4, s5⟩
               go_simp
               with_reducible rfl
              rotate_left
              ·simp only [Act.put, List.setIfInBounds_toArray, List.set_cons_zero, List.set_cons_succ, i64_w, i32_w]
               rfl
              refine take_ (i := 8) (N := some 54) (v := ?_) (a' := ?_) #[true, true, true, true, true, true, true, true, true, true, true, false, false, true, true, false, false, true, true, false, false, false, false, false, false] rfl rfl (take_ofW HT_.out HW_.out (by kernel_rfl)) (fun _ _ _ h => h) (Or.inl ⟨by rfl, ?_⟩) hHeld ?_ ?_
              rotate_left
              ·rintro w' ⟨s0, s1, s2, s3, s4, s5⟩
               go_simp
               with_reducible rfl
              rotate_left
              ·simp only [Act.put, List.setIfInBounds_toArray, List.set_cons_zero, List.set_cons_succ, i64_w, i32_w]
               rfl
              refine take_ (i := 11) (N := some 57) (v := ?_) (a' := ?_) #[true, true, true, true, true, true, true, true, true, true, true, true, false, true, true, false, false, true, true, false, false, false, false, false, false] rfl rfl (take_ofW HT_.out HW_.out (by kernel_rfl)) (fun _ _ _ h => h) (Or.inl ⟨by rfl, ?_⟩) hHeld ?_ ?_
              rotate_left
              ·rintro w' ⟨s0, s1, s2, s3, s4, s5⟩
               go_simp
               with_reducible rfl
              rotate_left
              ·simp only [Act.put, List.setIfInBounds_toArray, List.set_cons_zero, List.set_cons_succ, i64_w, i32_w]
               rfl
              refine pure_ (i := 12) (N := some 58) (v := ?_) (a' := ?_) #[true, true, true, true, true, true, true, true, true, true, true, true, true, true, true, false, false, true, true, false, false, false, false, false, false] rfl rfl (any_of HT_.out (by kernel_rfl)) (fun _ _ _ h => h) (Or.inl ⟨by rfl, ?_⟩) ?_ ?_
              rotate_left
              ·intro w'
               go_simp
               with_reducible rfl
              rotate_left
              ·simp only [Act.put, List.setIfInBounds_toArray, List.set_cons_zero, List.set_cons_succ, i64_w, i32_w]
               rfl
              refine take_ (i := 15) (N := some 61) (v := ?_) (a' := ?_) #[true, true, true, true, true, true, true, true, true, true, true, true, true, true, true, true, false, true, true, false, false, false, false, false, false] rfl rfl (take_ofW HT_.out HW_.out (by kernel_rfl)) (fun _ _ _ h => h) (Or.inl ⟨by rfl, ?_⟩) hHeld ?_ ?_
              rotate_left
              ·rintro w' ⟨s0, s1, s2, s3, s4, s5⟩
               go_simp
               with_reducible rfl
              rotate_left
              ·simp only [Act.put, List.setIfInBounds_toArray, List.set_cons_zero, List.set_cons_succ, i64_w, i32_w]
               rfl
              refine pure_ (i := 16) (N := some 62) (v := ?_) (a' := ?_) #[true, true, true, true, true, true, true, true, true, true, true, true, true, true, true, true, true, true, true, false, false, false, false, false, false] rfl rfl (any_of HT_.out (by kernel_rfl)) (fun _ _ _ h => h) (Or.inl ⟨by rfl, ?_⟩) ?_ ?_
              rotate_left
              ·intro w'
               go_simp
               with_reducible rfl
              rotate_left
              ·simp only [Act.put, List.setIfInBounds_toArray, List.set_cons_zero, List.set_cons_succ, i64_w, i32_w]
               rfl
              refine take_ (i := 19) (N := some 65) (v := ?_) (a' := ?_) #[true, true, true, true, true, true, true, true, true, true, true, true, true, true, true, true, true, true, true, true, false, false, false, false, false] rfl rfl (take_ofW HT_.out HW_.out (by kernel_rfl)) (fun _ _ _ h => h) (Or.inl ⟨by rfl, ?_⟩) hHeld ?_ ?_
              rotate_left
              ·rintro w' ⟨s0, s1, s2, s3, s4, s5⟩
               go_simp
               with_reducible rfl
              rotate_left
              ·simp only [Act.put, List.setIfInBounds_toArray, List.set_cons_zero, List.set_cons_succ, i64_w, i32_w]
               rfl
              refine pure_ (i := 20) (N := some 66) (v := ?_) (a' := ?_) #[true, true, true, true, true, true, true, true, true, true, true, true, true, true, true, true, true, true, true, true, true, false, false, false, false] rfl rfl (any_of HT_.out (by kernel_rfl)) (fun _ _ _ h => h) (Or.inl ⟨by rfl, ?_⟩) ?_ ?_
              rotate_left
              ·intro w'
               go_simp
               with_reducible rfl
              rotate_left
              ·simp only [Act.put, List.setIfInBounds_toArray, List.set_cons_zero, List.set_cons_succ, i64_w, i32_w]
               rfl
              refine one_ (i := 21) (N := some 67) #[true, true, true, true, true, true, true, true, true, true, true, true, true, true, true, true, true, true, true, true, true, true, false, false, false] rfl rfl (one_of HT_.out (by kernel_rfl)) (by decide) (fun K hK => ?_)
              refine Kd.R_lit_step k98 _ 98 ?hg (N := 67) ?hd (xs := ([(⟨0, rd t307 3⟩ : S98), (⟨0, rd t307 4⟩ : S98), (⟨0, rd t307 5⟩ : S98)] : List (S98))) (inner := [.int .i64 0, .int .i64 (rd t307 3), .int .i64 0, .int .i64 (rd t307 4), .int .i64 0, .int .i64 (rd t307 5)]) (ok := fun _ => True) (okp := fun _ => True) ?hr ?hp (fun _ hk => hk) trivial (Below.refl _ _) (Nat.le_refl _) (by simp) ?_; (case hd => rfl); (case hg => rfl); (case hr => first | (go_simp; done) | (go_simp; rfl)); (case hp => exact (Reps.c2 (show Kd.M k98 _ _ _ (⟨0, rd t307 3⟩ : S98) [.int .i64 0, .int .i64 (rd t307 3)] from (k98_mkM _ _ _ (⟨0, rd t307 3⟩ : S98) )) (Reps.c2 (show Kd.M k98 _ _ _ (⟨0, rd t307 4⟩ : S98) [.int .i64 0, .int .i64 (rd t307 4)] from (k98_mkM _ _ _ (⟨0, rd t307 4⟩ : S98) )) (Reps.c2 (show Kd.M k98 _ _ _ (⟨0, rd t307 5⟩ : S98) [.int .i64 0, .int .i64 (rd t307 5)] from (k98_mkM _ _ _ (⟨0, rd t307 5⟩ : S98) )) (Reps.none _ _)))))
              intro v320 w30 ho31 hb hg_ hnew_
              have HS0_ := (hb.cell (World.block_lt_of_cell? _ _ (hHeld.1))).trans (hHeld.1)
              have HS1_ := (hb.cell (World.block_lt_of_cell? _ _ (hHeld.2.1))).trans (hHeld.2.1)
              have HS2_ := (hb.cell (World.block_lt_of_cell? _ _ (hHeld.2.2.1))).trans (hHeld.2.2.1)
              have HS3_ := (hb.cell (World.block_lt_of_cell? _ _ (hHeld.2.2.2.1))).trans (hHeld.2.2.2.1)
              have HS4_ := (hb.cell (World.block_lt_of_cell? _ _ (hHeld.2.2.2.2.1))).trans (hHeld.2.2.2.2.1)
              have HS5_ := (hb.cell (World.block_lt_of_cell? _ _ (hHeld.2.2.2.2.2))).trans (hHeld.2.2.2.2.2)
              clear hg_ hnew_
              (first | rw [← Ny319.out] at ho31 | (simp only [Int.reduceToNat] at ho31; rw [← Ny319.out] at ho31))
              have n0_ := Aside0.mk (Kd.R_below (by (with_reducible repeat (first | apply Kd.R_alloc | apply Kd.R_drewN | apply Kd.R_drew)); exact HO310.out) hb)
              have n1_ := Aside0.mk (Kd.R_lower ho31 (below_size (by repeat (first | (with_reducible first | exact HB.out | apply below_alloc | apply pw_below_drewN | apply below_drew1 | refine below_set ?_ GE294.out | refine below_set ?_ GE311.out) | exact HB.out))))
              have n2_ := Aside0.mk (blk_below (g := gb294) (o := .cells #[.int .i64 0, .int .i64 0, .int .i64 0, .int .i64 0, .int .i64 0, .slice none 0 0, .string (⟨#[]⟩ : ByteArray)] 69 (0, 0)) (by (with_reducible repeat (first | refine blk_drewN ?_ _ | refine blk_drew ?_ | refine blk_alloc ?_ _)); exact BK294.out) hb)
              have n3_ := Aside0.mk (blk_below (g := gb311) (o := .cells #[.int .i64 0, .int .i64 0, .int .i64 0, .int .i64 0, .int .i64 0, .slice none 0 0, .string (⟨#[]⟩ : ByteArray)] 69 (0, 0)) (by (with_reducible repeat (first | refine blk_drewN ?_ _ | refine blk_drew ?_ | refine blk_alloc ?_ _)); exact BK311.out) hb)
              have n4_ := Aside0.mk (below_step (by repeat (first | (with_reducible first | exact HB.out | apply below_alloc | apply pw_below_drewN | apply below_drew1 | refine below_set ?_ GE294.out | refine below_set ?_ GE311.out) | exact HB.out)) hb)
              clear HO310
              clear BK294
              clear BK311
              clear HB
              have HO310 := n0_
              have HO321 := n1_
              have BK294 := n2_
              have BK311 := n3_
              have HB := n4_
              clear n0_ n1_ n2_ n3_ n4_
              clear hb ho31
              obtain ⟨Ao32, co32, eo32⟩ := Kd.R_slice HO321.out
              (first | subst eo32 | (injection eo32 with f1_ f2_ f3_; have f4_ := f1_.symm; have f5_ := f3_.symm; clear f1_ f2_ f3_; subst f4_; subst f5_))
              refine hK.out _ _ ⟨HS0_, HS1_, HS2_, HS3_, HS4_, HS5_⟩ (fun hHeld => ?_)
              clear hK K
              refine norm_ (a' := ?_) ?_ ?_
              rotate_left
              ·show Act.put _ (some 67) _ = _
               simp only [Act.put, List.setIfInBounds_toArray, List.set_cons_zero, List.set_cons_succ, i64_w, i32_w]
               rfl
              refine pure_ (i := 22) (N := some 68) (v := ?_) (a' := ?_) #[true, true, true, true, true, true, true, true, true, true, true, true, true, true, true, true, true, true, true, true, true, true, true, false, false] rfl rfl (any_of HT_.out (by kernel_rfl)) (fun _ _ _ h => h) (Or.inl ⟨by rfl, ?_⟩) ?_ ?_
              rotate_left
              ·intro w'
               go_simp
               with_reducible rfl
              rotate_left
              ·simp only [Act.put, List.setIfInBounds_toArray, List.set_cons_zero, List.set_cons_succ, i64_w, i32_w]
               rfl
              refine pure_ (i := 23) (N := some 69) (v := ?_) (a' := ?_) #[true, true, true, true, true, true, true, true, true, true, true, true, true, true, true, true, true, true, true, true, true, true, true, true, false] rfl rfl (any_of HT_.out (by kernel_rfl)) (fun _ _ _ h => h) (Or.inl ⟨by rfl, ?_⟩) ?_ ?_
              rotate_left
              ·intro w'
               go_simp
               with_reducible rfl
              rotate_left
              ·simp only [Act.put, List.setIfInBounds_toArray, List.set_cons_zero, List.set_cons_succ, i64_w, i32_w]
               rfl
              refine one_ (i := 24) (N := none) #[true, true, true, true, true, true, true, true, true, true, true, true, true, true, true, true, true, true, true, true, true, true, true, true, true] rfl rfl (one_of HT_.out (by kernel_rfl)) (by decide) (fun K hK => ?_)
              have hs33 : w30.cell? ⟨gb311, 0, none⟩ = some (.int .i64 0) := (blk_cell BK311.out 0).trans rfl
              have hfs33 := blk_frozen BK311.out 0
              have hns33_0 := NB294_311.out
              have hms33_0 := NB311_294.out
              have hs34 : w30.cell? ⟨gb311, 1, none⟩ = some (.int .i64 0) := (blk_cell BK311.out 1).trans rfl
              have hfs34 := blk_frozen BK311.out 1
              have hns34_0 := NB294_311.out
              have hms34_0 := NB311_294.out
              have hs35 : w30.cell? ⟨gb311, 2, none⟩ = some (.int .i64 0) := (blk_cell BK311.out 2).trans rfl
              have hfs35 := blk_frozen BK311.out 2
              have hns35_0 := NB294_311.out
              have hms35_0 := NB311_294.out
              have hs36 : w30.cell? ⟨gb311, 3, none⟩ = some (.int .i64 0) := (blk_cell BK311.out 3).trans rfl
              have hfs36 := blk_frozen BK311.out 3
              have hns36_0 := NB294_311.out
              have hms36_0 := NB311_294.out
              have hs37 : w30.cell? ⟨gb311, 4, none⟩ = some (.int .i64 0) := (blk_cell BK311.out 4).trans rfl
              have hfs37 := blk_frozen BK311.out 4
              have hns37_0 := NB294_311.out
              have hms37_0 := NB311_294.out
              have hs38 : w30.cell? ⟨gb311, 5, none⟩ = some (.slice none 0 0) := (blk_cell BK311.out 5).trans rfl
              have hfs38 := blk_frozen BK311.out 5
              have hns38_0 := NB294_311.out
              have hms38_0 := NB311_294.out
              have hs39 : w30.cell? ⟨gb311, 6, none⟩ = some (.string (⟨#[]⟩ : ByteArray)) := (blk_cell BK311.out 6).trans rfl
              have hfs39 := blk_frozen BK311.out 6
              have hns39_0 := NB294_311.out
              have hms39_0 := NB311_294.out
              refine skip_ (w1 := ?_) (by rfl) rfl ?_ ?_
              rotate_left
              ·go_simp
               rfl
              have hA0_ : ad313.block ≠ gb311 := Kd.own_blk (Kd.R_ne HO310.out BK311.out (by decide))
              refine hK.out _ _ ⟨((cell_far (p := ⟨gb311, _, none⟩) (by exact hA0_) _).trans (((cell_far (p := ⟨gb311, _, none⟩) (by exact hA0_) _).trans (((cell_far (p := ⟨gb311, _, none⟩) (by exact hA0_) _).trans (((cell_far (p := ⟨gb311, _, none⟩) (by exact hA0_) _).trans (((cell_far (p := ⟨gb311, _, none⟩) (by exact hA0_) _).trans (((cell_far (p := ⟨gb311, _, none⟩) (by exact hA0_) _).trans (((cell_far (p := ⟨gb311, _, none⟩) (by exact hA0_) _).trans (hHeld.1)))))))))))))), ((cell_far (p := ⟨gb311, _, none⟩) (by exact hA0_) _).trans (((cell_far (p := ⟨gb311, _, none⟩) (by exact hA0_) _).trans (((cell_far (p := ⟨gb311, _, none⟩) (by exact hA0_) _).trans (((cell_far (p := ⟨gb311, _, none⟩) (by exact hA0_) _).trans (((cell_far (p := ⟨gb311, _, none⟩) (by exact hA0_) _).trans (((cell_far (p := ⟨gb311, _, none⟩) (by exact hA0_) _).trans (((cell_far (p := ⟨gb311, _, none⟩) (by exact hA0_) _).trans (hHeld.2.1)))))))))))))), ((cell_far (p := ⟨gb311, _, none⟩) (by exact hA0_) _).trans (((cell_far (p := ⟨gb311, _, none⟩) (by exact hA0_) _).trans (((cell_far (p := ⟨gb311, _, none⟩) (by exact hA0_) _).trans (((cell_far (p := ⟨gb311, _, none⟩) (by exact hA0_) _).trans (((cell_far (p := ⟨gb311, _, none⟩) (by exact hA0_) _).trans (((cell_far (p := ⟨gb311, _, none⟩) (by exact hA0_) _).trans (((cell_far (p := ⟨gb311, _, none⟩) (by exact hA0_) _).trans (hHeld.2.2.1)))))))))))))), ((cell_far (p := ⟨gb311, _, none⟩) (by exact hA0_) _).trans (((cell_far (p := ⟨gb311, _, none⟩) (by exact hA0_) _).trans (((cell_far (p := ⟨gb311, _, none⟩) (by exact hA0_) _).trans (((cell_far (p := ⟨gb311, _, none⟩) (by exact hA0_) _).trans (((cell_far (p := ⟨gb311, _, none⟩) (by exact hA0_) _).trans (((cell_far (p := ⟨gb311, _, none⟩) (by exact hA0_) _).trans (((cell_far (p := ⟨gb311, _, none⟩) (by exact hA0_) _).trans (hHeld.2.2.2.1)))))))))))))), ((cell_far (p := ⟨gb311, _, none⟩) (by exact hA0_) _).trans (((cell_far (p := ⟨gb311, _, none⟩) (by exact hA0_) _).trans (((cell_far (p := ⟨gb311, _, none⟩) (by exact hA0_) _).trans (((cell_far (p := ⟨gb311, _, none⟩) (by exact hA0_) _).trans (((cell_far (p := ⟨gb311, _, none⟩) (by exact hA0_) _).trans (((cell_far (p := ⟨gb311, _, none⟩) (by exact hA0_) _).trans (((cell_far (p := ⟨gb311, _, none⟩) (by exact hA0_) _).trans (hHeld.2.2.2.2.1)))))))))))))), ((cell_far (p := ⟨gb311, _, none⟩) (by exact hA0_) _).trans (((cell_far (p := ⟨gb311, _, none⟩) (by exact hA0_) _).trans (((cell_far (p := ⟨gb311, _, none⟩) (by exact hA0_) _).trans (((cell_far (p := ⟨gb311, _, none⟩) (by exact hA0_) _).trans (((cell_far (p := ⟨gb311, _, none⟩) (by exact hA0_) _).trans (((cell_far (p := ⟨gb311, _, none⟩) (by exact hA0_) _).trans (((cell_far (p := ⟨gb311, _, none⟩) (by exact hA0_) _).trans (hHeld.2.2.2.2.2))))))))))))))⟩ (fun hHeld => ?_)
              clear hK K
              refine done_ (done_of HT_.out (by kernel_rfl)) ?_
              try go_wp2
              go_meet
              case rel => exact ⟨_, (6), (1), (rd t307 0), (0), (rd t307 1), (rd t307 2), (y319), ((⟨#[]⟩ : ByteArray)), (.slice Ao32 y319.length co32), (by first | rfl | (simp; done) | (simp [*]; done)), H', ⟨by first | omega | exact Nat.le_refl _⟩, ⟨by (with_reducible repeat (first | apply Kd.R_alloc | apply Kd.R_drewN | apply Kd.R_drew)); exact Kd.R_mono (Kd.R_far (p := ⟨gb311, 6, none⟩) (Kd.R_far (p := ⟨gb311, 5, none⟩) (Kd.R_far (p := ⟨gb311, 4, none⟩) (Kd.R_far (p := ⟨gb311, 3, none⟩) (Kd.R_far (p := ⟨gb311, 2, none⟩) (Kd.R_far (p := ⟨gb311, 1, none⟩) (Kd.R_far (p := ⟨gb311, 0, none⟩) (Kd.R_types HO310.out BK311.out (by decide)) (fun _ hk => hk.2) (.int .i64 1)) (fun _ hk => hk.2) (.int .i64 (rd t307 0))) (fun _ hk => hk.2) (.int .i64 0)) (fun _ hk => hk.2) (.int .i64 (rd t307 1))) (fun _ hk => hk.2) (.int .i64 (rd t307 2))) (fun _ hk => hk.2) (.slice Ao32 y319.length co32)) (fun _ hk => hk.2) (.string (⟨#[]⟩ : ByteArray))) (fun _ hk => trivial)⟩, ⟨by (with_reducible repeat (first | apply Kd.R_alloc | apply Kd.R_drewN | apply Kd.R_drew)); exact Kd.R_mono (Kd.R_far (p := ⟨gb311, 6, none⟩) (Kd.R_far (p := ⟨gb311, 5, none⟩) (Kd.R_far (p := ⟨gb311, 4, none⟩) (Kd.R_far (p := ⟨gb311, 3, none⟩) (Kd.R_far (p := ⟨gb311, 2, none⟩) (Kd.R_far (p := ⟨gb311, 1, none⟩) (Kd.R_far (p := ⟨gb311, 0, none⟩) (Kd.R_types HO321.out BK311.out (by decide)) (fun _ hk => hk.2) (.int .i64 1)) (fun _ hk => hk.2) (.int .i64 (rd t307 0))) (fun _ hk => hk.2) (.int .i64 0)) (fun _ hk => hk.2) (.int .i64 (rd t307 1))) (fun _ hk => hk.2) (.int .i64 (rd t307 2))) (fun _ hk => hk.2) (.slice Ao32 y319.length co32)) (fun _ hk => hk.2) (.string (⟨#[]⟩ : ByteArray))) (fun _ hk => trivial)⟩, ⟨by (with_reducible repeat (first | refine blk_drewN ?_ _ | refine blk_drew ?_ | refine blk_alloc ?_ _)); refine blk_far ?_ NB294_311.out _; (with_reducible repeat (first | refine blk_drewN ?_ _ | refine blk_drew ?_ | refine blk_alloc ?_ _)); refine blk_far ?_ NB294_311.out _; (with_reducible repeat (first | refine blk_drewN ?_ _ | refine blk_drew ?_ | refine blk_alloc ?_ _)); refine blk_far ?_ NB294_311.out _; (with_reducible repeat (first | refine blk_drewN ?_ _ | refine blk_drew ?_ | refine blk_alloc ?_ _)); refine blk_far ?_ NB294_311.out _; (with_reducible repeat (first | refine blk_drewN ?_ _ | refine blk_drew ?_ | refine blk_alloc ?_ _)); refine blk_far ?_ NB294_311.out _; (with_reducible repeat (first | refine blk_drewN ?_ _ | refine blk_drew ?_ | refine blk_alloc ?_ _)); refine blk_far ?_ NB294_311.out _; (with_reducible repeat (first | refine blk_drewN ?_ _ | refine blk_drew ?_ | refine blk_alloc ?_ _)); refine blk_far ?_ NB294_311.out _; (with_reducible repeat (first | refine blk_drewN ?_ _ | refine blk_drew ?_ | refine blk_alloc ?_ _)); exact BK294.out⟩, ⟨by (with_reducible repeat (first | refine blk_drewN ?_ _ | refine blk_drew ?_ | refine blk_alloc ?_ _)); refine blk_put (cs := #[.int .i64 1, .int .i64 (rd t307 0), .int .i64 0, .int .i64 (rd t307 1), .int .i64 (rd t307 2), .slice Ao32 y319.length co32, .string (⟨#[]⟩ : ByteArray)]) ?_ 6 _ rfl; (with_reducible repeat (first | refine blk_drewN ?_ _ | refine blk_drew ?_ | refine blk_alloc ?_ _)); refine blk_put (cs := #[.int .i64 1, .int .i64 (rd t307 0), .int .i64 0, .int .i64 (rd t307 1), .int .i64 (rd t307 2), .slice none 0 0, .string (⟨#[]⟩ : ByteArray)]) ?_ 5 _ rfl; (with_reducible repeat (first | refine blk_drewN ?_ _ | refine blk_drew ?_ | refine blk_alloc ?_ _)); refine blk_put (cs := #[.int .i64 1, .int .i64 (rd t307 0), .int .i64 0, .int .i64 (rd t307 1), .int .i64 0, .slice none 0 0, .string (⟨#[]⟩ : ByteArray)]) ?_ 4 _ rfl; (with_reducible repeat (first | refine blk_drewN ?_ _ | refine blk_drew ?_ | refine blk_alloc ?_ _)); refine blk_put (cs := #[.int .i64 1, .int .i64 (rd t307 0), .int .i64 0, .int .i64 0, .int .i64 0, .slice none 0 0, .string (⟨#[]⟩ : ByteArray)]) ?_ 3 _ rfl; (with_reducible repeat (first | refine blk_drewN ?_ _ | refine blk_drew ?_ | refine blk_alloc ?_ _)); refine blk_put (cs := #[.int .i64 1, .int .i64 (rd t307 0), .int .i64 0, .int .i64 0, .int .i64 0, .slice none 0 0, .string (⟨#[]⟩ : ByteArray)]) ?_ 2 _ rfl; (with_reducible repeat (first | refine blk_drewN ?_ _ | refine blk_drew ?_ | refine blk_alloc ?_ _)); refine blk_put (cs := #[.int .i64 1, .int .i64 0, .int .i64 0, .int .i64 0, .int .i64 0, .slice none 0 0, .string (⟨#[]⟩ : ByteArray)]) ?_ 1 _ rfl; (with_reducible repeat (first | refine blk_drewN ?_ _ | refine blk_drew ?_ | refine blk_alloc ?_ _)); refine blk_put (cs := #[.int .i64 0, .int .i64 0, .int .i64 0, .int .i64 0, .int .i64 0, .slice none 0 0, .string (⟨#[]⟩ : ByteArray)]) ?_ 0 _ rfl; (with_reducible repeat (first | refine blk_drewN ?_ _ | refine blk_drew ?_ | refine blk_alloc ?_ _)); exact BK311.out⟩, ⟨by repeat (first | (with_reducible first | exact HB.out | apply below_alloc | apply pw_below_drewN | apply below_drew1 | refine below_set ?_ GE294.out | refine below_set ?_ GE311.out) | exact HB.out)⟩⟩
             ·rw [if_neg c26] at H
              exact absurd H (by simp)
            ·rw [if_neg c25] at H
             exact absurd H (by simp)
           ·rw [if_neg c24] at H
            exact absurd H (by simp)
          ·rw [if_neg c23] at H
           exact absurd H (by simp)
         ·rw [if_neg c22] at H
          exact absurd H (by simp)
        ·rw [if_neg c21] at H
         exact absurd H (by simp)
       ·rw [if_neg c20] at H
        have c20b0 : ((t307.length : Int) == 6) = false := beq_eq_false_iff_ne.mpr c20
        have c20b1 : ((t307.length : Int) != 6) = true := bne_iff_ne.mpr c20
        have H' := Aside0.mk H
        clear H
        obtain ⟨Ao40, co40, eo40⟩ := Kd.R_slice HO310.out
        subst eo40
        go_wp2
        go_meet
        case rel => exact ⟨_, (6), (0), (0), (0), (0), (0), (([] : List (S98))), ((⟨#[]⟩ : ByteArray)), (.slice none 0 0), (by first | rfl | (simp; done) | (simp [*]; done)), H', ⟨by first | omega | exact Nat.le_refl _⟩, ⟨by (with_reducible repeat (first | apply Kd.R_alloc | apply Kd.R_drewN | apply Kd.R_drew)); exact Kd.R_mono (Kd.R_far (p := ⟨gb311, 6, none⟩) (Kd.R_far (p := ⟨gb311, 5, none⟩) (Kd.R_far (p := ⟨gb311, 4, none⟩) (Kd.R_far (p := ⟨gb311, 3, none⟩) (Kd.R_far (p := ⟨gb311, 2, none⟩) (Kd.R_far (p := ⟨gb311, 1, none⟩) (Kd.R_far (p := ⟨gb311, 0, none⟩) (Kd.R_types HO310.out BK311.out (by decide)) (fun _ hk => hk.2) (.int .i64 0)) (fun _ hk => hk.2) (.int .i64 0)) (fun _ hk => hk.2) (.int .i64 0)) (fun _ hk => hk.2) (.int .i64 0)) (fun _ hk => hk.2) (.int .i64 0)) (fun _ hk => hk.2) (.slice none 0 0)) (fun _ hk => hk.2) (.string (⟨#[]⟩ : ByteArray))) (fun _ hk => trivial)⟩, ⟨by first | exact Kd.R_nil _ _ _ _ _ | exact Kd.N_nil _ _ _ _ _ | exact Kd.V_nil _ _ _ _ _ | exact Kd.Q_nil _ _ _ _ _ | exact Kd.S_nil _ _ _ _ _⟩, ⟨by (with_reducible repeat (first | refine blk_drewN ?_ _ | refine blk_drew ?_ | refine blk_alloc ?_ _)); refine blk_far ?_ NB294_311.out _; (with_reducible repeat (first | refine blk_drewN ?_ _ | refine blk_drew ?_ | refine blk_alloc ?_ _)); refine blk_far ?_ NB294_311.out _; (with_reducible repeat (first | refine blk_drewN ?_ _ | refine blk_drew ?_ | refine blk_alloc ?_ _)); refine blk_far ?_ NB294_311.out _; (with_reducible repeat (first | refine blk_drewN ?_ _ | refine blk_drew ?_ | refine blk_alloc ?_ _)); refine blk_far ?_ NB294_311.out _; (with_reducible repeat (first | refine blk_drewN ?_ _ | refine blk_drew ?_ | refine blk_alloc ?_ _)); refine blk_far ?_ NB294_311.out _; (with_reducible repeat (first | refine blk_drewN ?_ _ | refine blk_drew ?_ | refine blk_alloc ?_ _)); refine blk_far ?_ NB294_311.out _; (with_reducible repeat (first | refine blk_drewN ?_ _ | refine blk_drew ?_ | refine blk_alloc ?_ _)); refine blk_far ?_ NB294_311.out _; (with_reducible repeat (first | refine blk_drewN ?_ _ | refine blk_drew ?_ | refine blk_alloc ?_ _)); exact BK294.out⟩, ⟨by (with_reducible repeat (first | refine blk_drewN ?_ _ | refine blk_drew ?_ | refine blk_alloc ?_ _)); refine blk_put (cs := #[.int .i64 0, .int .i64 0, .int .i64 0, .int .i64 0, .int .i64 0, .slice none 0 0, .string (⟨#[]⟩ : ByteArray)]) ?_ 6 _ rfl; (with_reducible repeat (first | refine blk_drewN ?_ _ | refine blk_drew ?_ | refine blk_alloc ?_ _)); refine blk_put (cs := #[.int .i64 0, .int .i64 0, .int .i64 0, .int .i64 0, .int .i64 0, .slice none 0 0, .string (⟨#[]⟩ : ByteArray)]) ?_ 5 _ rfl; (with_reducible repeat (first | refine blk_drewN ?_ _ | refine blk_drew ?_ | refine blk_alloc ?_ _)); refine blk_put (cs := #[.int .i64 0, .int .i64 0, .int .i64 0, .int .i64 0, .int .i64 0, .slice none 0 0, .string (⟨#[]⟩ : ByteArray)]) ?_ 4 _ rfl; (with_reducible repeat (first | refine blk_drewN ?_ _ | refine blk_drew ?_ | refine blk_alloc ?_ _)); refine blk_put (cs := #[.int .i64 0, .int .i64 0, .int .i64 0, .int .i64 0, .int .i64 0, .slice none 0 0, .string (⟨#[]⟩ : ByteArray)]) ?_ 3 _ rfl; (with_reducible repeat (first | refine blk_drewN ?_ _ | refine blk_drew ?_ | refine blk_alloc ?_ _)); refine blk_put (cs := #[.int .i64 0, .int .i64 0, .int .i64 0, .int .i64 0, .int .i64 0, .slice none 0 0, .string (⟨#[]⟩ : ByteArray)]) ?_ 2 _ rfl; (with_reducible repeat (first | refine blk_drewN ?_ _ | refine blk_drew ?_ | refine blk_alloc ?_ _)); refine blk_put (cs := #[.int .i64 0, .int .i64 0, .int .i64 0, .int .i64 0, .int .i64 0, .slice none 0 0, .string (⟨#[]⟩ : ByteArray)]) ?_ 1 _ rfl; (with_reducible repeat (first | refine blk_drewN ?_ _ | refine blk_drew ?_ | refine blk_alloc ?_ _)); refine blk_put (cs := #[.int .i64 0, .int .i64 0, .int .i64 0, .int .i64 0, .int .i64 0, .slice none 0 0, .string (⟨#[]⟩ : ByteArray)]) ?_ 0 _ rfl; (with_reducible repeat (first | refine blk_drewN ?_ _ | refine blk_drew ?_ | refine blk_alloc ?_ _)); exact BK311.out⟩, ⟨by repeat (first | (with_reducible first | exact HB.out | apply below_alloc | apply pw_below_drewN | apply below_drew1 | refine below_set ?_ GE294.out | refine below_set ?_ GE311.out) | exact HB.out)⟩⟩
      ·rw [if_neg c19] at H
       have c19b0 : ((rdOf ByteArray.empty l0 0).toList == ([99, 97, 108, 108] : List UInt8)) = false := beq_eq_false_iff_ne.mpr c19
       have c19b1 : ((rdOf ByteArray.empty l0 0).toList != ([99, 97, 108, 108] : List UInt8)) = true := bne_iff_ne.mpr c19
       (first | rw [c19b0] | (simp only [i64_w, i32_w]; rw [c19b0]) | skip)
       have HC41 := Aside0.mk H
       clear H
       go_upto_if 70 with (fail)
       go_cut [70] (fun v70 wc => ∃ (kq : Nat) (x70_40 : Bool), v70 = .bool x70_40 ∧ Aside0 (impl_eventOf.j0 kq l0 t307 1 (rdOf ByteArray.empty l0 0) x70_40 0 0 0 0 0 (⟨#[]⟩ : ByteArray) = some (r1, r2, r3, r4, r5, r6, r7, r8)) ∧ Aside0 (kq ≤ k) ∧ Aside0 (Kd.R (Kd.int .i64) 3 wc w.heap.size (fun _ => True) v309 t307) ∧ Aside0 (wc.heap[gb294]? = some (.cells #[.int .i64 0, .int .i64 0, .int .i64 0, .int .i64 0, .int .i64 0, (.slice none 0 0), .string (⟨#[]⟩ : ByteArray)] 69 (0, 0))) ∧ Aside0 (wc.heap[gb311]? = some (.cells #[.int .i64 0, .int .i64 0, .int .i64 0, .int .i64 0, .int .i64 0, (.slice none 0 0), .string (⟨#[]⟩ : ByteArray)] 69 (0, 0))) ∧ Aside0 (Below w.heap.size w wc))
       case first =>
        have H := HC41.out
        clear HC41
        by_cases c42 : (rdOf ByteArray.empty l0 0).toList = ([115, 97, 118, 101] : List UInt8)
        ·rw [if_pos c42] at H
         have c42b0 : ((rdOf ByteArray.empty l0 0).toList == ([115, 97, 118, 101] : List UInt8)) = true := beq_iff_eq.mpr c42
         have c42b1 : ((rdOf ByteArray.empty l0 0).toList != ([115, 97, 118, 101] : List UInt8)) = false := bne_eq_false_iff_eq.mpr c42
         clear c42
         (first | rw [c42b0] | (simp only [i64_w, i32_w]; rw [c42b0]) | skip)
         have H' := Aside0.mk H
         clear H
         go_wp2
         go_meet
         case rel => exact ⟨_, (((rdOf ByteArray.empty l0 0).toList == ([115, 97, 118, 101] : List UInt8))), (by first | rfl | (simp; done) | (simp [*]; done)), H', ⟨by first | omega | exact Nat.le_refl _⟩, ⟨by (with_reducible repeat (first | apply Kd.R_alloc | apply Kd.R_drewN | apply Kd.R_drew)); exact Kd.R_mono (Kd.R_far (p := ⟨gb311, 6, none⟩) (Kd.R_far (p := ⟨gb311, 5, none⟩) (Kd.R_far (p := ⟨gb311, 4, none⟩) (Kd.R_far (p := ⟨gb311, 3, none⟩) (Kd.R_far (p := ⟨gb311, 2, none⟩) (Kd.R_far (p := ⟨gb311, 1, none⟩) (Kd.R_far (p := ⟨gb311, 0, none⟩) (Kd.R_types HO310.out BK311.out (by decide)) (fun _ hk => hk.2) (.int .i64 0)) (fun _ hk => hk.2) (.int .i64 0)) (fun _ hk => hk.2) (.int .i64 0)) (fun _ hk => hk.2) (.int .i64 0)) (fun _ hk => hk.2) (.int .i64 0)) (fun _ hk => hk.2) (.slice none 0 0)) (fun _ hk => hk.2) (.string (⟨#[]⟩ : ByteArray))) (fun _ hk => trivial)⟩, ⟨by (with_reducible repeat (first | refine blk_drewN ?_ _ | refine blk_drew ?_ | refine blk_alloc ?_ _)); refine blk_far ?_ NB294_311.out _; (with_reducible repeat (first | refine blk_drewN ?_ _ | refine blk_drew ?_ | refine blk_alloc ?_ _)); refine blk_far ?_ NB294_311.out _; (with_reducible repeat (first | refine blk_drewN ?_ _ | refine blk_drew ?_ | refine blk_alloc ?_ _)); refine blk_far ?_ NB294_311.out _; (with_reducible repeat (first | refine blk_drewN ?_ _ | refine blk_drew ?_ | refine blk_alloc ?_ _)); refine blk_far ?_ NB294_311.out _; (with_reducible repeat (first | refine blk_drewN ?_ _ | refine blk_drew ?_ | refine blk_alloc ?_ _)); refine blk_far ?_ NB294_311.out _; (with_reducible repeat (first | refine blk_drewN ?_ _ | refine blk_drew ?_ | refine blk_alloc ?_ _)); refine blk_far ?_ NB294_311.out _; (with_reducible repeat (first | refine blk_drewN ?_ _ | refine blk_drew ?_ | refine blk_alloc ?_ _)); refine blk_far ?_ NB294_311.out _; (with_reducible repeat (first | refine blk_drewN ?_ _ | refine blk_drew ?_ | refine blk_alloc ?_ _)); exact BK294.out⟩, ⟨by (with_reducible repeat (first | refine blk_drewN ?_ _ | refine blk_drew ?_ | refine blk_alloc ?_ _)); refine blk_put (cs := #[.int .i64 0, .int .i64 0, .int .i64 0, .int .i64 0, .int .i64 0, .slice none 0 0, .string (⟨#[]⟩ : ByteArray)]) ?_ 6 _ rfl; (with_reducible repeat (first | refine blk_drewN ?_ _ | refine blk_drew ?_ | refine blk_alloc ?_ _)); refine blk_put (cs := #[.int .i64 0, .int .i64 0, .int .i64 0, .int .i64 0, .int .i64 0, .slice none 0 0, .string (⟨#[]⟩ : ByteArray)]) ?_ 5 _ rfl; (with_reducible repeat (first | refine blk_drewN ?_ _ | refine blk_drew ?_ | refine blk_alloc ?_ _)); refine blk_put (cs := #[.int .i64 0, .int .i64 0, .int .i64 0, .int .i64 0, .int .i64 0, .slice none 0 0, .string (⟨#[]⟩ : ByteArray)]) ?_ 4 _ rfl; (with_reducible repeat (first | refine blk_drewN ?_ _ | refine blk_drew ?_ | refine blk_alloc ?_ _)); refine blk_put (cs := #[.int .i64 0, .int .i64 0, .int .i64 0, .int .i64 0, .int .i64 0, .slice none 0 0, .string (⟨#[]⟩ : ByteArray)]) ?_ 3 _ rfl; (with_reducible repeat (first | refine blk_drewN ?_ _ | refine blk_drew ?_ | refine blk_alloc ?_ _)); refine blk_put (cs := #[.int .i64 0, .int .i64 0, .int .i64 0, .int .i64 0, .int .i64 0, .slice none 0 0, .string (⟨#[]⟩ : ByteArray)]) ?_ 2 _ rfl; (with_reducible repeat (first | refine blk_drewN ?_ _ | refine blk_drew ?_ | refine blk_alloc ?_ _)); refine blk_put (cs := #[.int .i64 0, .int .i64 0, .int .i64 0, .int .i64 0, .int .i64 0, .slice none 0 0, .string (⟨#[]⟩ : ByteArray)]) ?_ 1 _ rfl; (with_reducible repeat (first | refine blk_drewN ?_ _ | refine blk_drew ?_ | refine blk_alloc ?_ _)); refine blk_put (cs := #[.int .i64 0, .int .i64 0, .int .i64 0, .int .i64 0, .int .i64 0, .slice none 0 0, .string (⟨#[]⟩ : ByteArray)]) ?_ 0 _ rfl; (with_reducible repeat (first | refine blk_drewN ?_ _ | refine blk_drew ?_ | refine blk_alloc ?_ _)); exact BK311.out⟩, ⟨by repeat (first | (with_reducible first | exact HB.out | apply below_alloc | apply pw_below_drewN | apply below_drew1 | refine below_set ?_ GE294.out | refine below_set ?_ GE311.out) | exact HB.out)⟩⟩
        ·rw [if_neg c42] at H
         have c42b0 : ((rdOf ByteArray.empty l0 0).toList == ([115, 97, 118, 101] : List UInt8)) = false := beq_eq_false_iff_ne.mpr c42
         have c42b1 : ((rdOf ByteArray.empty l0 0).toList != ([115, 97, 118, 101] : List UInt8)) = true := bne_iff_ne.mpr c42
         (first | rw [c42b0] | (simp only [i64_w, i32_w]; rw [c42b0]) | skip)
         have H' := Aside0.mk H
         clear H
         go_wp2
         go_meet
         case rel => exact ⟨_, (((rdOf ByteArray.empty l0 0).toList == ([102, 97, 108, 108] : List UInt8))), (by first | rfl | (simp; done) | (simp [*]; done)), H', ⟨by first | omega | exact Nat.le_refl _⟩, ⟨by (with_reducible repeat (first | apply Kd.R_alloc | apply Kd.R_drewN | apply Kd.R_drew)); exact Kd.R_mono (Kd.R_far (p := ⟨gb311, 6, none⟩) (Kd.R_far (p := ⟨gb311, 5, none⟩) (Kd.R_far (p := ⟨gb311, 4, none⟩) (Kd.R_far (p := ⟨gb311, 3, none⟩) (Kd.R_far (p := ⟨gb311, 2, none⟩) (Kd.R_far (p := ⟨gb311, 1, none⟩) (Kd.R_far (p := ⟨gb311, 0, none⟩) (Kd.R_types HO310.out BK311.out (by decide)) (fun _ hk => hk.2) (.int .i64 0)) (fun _ hk => hk.2) (.int .i64 0)) (fun _ hk => hk.2) (.int .i64 0)) (fun _ hk => hk.2) (.int .i64 0)) (fun _ hk => hk.2) (.int .i64 0)) (fun _ hk => hk.2) (.slice none 0 0)) (fun _ hk => hk.2) (.string (⟨#[]⟩ : ByteArray))) (fun _ hk => trivial)⟩, ⟨by (with_reducible repeat (first | refine blk_drewN ?_ _ | refine blk_drew ?_ | refine blk_alloc ?_ _)); refine blk_far ?_ NB294_311.out _; (with_reducible repeat (first | refine blk_drewN ?_ _ | refine blk_drew ?_ | refine blk_alloc ?_ _)); refine blk_far ?_ NB294_311.out _; (with_reducible repeat (first | refine blk_drewN ?_ _ | refine blk_drew ?_ | refine blk_alloc ?_ _)); refine blk_far ?_ NB294_311.out _; (with_reducible repeat (first | refine blk_drewN ?_ _ | refine blk_drew ?_ | refine blk_alloc ?_ _)); refine blk_far ?_ NB294_311.out _; (with_reducible repeat (first | refine blk_drewN ?_ _ | refine blk_drew ?_ | refine blk_alloc ?_ _)); refine blk_far ?_ NB294_311.out _; (with_reducible repeat (first | refine blk_drewN ?_ _ | refine blk_drew ?_ | refine blk_alloc ?_ _)); refine blk_far ?_ NB294_311.out _; (with_reducible repeat (first | refine blk_drewN ?_ _ | refine blk_drew ?_ | refine blk_alloc ?_ _)); refine blk_far ?_ NB294_311.out _; (with_reducible repeat (first | refine blk_drewN ?_ _ | refine blk_drew ?_ | refine blk_alloc ?_ _)); exact BK294.out⟩, ⟨by (with_reducible repeat (first | refine blk_drewN ?_ _ | refine blk_drew ?_ | refine blk_alloc ?_ _)); refine blk_put (cs := #[.int .i64 0, .int .i64 0, .int .i64 0, .int .i64 0, .int .i64 0, .slice none 0 0, .string (⟨#[]⟩ : ByteArray)]) ?_ 6 _ rfl; (with_reducible repeat (first | refine blk_drewN ?_ _ | refine blk_drew ?_ | refine blk_alloc ?_ _)); refine blk_put (cs := #[.int .i64 0, .int .i64 0, .int .i64 0, .int .i64 0, .int .i64 0, .slice none 0 0, .string (⟨#[]⟩ : ByteArray)]) ?_ 5 _ rfl; (with_reducible repeat (first | refine blk_drewN ?_ _ | refine blk_drew ?_ | refine blk_alloc ?_ _)); refine blk_put (cs := #[.int .i64 0, .int .i64 0, .int .i64 0, .int .i64 0, .int .i64 0, .slice none 0 0, .string (⟨#[]⟩ : ByteArray)]) ?_ 4 _ rfl; (with_reducible repeat (first | refine blk_drewN ?_ _ | refine blk_drew ?_ | refine blk_alloc ?_ _)); refine blk_put (cs := #[.int .i64 0, .int .i64 0, .int .i64 0, .int .i64 0, .int .i64 0, .slice none 0 0, .string (⟨#[]⟩ : ByteArray)]) ?_ 3 _ rfl; (with_reducible repeat (first | refine blk_drewN ?_ _ | refine blk_drew ?_ | refine blk_alloc ?_ _)); refine blk_put (cs := #[.int .i64 0, .int .i64 0, .int .i64 0, .int .i64 0, .int .i64 0, .slice none 0 0, .string (⟨#[]⟩ : ByteArray)]) ?_ 2 _ rfl; (with_reducible repeat (first | refine blk_drewN ?_ _ | refine blk_drew ?_ | refine blk_alloc ?_ _)); refine blk_put (cs := #[.int .i64 0, .int .i64 0, .int .i64 0, .int .i64 0, .int .i64 0, .slice none 0 0, .string (⟨#[]⟩ : ByteArray)]) ?_ 1 _ rfl; (with_reducible repeat (first | refine blk_drewN ?_ _ | refine blk_drew ?_ | refine blk_alloc ?_ _)); refine blk_put (cs := #[.int .i64 0, .int .i64 0, .int .i64 0, .int .i64 0, .int .i64 0, .slice none 0 0, .string (⟨#[]⟩ : ByteArray)]) ?_ 0 _ rfl; (with_reducible repeat (first | refine blk_drewN ?_ _ | refine blk_drew ?_ | refine blk_alloc ?_ _)); exact BK311.out⟩, ⟨by repeat (first | (with_reducible first | exact HB.out | apply below_alloc | apply pw_below_drewN | apply below_drew1 | refine below_set ?_ GE294.out | refine below_set ?_ GE311.out) | exact HB.out)⟩⟩
       case rest =>
        clear HC41
        try clear c1
        try clear c2
        try clear c2b0
        try clear c2b1
        try clear p2
        try clear q2
        try clear hx2
        try clear qi2
        try clear c3
        try clear c3b0
        try clear c3b1
        try clear p3
        try clear q3
        try clear hx3
        try clear qi3
        try clear c4
        try clear c9
        try clear c9b0
        try clear c9b1
        try clear c11
        try clear c17
        try clear c19
        try clear c19b0
        try clear c19b1
        try clear c20
        try clear c20b0
        try clear c20b1
        try clear c21
        try clear c21b0
        try clear c21b1
        try clear c22
        try clear c22b0
        try clear c22b1
        try clear c23
        try clear c23b0
        try clear c23b1
        try clear c24
        try clear c24b0
        try clear c24b1
        try clear c25
        try clear c25b0
        try clear c25b1
        try clear c26
        try clear c26b0
        try clear c26b1
        try clear p29
        try clear q29
        try clear hx29
        try clear qi29
        try clear p31
        try clear q31
        try clear hx31
        try clear qi31
        try clear c42
        try clear c42b0
        try clear c42b1
        try clear hcz18_0
        try clear hcz18_1
        try clear hcz18_2
        try clear hcz18_3
        try clear hcz18_4
        try clear hcz18_5
        try clear hcz18_6
        try clear hcz7_0
        try clear hcz7_1
        try clear hcz7_2
        try clear hcz7_3
        try clear hcz7_4
        try clear hcz7_5
        try clear hcz7_6
        try clear hfz18_0
        try clear hfz18_1
        try clear hfz18_2
        try clear hfz18_3
        try clear hfz18_4
        try clear hfz18_5
        try clear hfz18_6
        try clear hfz7_0
        try clear hfz7_1
        try clear hfz7_2
        try clear hfz7_3
        try clear hfz7_4
        try clear hfz7_5
        try clear hfz7_6
        try clear hx295_0
        try clear hx312_0
        try clear hx313_0
        try clear hx314_0
        try clear hx315_0
        try clear hx316_0
        try clear hx317_0
        try clear hx318_0
        try clear p295
        try clear p312
        try clear p313
        try clear p314
        try clear p315
        try clear p316
        try clear p317
        try clear p318
        try clear q295
        try clear q312
        try clear q313
        try clear q314
        try clear q315
        try clear q316
        try clear q317
        try clear q318
        obtain ⟨kq, x70_40, rfl, HA, HJ40, HO_4, BK294, BK311, HB⟩ := hcut
        cases kq with
        | zero => exact absurd HA.out (by simp [impl_eventOf.j0])
        | succ kj40 =>
         have H := HA.out
         clear HA
         simp only [impl_eventOf.j0] at H
         by_cases c43 : x70_40 = true
         ·subst c43
          have H1 : (if 0 < (l0.length : Int) then (if (rdOf ByteArray.empty l0 0).toList = ([102, 97, 108, 108] : List UInt8) then (impl_eventOf.j3 kj40 t307 0 11 0 0 0 0 ([] : List (S98)) (⟨#[]⟩ : ByteArray)) else (impl_eventOf.j3 kj40 t307 0 10 0 0 0 0 ([] : List (S98)) (⟨#[]⟩ : ByteArray))) else (none)) = some (r1, r2, r3, r4, r5, r6, r7, r8) := by rw [if_pos rfl] at H; exact H
          clear H
          have H := H1
          clear H1
          by_cases c44 : 0 < (l0.length : Int)
          ·rw [if_pos c44] at H
           have c44b0 : decide (0 < (l0.length : Int)) = true := decide_eq_true c44
           have c44b1 : decide (0 < l0.length) = true := decide_eq_true (by omega)
           clear c44
           by_cases c45 : (rdOf ByteArray.empty l0 0).toList = ([102, 97, 108, 108] : List UInt8)
           ·rw [if_pos c45] at H
            have c45b0 : ((rdOf ByteArray.empty l0 0).toList == ([102, 97, 108, 108] : List UInt8)) = true := beq_iff_eq.mpr c45
            have c45b1 : ((rdOf ByteArray.empty l0 0).toList != ([102, 97, 108, 108] : List UInt8)) = false := bne_eq_false_iff_eq.mpr c45
            clear c45
            have H' := Aside0.mk H
            clear H
            have hnb46 := NB311_294.out
            have hnc46 := NB294_311.out
            have hcz47_0 : wc.cell? ⟨gb311, 0, none⟩ = some (.int .i64 0) := (blk_cell BK311.out 0).trans rfl
            have hcz47_1 : wc.cell? ⟨gb311, 1, none⟩ = some (.int .i64 0) := (blk_cell BK311.out 1).trans rfl
            have hcz47_2 : wc.cell? ⟨gb311, 2, none⟩ = some (.int .i64 0) := (blk_cell BK311.out 2).trans rfl
            have hcz47_3 : wc.cell? ⟨gb311, 3, none⟩ = some (.int .i64 0) := (blk_cell BK311.out 3).trans rfl
            have hcz47_4 : wc.cell? ⟨gb311, 4, none⟩ = some (.int .i64 0) := (blk_cell BK311.out 4).trans rfl
            have hcz47_5 : wc.cell? ⟨gb311, 5, none⟩ = some (.slice none 0 0) := (blk_cell BK311.out 5).trans rfl
            have hcz47_6 : wc.cell? ⟨gb311, 6, none⟩ = some (.string (⟨#[]⟩ : ByteArray)) := (blk_cell BK311.out 6).trans rfl
            have hfz47_0 := blk_frozen BK311.out 0
            have hfz47_1 := blk_frozen BK311.out 1
            have hfz47_2 := blk_frozen BK311.out 2
            have hfz47_3 := blk_frozen BK311.out 3
            have hfz47_4 := blk_frozen BK311.out 4
            have hfz47_5 := blk_frozen BK311.out 5
            have hfz47_6 := blk_frozen BK311.out 6
            have p322 : 0 ≤ (0 : Int) := (by omega)
            have q322 : 0 < (l0.length : Int) := of_decide_eq_true (by first | (with_reducible assumption) | assumption)
            obtain ⟨ad322, e322, hx322_0⟩ := Kd.at_string HR0.out 0 p322 q322
            obtain rfl : ad295 = ad322 := (by injection e322)
            have qi322 : (0 < l0.length) = True := eq_true (by omega)
            (try rw [show ((0 : Int)).toNat = 0 from rfl] at hx322_0)
            (try rw [Addr.add_zero'] at hx322_0)
            have hn322_0 : ad295.block ≠ gb311 := Nat.ne_of_lt (Nat.lt_of_lt_of_le (by have := World.block_lt_of_cell? _ _ hx322_0; first | rwa [add_block] at this | exact this) GW311.out)
            replace hx322_0 := (HB.out.cell (World.block_lt_of_cell? w _ hx322_0)).trans hx322_0
            replace hx322_0 := (cell_far (p := ⟨gb311, 0, none⟩) (by first | (rw [add_block]; exact hn322_0) | (show (Addr.add _ _).block ≠ _; rw [add_block]; exact hn322_0) | exact hn322_0) (.int .i64 10)).trans hx322_0
            clear hn322_0
            replace p322 := eq_true p322
            replace q322 := eq_true q322
            go_wp2
            go_meet
            case rel => exact ⟨_, (0), (11), (0), (0), (0), (0), (([] : List (S98))), ((⟨#[]⟩ : ByteArray)), (.slice none 0 0), (by first | rfl | (simp; done) | (simp [*]; done)), H', ⟨by have := HJ40.out; first | omega | exact Nat.le_refl _⟩, ⟨by (with_reducible repeat (first | apply Kd.R_alloc | apply Kd.R_drewN | apply Kd.R_drew)); exact Kd.R_mono (Kd.R_far (p := ⟨gb311, 0, none⟩) (Kd.R_far (p := ⟨gb311, 0, none⟩) (Kd.R_types HO_4.out BK311.out (by decide)) (fun _ hk => hk.2) (.int .i64 10)) (fun _ hk => hk.2) (.int .i64 11)) (fun _ hk => trivial)⟩, ⟨by first | exact Kd.R_nil _ _ _ _ _ | exact Kd.N_nil _ _ _ _ _ | exact Kd.V_nil _ _ _ _ _ | exact Kd.Q_nil _ _ _ _ _ | exact Kd.S_nil _ _ _ _ _⟩, ⟨by (with_reducible repeat (first | refine blk_drewN ?_ _ | refine blk_drew ?_ | refine blk_alloc ?_ _)); refine blk_far ?_ NB294_311.out _; (with_reducible repeat (first | refine blk_drewN ?_ _ | refine blk_drew ?_ | refine blk_alloc ?_ _)); refine blk_far ?_ NB294_311.out _; (with_reducible repeat (first | refine blk_drewN ?_ _ | refine blk_drew ?_ | refine blk_alloc ?_ _)); exact BK294.out⟩, ⟨by (with_reducible repeat (first | refine blk_drewN ?_ _ | refine blk_drew ?_ | refine blk_alloc ?_ _)); refine blk_put (cs := #[.int .i64 10, .int .i64 0, .int .i64 0, .int .i64 0, .int .i64 0, .slice none 0 0, .string (⟨#[]⟩ : ByteArray)]) ?_ 0 _ rfl; (with_reducible repeat (first | refine blk_drewN ?_ _ | refine blk_drew ?_ | refine blk_alloc ?_ _)); refine blk_put (cs := #[.int .i64 0, .int .i64 0, .int .i64 0, .int .i64 0, .int .i64 0, .slice none 0 0, .string (⟨#[]⟩ : ByteArray)]) ?_ 0 _ rfl; (with_reducible repeat (first | refine blk_drewN ?_ _ | refine blk_drew ?_ | refine blk_alloc ?_ _)); exact BK311.out⟩, ⟨by repeat (first | (with_reducible first | exact HB.out | apply below_alloc | apply pw_below_drewN | apply below_drew1 | refine below_set ?_ GE294.out | refine below_set ?_ GE311.out) | exact HB.out)⟩⟩
           ·rw [if_neg c45] at H
            have c45b0 : ((rdOf ByteArray.empty l0 0).toList == ([102, 97, 108, 108] : List UInt8)) = false := beq_eq_false_iff_ne.mpr c45
            have c45b1 : ((rdOf ByteArray.empty l0 0).toList != ([102, 97, 108, 108] : List UInt8)) = true := bne_iff_ne.mpr c45
            have H' := Aside0.mk H
            clear H
            have hnb48 := NB311_294.out
            have hnc48 := NB294_311.out
            have hcz49_0 : wc.cell? ⟨gb311, 0, none⟩ = some (.int .i64 0) := (blk_cell BK311.out 0).trans rfl
            have hcz49_1 : wc.cell? ⟨gb311, 1, none⟩ = some (.int .i64 0) := (blk_cell BK311.out 1).trans rfl
            have hcz49_2 : wc.cell? ⟨gb311, 2, none⟩ = some (.int .i64 0) := (blk_cell BK311.out 2).trans rfl
            have hcz49_3 : wc.cell? ⟨gb311, 3, none⟩ = some (.int .i64 0) := (blk_cell BK311.out 3).trans rfl
            have hcz49_4 : wc.cell? ⟨gb311, 4, none⟩ = some (.int .i64 0) := (blk_cell BK311.out 4).trans rfl
            have hcz49_5 : wc.cell? ⟨gb311, 5, none⟩ = some (.slice none 0 0) := (blk_cell BK311.out 5).trans rfl
            have hcz49_6 : wc.cell? ⟨gb311, 6, none⟩ = some (.string (⟨#[]⟩ : ByteArray)) := (blk_cell BK311.out 6).trans rfl
            have hfz49_0 := blk_frozen BK311.out 0
            have hfz49_1 := blk_frozen BK311.out 1
            have hfz49_2 := blk_frozen BK311.out 2
            have hfz49_3 := blk_frozen BK311.out 3
            have hfz49_4 := blk_frozen BK311.out 4
            have hfz49_5 := blk_frozen BK311.out 5
            have hfz49_6 := blk_frozen BK311.out 6
            have p322 : 0 ≤ (0 : Int) := (by omega)
            have q322 : 0 < (l0.length : Int) := of_decide_eq_true (by first | (with_reducible assumption) | assumption)
            obtain ⟨ad322, e322, hx322_0⟩ := Kd.at_string HR0.out 0 p322 q322
            obtain rfl : ad295 = ad322 := (by injection e322)
            have qi322 : (0 < l0.length) = True := eq_true (by omega)
            (try rw [show ((0 : Int)).toNat = 0 from rfl] at hx322_0)
            (try rw [Addr.add_zero'] at hx322_0)
            have hn322_0 : ad295.block ≠ gb311 := Nat.ne_of_lt (Nat.lt_of_lt_of_le (by have := World.block_lt_of_cell? _ _ hx322_0; first | rwa [add_block] at this | exact this) GW311.out)
            replace hx322_0 := (HB.out.cell (World.block_lt_of_cell? w _ hx322_0)).trans hx322_0
            replace hx322_0 := (cell_far (p := ⟨gb311, 0, none⟩) (by first | (rw [add_block]; exact hn322_0) | (show (Addr.add _ _).block ≠ _; rw [add_block]; exact hn322_0) | exact hn322_0) (.int .i64 10)).trans hx322_0
            clear hn322_0
            replace p322 := eq_true p322
            replace q322 := eq_true q322
            go_wp2
            go_meet
            case rel => exact ⟨_, (0), (10), (0), (0), (0), (0), (([] : List (S98))), ((⟨#[]⟩ : ByteArray)), (.slice none 0 0), (by first | rfl | (simp; done) | (simp [*]; done)), H', ⟨by have := HJ40.out; first | omega | exact Nat.le_refl _⟩, ⟨by (with_reducible repeat (first | apply Kd.R_alloc | apply Kd.R_drewN | apply Kd.R_drew)); exact Kd.R_mono (Kd.R_far (p := ⟨gb311, 0, none⟩) (Kd.R_types HO_4.out BK311.out (by decide)) (fun _ hk => hk.2) (.int .i64 10)) (fun _ hk => trivial)⟩, ⟨by first | exact Kd.R_nil _ _ _ _ _ | exact Kd.N_nil _ _ _ _ _ | exact Kd.V_nil _ _ _ _ _ | exact Kd.Q_nil _ _ _ _ _ | exact Kd.S_nil _ _ _ _ _⟩, ⟨by (with_reducible repeat (first | refine blk_drewN ?_ _ | refine blk_drew ?_ | refine blk_alloc ?_ _)); refine blk_far ?_ NB294_311.out _; (with_reducible repeat (first | refine blk_drewN ?_ _ | refine blk_drew ?_ | refine blk_alloc ?_ _)); exact BK294.out⟩, ⟨by (with_reducible repeat (first | refine blk_drewN ?_ _ | refine blk_drew ?_ | refine blk_alloc ?_ _)); refine blk_put (cs := #[.int .i64 0, .int .i64 0, .int .i64 0, .int .i64 0, .int .i64 0, .slice none 0 0, .string (⟨#[]⟩ : ByteArray)]) ?_ 0 _ rfl; (with_reducible repeat (first | refine blk_drewN ?_ _ | refine blk_drew ?_ | refine blk_alloc ?_ _)); exact BK311.out⟩, ⟨by repeat (first | (with_reducible first | exact HB.out | apply below_alloc | apply pw_below_drewN | apply below_drew1 | refine below_set ?_ GE294.out | refine below_set ?_ GE311.out) | exact HB.out)⟩⟩
          ·rw [if_neg c44] at H
           exact absurd H (by simp)
         ·replace c43 := Bool.eq_false_iff.mpr c43
          subst c43
          have H1 : (if (rdOf ByteArray.empty l0 0).toList = ([115, 97, 121] : List UInt8) then (impl_eventOf.j1 kj40 l0 t307 1 ((rdOf ByteArray.empty l0 0).toList == ([115, 97, 121] : List UInt8)) 0 0 0 0 0 (⟨#[]⟩ : ByteArray)) else (impl_eventOf.j1 kj40 l0 t307 1 ((rdOf ByteArray.empty l0 0).toList == ([115, 112, 111, 105, 108] : List UInt8)) 0 0 0 0 0 (⟨#[]⟩ : ByteArray))) = some (r1, r2, r3, r4, r5, r6, r7, r8) := by rw [if_neg (show ¬ (false = true) by decide)] at H; exact H
          clear H
          have H := H1
          clear H1
          have HC50 := Aside0.mk H
          clear H
          go_upto_if 79 with (fail)
          go_cut [79] (fun v79 wc => ∃ (kq : Nat) (x79_49 : Bool), v79 = .bool x79_49 ∧ Aside0 (impl_eventOf.j1 kq l0 t307 1 x79_49 0 0 0 0 0 (⟨#[]⟩ : ByteArray) = some (r1, r2, r3, r4, r5, r6, r7, r8)) ∧ Aside0 (kq ≤ kj40) ∧ Aside0 (Kd.R (Kd.int .i64) 3 wc w.heap.size (fun _ => True) v309 t307) ∧ Aside0 (wc.heap[gb294]? = some (.cells #[.int .i64 0, .int .i64 0, .int .i64 0, .int .i64 0, .int .i64 0, (.slice none 0 0), .string (⟨#[]⟩ : ByteArray)] 69 (0, 0))) ∧ Aside0 (wc.heap[gb311]? = some (.cells #[.int .i64 0, .int .i64 0, .int .i64 0, .int .i64 0, .int .i64 0, (.slice none 0 0), .string (⟨#[]⟩ : ByteArray)] 69 (0, 0))) ∧ Aside0 (Below w.heap.size w wc))
          case first =>
           have H := HC50.out
           clear HC50
           by_cases c51 : (rdOf ByteArray.empty l0 0).toList = ([115, 97, 121] : List UInt8)
           ·rw [if_pos c51] at H
            have c51b0 : ((rdOf ByteArray.empty l0 0).toList == ([115, 97, 121] : List UInt8)) = true := beq_iff_eq.mpr c51
            have c51b1 : ((rdOf ByteArray.empty l0 0).toList != ([115, 97, 121] : List UInt8)) = false := bne_eq_false_iff_eq.mpr c51
            clear c51
            (first | rw [c51b0] | (simp only [i64_w, i32_w]; rw [c51b0]) | skip)
            have H' := Aside0.mk H
            clear H
            go_wp2
            go_meet
            case rel => exact ⟨_, (((rdOf ByteArray.empty l0 0).toList == ([115, 97, 121] : List UInt8))), (by first | rfl | (simp; done) | (simp [*]; done)), H', ⟨by have := HJ40.out; first | omega | exact Nat.le_refl _⟩, ⟨by (with_reducible repeat (first | apply Kd.R_alloc | apply Kd.R_drewN | apply Kd.R_drew)); exact HO_4.out⟩, ⟨by (with_reducible repeat (first | refine blk_drewN ?_ _ | refine blk_drew ?_ | refine blk_alloc ?_ _)); exact BK294.out⟩, ⟨by (with_reducible repeat (first | refine blk_drewN ?_ _ | refine blk_drew ?_ | refine blk_alloc ?_ _)); exact BK311.out⟩, ⟨by repeat (first | (with_reducible first | exact HB.out | apply below_alloc | apply pw_below_drewN | apply below_drew1 | refine below_set ?_ GE294.out | refine below_set ?_ GE311.out) | exact HB.out)⟩⟩
           ·rw [if_neg c51] at H
            have c51b0 : ((rdOf ByteArray.empty l0 0).toList == ([115, 97, 121] : List UInt8)) = false := beq_eq_false_iff_ne.mpr c51
            have c51b1 : ((rdOf ByteArray.empty l0 0).toList != ([115, 97, 121] : List UInt8)) = true := bne_iff_ne.mpr c51
            (first | rw [c51b0] | (simp only [i64_w, i32_w]; rw [c51b0]) | skip)
            have H' := Aside0.mk H
            clear H
            go_wp2
            go_meet
            case rel => exact ⟨_, (((rdOf ByteArray.empty l0 0).toList == ([115, 112, 111, 105, 108] : List UInt8))), (by first | rfl | (simp; done) | (simp [*]; done)), H', ⟨by have := HJ40.out; first | omega | exact Nat.le_refl _⟩, ⟨by (with_reducible repeat (first | apply Kd.R_alloc | apply Kd.R_drewN | apply Kd.R_drew)); exact HO_4.out⟩, ⟨by (with_reducible repeat (first | refine blk_drewN ?_ _ | refine blk_drew ?_ | refine blk_alloc ?_ _)); exact BK294.out⟩, ⟨by (with_reducible repeat (first | refine blk_drewN ?_ _ | refine blk_drew ?_ | refine blk_alloc ?_ _)); exact BK311.out⟩, ⟨by repeat (first | (with_reducible first | exact HB.out | apply below_alloc | apply pw_below_drewN | apply below_drew1 | refine below_set ?_ GE294.out | refine below_set ?_ GE311.out) | exact HB.out)⟩⟩
          case rest =>
           clear HC50
           try clear c1
           try clear c2
           try clear c2b0
           try clear c2b1
           try clear p2
           try clear q2
           try clear hx2
           try clear qi2
           try clear c3
           try clear c3b0
           try clear c3b1
           try clear p3
           try clear q3
           try clear hx3
           try clear qi3
           try clear c4
           try clear c5
           try clear c9
           try clear c9b0
           try clear c9b1
           try clear c11
           try clear c17
           try clear c19
           try clear c19b0
           try clear c19b1
           try clear c20
           try clear c20b0
           try clear c20b1
           try clear c21
           try clear c21b0
           try clear c21b1
           try clear c22
           try clear c22b0
           try clear c22b1
           try clear c23
           try clear c23b0
           try clear c23b1
           try clear c24
           try clear c24b0
           try clear c24b1
           try clear c25
           try clear c25b0
           try clear c25b1
           try clear c26
           try clear c26b0
           try clear c26b1
           try clear p29
           try clear q29
           try clear hx29
           try clear qi29
           try clear p31
           try clear q31
           try clear hx31
           try clear qi31
           try clear p32
           try clear q32
           try clear hx32
           try clear qi32
           try clear c42
           try clear c42b0
           try clear c42b1
           try clear c43
           try clear c44
           try clear c44b0
           try clear c44b1
           try clear c45
           try clear c45b0
           try clear c45b1
           try clear c46
           try clear c48
           try clear c51
           try clear c51b0
           try clear c51b1
           try clear hcz18_0
           try clear hcz18_1
           try clear hcz18_2
           try clear hcz18_3
           try clear hcz18_4
           try clear hcz18_5
           try clear hcz18_6
           try clear hcz47_0
           try clear hcz47_1
           try clear hcz47_2
           try clear hcz47_3
           try clear hcz47_4
           try clear hcz47_5
           try clear hcz47_6
           try clear hcz49_0
           try clear hcz49_1
           try clear hcz49_2
           try clear hcz49_3
           try clear hcz49_4
           try clear hcz49_5
           try clear hcz49_6
           try clear hcz7_0
           try clear hcz7_1
           try clear hcz7_2
           try clear hcz7_3
           try clear hcz7_4
           try clear hcz7_5
           try clear hcz7_6
           try clear hfz18_0
           try clear hfz18_1
           try clear hfz18_2
           try clear hfz18_3
           try clear hfz18_4
           try clear hfz18_5
           try clear hfz18_6
           try clear hfz47_0
           try clear hfz47_1
           try clear hfz47_2
           try clear hfz47_3
           try clear hfz47_4
           try clear hfz47_5
           try clear hfz47_6
           try clear hfz49_0
           try clear hfz49_1
           try clear hfz49_2
           try clear hfz49_3
           try clear hfz49_4
           try clear hfz49_5
           try clear hfz49_6
           try clear hfz7_0
           try clear hfz7_1
           try clear hfz7_2
           try clear hfz7_3
           try clear hfz7_4
           try clear hfz7_5
           try clear hfz7_6
           try clear hx295_0
           try clear hx312_0
           try clear hx313_0
           try clear hx314_0
           try clear hx315_0
           try clear hx316_0
           try clear hx317_0
           try clear hx318_0
           try clear hx322_0
           try clear p2
           try clear p29
           try clear p295
           try clear p3
           try clear p31
           try clear p312
           try clear p313
           try clear p314
           try clear p315
           try clear p316
           try clear p317
           try clear p318
           try clear p322
           try clear q2
           try clear q29
           try clear q295
           try clear q3
           try clear q31
           try clear q312
           try clear q313
           try clear q314
           try clear q315
           try clear q316
           try clear q317
           try clear q318
           try clear q322
           obtain ⟨kq, x79_49, rfl, HA, HJ49, HO_4, BK294, BK311, HB⟩ := hcut
           cases kq with
           | zero => exact absurd HA.out (by simp [impl_eventOf.j1])
           | succ kj49 =>
            have H := HA.out
            clear HA
            simp only [impl_eventOf.j1] at H
            by_cases c52 : x79_49 = true
            ·subst c52
             have H1 : (if (t307.length : Int) = 2 then (if 0 < (l0.length : Int) then (impl_eventOf.j2 kj49 t307 2 ((rdOf ByteArray.empty l0 0).toList == ([115, 97, 121] : List UInt8)) 0 0 0 0 0 (⟨#[]⟩ : ByteArray)) else (none)) else (impl_eventOf.j2 kj49 t307 2 false 0 0 0 0 0 (⟨#[]⟩ : ByteArray))) = some (r1, r2, r3, r4, r5, r6, r7, r8) := by rw [if_pos rfl] at H; exact H
             clear H
             have H := H1
             clear H1
             have HC53 := Aside0.mk H
             clear H
             go_upto_region 24 with (fail)
             go_cut [91] (fun v91 wc => ∃ (kq : Nat) (x91_52 : Bool), v91 = .bool x91_52 ∧ Aside0 (impl_eventOf.j2 kq t307 2 x91_52 0 0 0 0 0 (⟨#[]⟩ : ByteArray) = some (r1, r2, r3, r4, r5, r6, r7, r8)) ∧ Aside0 (kq ≤ kj49) ∧ Aside0 (Kd.R (Kd.int .i64) 3 wc w.heap.size (fun _ => True) v309 t307) ∧ Aside0 (wc.heap[gb294]? = some (.cells #[.int .i64 0, .int .i64 0, .int .i64 0, .int .i64 0, .int .i64 0, (.slice none 0 0), .string (⟨#[]⟩ : ByteArray)] 69 (0, 0))) ∧ Aside0 (wc.heap[gb311]? = some (.cells #[.int .i64 0, .int .i64 0, .int .i64 0, .int .i64 0, .int .i64 0, (.slice none 0 0), .string (⟨#[]⟩ : ByteArray)] 69 (0, 0))) ∧ Aside0 (Below w.heap.size w wc))
             case first =>
              have H := HC53.out
              clear HC53
              by_cases c54 : (t307.length : Int) = 2
              ·rw [if_pos c54] at H
               have c54b0 : ((t307.length : Int) == 2) = true := beq_iff_eq.mpr c54
               have c54b1 : ((t307.length : Int) != 2) = false := bne_eq_false_iff_eq.mpr c54
               clear c54
               (first | rw [c54b0] | (simp only [i64_w, i32_w]; rw [c54b0]) | skip)
               by_cases c55 : 0 < (l0.length : Int)
               ·rw [if_pos c55] at H
                have c55b0 : decide (0 < (l0.length : Int)) = true := decide_eq_true c55
                have c55b1 : decide (0 < l0.length) = true := decide_eq_true (by omega)
                clear c55
                have H' := Aside0.mk H
                clear H
                obtain ⟨Ao56, co56, eo56⟩ := Kd.R_slice HO_4.out
                subst eo56
                have p323 : 0 ≤ (0 : Int) := (by omega)
                have q323 : 0 < (l0.length : Int) := of_decide_eq_true (by first | (with_reducible assumption) | assumption)
                obtain ⟨ad323, e323, hx323_0⟩ := Kd.at_string HR0.out 0 p323 q323
                obtain rfl : ad295 = ad323 := (by injection e323)
                have qi323 : (0 < l0.length) = True := eq_true (by omega)
                (try rw [show ((0 : Int)).toNat = 0 from rfl] at hx323_0)
                (try rw [Addr.add_zero'] at hx323_0)
                replace hx323_0 := (HB.out.cell (World.block_lt_of_cell? w _ hx323_0)).trans hx323_0
                replace p323 := eq_true p323
                replace q323 := eq_true q323
                go_wp2
                go_meet
                case rel => exact ⟨_, (((rdOf ByteArray.empty l0 0).toList == ([115, 97, 121] : List UInt8))), (by first | rfl | (simp; done) | (simp [*]; done)), H', ⟨by have := HJ40.out; have := HJ49.out; first | omega | exact Nat.le_refl _⟩, ⟨by (with_reducible repeat (first | apply Kd.R_alloc | apply Kd.R_drewN | apply Kd.R_drew)); exact HO_4.out⟩, ⟨by (with_reducible repeat (first | refine blk_drewN ?_ _ | refine blk_drew ?_ | refine blk_alloc ?_ _)); exact BK294.out⟩, ⟨by (with_reducible repeat (first | refine blk_drewN ?_ _ | refine blk_drew ?_ | refine blk_alloc ?_ _)); exact BK311.out⟩, ⟨by repeat (first | (with_reducible first | exact HB.out | apply below_alloc | apply pw_below_drewN | apply below_drew1 | refine below_set ?_ GE294.out | refine below_set ?_ GE311.out) | exact HB.out)⟩⟩
               ·rw [if_neg c55] at H
                exact absurd H (by simp)
              ·rw [if_neg c54] at H
               have c54b0 : ((t307.length : Int) == 2) = false := beq_eq_false_iff_ne.mpr c54
               have c54b1 : ((t307.length : Int) != 2) = true := bne_iff_ne.mpr c54
               (first | rw [c54b0] | (simp only [i64_w, i32_w]; rw [c54b0]) | skip)
               have H' := Aside0.mk H
               clear H
               obtain ⟨Ao57, co57, eo57⟩ := Kd.R_slice HO_4.out
               subst eo57
               go_wp2
               go_meet
               case rel => exact ⟨_, (false), (by first | rfl | (simp; done) | (simp [*]; done)), H', ⟨by have := HJ40.out; have := HJ49.out; first | omega | exact Nat.le_refl _⟩, ⟨by (with_reducible repeat (first | apply Kd.R_alloc | apply Kd.R_drewN | apply Kd.R_drew)); exact HO_4.out⟩, ⟨by (with_reducible repeat (first | refine blk_drewN ?_ _ | refine blk_drew ?_ | refine blk_alloc ?_ _)); exact BK294.out⟩, ⟨by (with_reducible repeat (first | refine blk_drewN ?_ _ | refine blk_drew ?_ | refine blk_alloc ?_ _)); exact BK311.out⟩, ⟨by repeat (first | (with_reducible first | exact HB.out | apply below_alloc | apply pw_below_drewN | apply below_drew1 | refine below_set ?_ GE294.out | refine below_set ?_ GE311.out) | exact HB.out)⟩⟩
             case rest =>
              clear HC53
              try clear c1
              try clear c2
              try clear c2b0
              try clear c2b1
              try clear p2
              try clear q2
              try clear hx2
              try clear qi2
              try clear c3
              try clear c3b0
              try clear c3b1
              try clear p3
              try clear q3
              try clear hx3
              try clear qi3
              try clear c4
              try clear c5
              try clear c9
              try clear c9b0
              try clear c9b1
              try clear c11
              try clear c17
              try clear c19
              try clear c19b0
              try clear c19b1
              try clear c20
              try clear c20b0
              try clear c20b1
              try clear c21
              try clear c21b0
              try clear c21b1
              try clear c22
              try clear c22b0
              try clear c22b1
              try clear c23
              try clear c23b0
              try clear c23b1
              try clear c24
              try clear c24b0
              try clear c24b1
              try clear c25
              try clear c25b0
              try clear c25b1
              try clear c26
              try clear c26b0
              try clear c26b1
              try clear p29
              try clear q29
              try clear hx29
              try clear qi29
              try clear p31
              try clear q31
              try clear hx31
              try clear qi31
              try clear p32
              try clear q32
              try clear hx32
              try clear qi32
              try clear c42
              try clear c42b0
              try clear c42b1
              try clear c43
              try clear c44
              try clear c44b0
              try clear c44b1
              try clear c45
              try clear c45b0
              try clear c45b1
              try clear c46
              try clear c48
              try clear c51
              try clear c51b0
              try clear c51b1
              try clear c52
              try clear c54
              try clear c54b0
              try clear c54b1
              try clear c55
              try clear c55b0
              try clear c55b1
              try clear hcz18_0
              try clear hcz18_1
              try clear hcz18_2
              try clear hcz18_3
              try clear hcz18_4
              try clear hcz18_5
              try clear hcz18_6
              try clear hcz47_0
              try clear hcz47_1
              try clear hcz47_2
              try clear hcz47_3
              try clear hcz47_4
              try clear hcz47_5
              try clear hcz47_6
              try clear hcz49_0
              try clear hcz49_1
              try clear hcz49_2
              try clear hcz49_3
              try clear hcz49_4
              try clear hcz49_5
              try clear hcz49_6
              try clear hcz7_0
              try clear hcz7_1
              try clear hcz7_2
              try clear hcz7_3
              try clear hcz7_4
              try clear hcz7_5
              try clear hcz7_6
              try clear hfz18_0
              try clear hfz18_1
              try clear hfz18_2
              try clear hfz18_3
              try clear hfz18_4
              try clear hfz18_5
              try clear hfz18_6
              try clear hfz47_0
              try clear hfz47_1
              try clear hfz47_2
              try clear hfz47_3
              try clear hfz47_4
              try clear hfz47_5
              try clear hfz47_6
              try clear hfz49_0
              try clear hfz49_1
              try clear hfz49_2
              try clear hfz49_3
              try clear hfz49_4
              try clear hfz49_5
              try clear hfz49_6
              try clear hfz7_0
              try clear hfz7_1
              try clear hfz7_2
              try clear hfz7_3
              try clear hfz7_4
              try clear hfz7_5
              try clear hfz7_6
              try clear hx295_0
              try clear hx312_0
              try clear hx313_0
              try clear hx314_0
              try clear hx315_0
              try clear hx316_0
              try clear hx317_0
              try clear hx318_0
              try clear hx322_0
              try clear hx323_0
              try clear p2
              try clear p29
              try clear p295
              try clear p3
              try clear p31
              try clear p312
              try clear p313
              try clear p314
              try clear p315
              try clear p316
              try clear p317
              try clear p318
              try clear p32
              try clear p322
              try clear p323
              try clear q2
              try clear q29
              try clear q295
              try clear q3
              try clear q31
              try clear q312
              try clear q313
              try clear q314
              try clear q315
              try clear q316
              try clear q317
              try clear q318
              try clear q32
              try clear q322
              try clear q323
              obtain ⟨kq, x91_52, rfl, HA, HJ52, HO_4, BK294, BK311, HB⟩ := hcut
              cases kq with
              | zero => exact absurd HA.out (by simp [impl_eventOf.j2])
              | succ kj52 =>
               have H := HA.out
               clear HA
               simp only [impl_eventOf.j2] at H
               by_cases c58 : x91_52 = true
               ·subst c58
                have H1 : (if 0 < (t307.length : Int) then (if 1 < (t307.length : Int) then (impl_eventOf.j3 kj52 t307 2 5 (rd t307 0) (rd t307 1) 0 0 ([] : List (S98)) (⟨#[]⟩ : ByteArray)) else (none)) else (none)) = some (r1, r2, r3, r4, r5, r6, r7, r8) := by rw [if_pos rfl] at H; exact H
                clear H
                have H := H1
                clear H1
                by_cases c59 : 0 < (t307.length : Int)
                ·rw [if_pos c59] at H
                 have c59b0 : decide (0 < (t307.length : Int)) = true := decide_eq_true c59
                 have c59b1 : decide (0 < t307.length) = true := decide_eq_true (by omega)
                 clear c59
                 by_cases c60 : 1 < (t307.length : Int)
                 ·rw [if_pos c60] at H
                  have c60b0 : decide (1 < (t307.length : Int)) = true := decide_eq_true c60
                  have c60b1 : decide (1 < t307.length) = true := decide_eq_true (by omega)
                  clear c60
                  have H' := Aside0.mk H
                  clear H
                  try go_wp2
                  have n0_ := Aside0.mk (Kd.R_drew HO_4.out)
                  have n1_ := Aside0.mk (blk_drew BK294.out)
                  have n2_ := Aside0.mk (blk_drew BK311.out)
                  have n3_ := Aside0.mk (below_drew1 HB.out)
                  clear HO_4
                  clear BK294
                  clear BK311
                  clear HB
                  have HO_4 := n0_
                  have BK294 := n1_
                  have BK311 := n2_
                  have HB := n3_
                  clear n0_ n1_ n2_ n3_
                  obtain ⟨Ao62, co62, eo62⟩ := Kd.R_slice HO_4.out
                  (first | subst eo62 | (injection eo62 with f1_ f2_ f3_; have f4_ := f1_.symm; have f5_ := f3_.symm; clear f1_ f2_ f3_; subst f4_; subst f5_))
                  have p324 : 0 ≤ (0 : Int) := (by omega)
                  have q324 : 0 < (t307.length : Int) := of_decide_eq_true (by first | (with_reducible assumption) | assumption)
                  obtain ⟨ad324, e324, hx324_0⟩ := Kd.at_int (Kd.R_reads' HO_4.out).2.2 0 p324 q324
                  cases e324
                  have qi324 : (0 < t307.length) = True := eq_true (by omega)
                  (try rw [show ((0 : Int)).toNat = 0 from rfl] at hx324_0)
                  (try rw [Addr.add_zero'] at hx324_0)
                  replace p324 := eq_true p324
                  replace q324 := eq_true q324
                  have p325 : 0 ≤ (1 : Int) := (by omega)
                  have q325 : 1 < (t307.length : Int) := of_decide_eq_true (by first | (with_reducible assumption) | assumption)
                  obtain ⟨ad325, e325, hx325_0⟩ := Kd.at_int (Kd.R_reads' HO_4.out).2.2 1 p325 q325
                  obtain rfl : ad324 = ad325 := (by injection e325)
                  (try simp only [show (1 : Int).toNat = 1 from rfl, Nat.reduceMul, Nat.reduceEqDiff, Go.Addr.add, ↓reduceIte] at hx325_0)
                  have qi325 : (1 < t307.length) = True := eq_true (by omega)
                  (try rw [show ((1 : Int)).toNat = 1 from rfl] at hx325_0)
                  replace p325 := eq_true p325
                  replace q325 := eq_true q325
                  refine start_ (n := 8) (S := fun w' => w'.cell? ad324 = some (.int .i64 (rd t307 0)) ∧ w'.cell? ⟨ad324.block, ad324.off + 1, none⟩ = some (.int .i64 (rd t307 1))) (ds := []) #[false, false, false, false, false, false, false, false] (by kernel_rfl) rfl rfl ⟨hx324_0, hx325_0⟩ (fun hHeld => ?_); refine with_tabW impl_eventOf.tab25 impl_eventOf.bits25 (fun HT_ HW_ => ?_)
                  generalize wc.drew = w61 at HO_4 BK294 BK311 HB hx324_0 hx325_0 hHeld ⊢
                  refine pure_ (i := 0) (N := some 92) (v := ?_) (a' := ?_) #[true, false, false, false, false, false, false, false] rfl rfl (any_of HT_.out (by kernel_rfl)) (fun _ _ _ h => h) (Or.inl ⟨by rfl, ?_⟩) ?_ ?_
                  rotate_left
                  ·intro w'
                   go_simp
                   with_reducible rfl
                  rotate_left
                  ·simp only [Act.put, List.setIfInBounds_toArray, List.set_cons_zero, List.set_cons_succ, i64_w, i32_w]
                   rfl
                  refine pure_ (i := 1) (N := some 93) (v := ?_) (a' := ?_) #[true, true, false, false, false, false, false, false] rfl rfl (any_of HT_.out (by kernel_rfl)) (fun _ _ _ h => h) (Or.inl ⟨by rfl, ?_⟩) ?_ ?_
                  rotate_left
                  ·intro w'
                   go_simp
                   with_reducible rfl
                  rotate_left
                  ·simp only [Act.put, List.setIfInBounds_toArray, List.set_cons_zero, List.set_cons_succ, i64_w, i32_w]
                   rfl
                  refine pure_ (i := 3) (N := some 95) (v := ?_) (a' := ?_) #[true, true, false, true, false, false, false, false] rfl rfl (any_of HT_.out (by kernel_rfl)) (fun _ _ _ h => h) (Or.inl ⟨by rfl, ?_⟩) ?_ ?_
                  rotate_left
                  ·intro w'
                   go_simp
                   with_reducible rfl
                  rotate_left
                  ·simp only [Act.put, List.setIfInBounds_toArray, List.set_cons_zero, List.set_cons_succ, i64_w, i32_w]
                   rfl
                  refine pure_ (i := 4) (N := some 96) (v := ?_) (a' := ?_) #[true, true, false, true, true, false, false, false] rfl rfl (any_of HT_.out (by kernel_rfl)) (fun _ _ _ h => h) (Or.inl ⟨by rfl, ?_⟩) ?_ ?_
                  rotate_left
                  ·intro w'
                   go_simp
                   with_reducible rfl
                  rotate_left
                  ·simp only [Act.put, List.setIfInBounds_toArray, List.set_cons_zero, List.set_cons_succ, i64_w, i32_w]
                   rfl
                  refine take_ (i := 2) (N := some 94) (v := ?_) (a' := ?_) #[true, true, true, true, true, false, false, false] rfl rfl (take_ofW HT_.out HW_.out (by kernel_rfl)) (fun _ _ _ h => h) (Or.inl ⟨by rfl, ?_⟩) hHeld ?_ ?_
                  rotate_left
                  ·rintro w' ⟨s0, s1⟩
                   go_simp
                   with_reducible rfl
                  rotate_left
                  ·simp only [Act.put, List.setIfInBounds_toArray, List.set_cons_zero, List.set_cons_succ, i64_w, i32_w]
                   rfl
                  refine take_ (i := 5) (N := some 97) (v := ?_) (a' := ?_) #[true, true, true, true, true, true, false, false] rfl rfl (take_ofW HT_.out HW_.out (by kernel_rfl)) (fun _ _ _ h => h) (Or.inl ⟨by rfl, ?_⟩) hHeld ?_ ?_
                  rotate_left
                  ·rintro w' ⟨s0, s1⟩
                   go_simp
                   with_reducible rfl
                  rotate_left
                  ·simp only [Act.put, List.setIfInBounds_toArray, List.set_cons_zero, List.set_cons_succ, i64_w, i32_w]
                   rfl
                  refine pure_ (i := 6) (N := some 98) (v := ?_) (a' := ?_) #[true, true, true, true, true, true, true, false] rfl rfl (any_of HT_.out (by kernel_rfl)) (fun _ _ _ h => h) (Or.inl ⟨by rfl, ?_⟩) ?_ ?_
                  rotate_left
                  ·intro w'
                   go_simp
                   with_reducible rfl
                  rotate_left
                  ·simp only [Act.put, List.setIfInBounds_toArray, List.set_cons_zero, List.set_cons_succ, i64_w, i32_w]
                   rfl
                  refine one_ (i := 7) (N := none) #[true, true, true, true, true, true, true, true] rfl rfl (one_of HT_.out (by kernel_rfl)) (by decide) (fun K hK => ?_)
                  have hs63 : w61.cell? ⟨gb311, 0, none⟩ = some (.int .i64 0) := (blk_cell BK311.out 0).trans rfl
                  have hfs63 := blk_frozen BK311.out 0
                  have hns63_0 := NB294_311.out
                  have hms63_0 := NB311_294.out
                  have hs64 : w61.cell? ⟨gb311, 1, none⟩ = some (.int .i64 0) := (blk_cell BK311.out 1).trans rfl
                  have hfs64 := blk_frozen BK311.out 1
                  have hns64_0 := NB294_311.out
                  have hms64_0 := NB311_294.out
                  have hs65 : w61.cell? ⟨gb311, 2, none⟩ = some (.int .i64 0) := (blk_cell BK311.out 2).trans rfl
                  have hfs65 := blk_frozen BK311.out 2
                  have hns65_0 := NB294_311.out
                  have hms65_0 := NB311_294.out
                  have hs66 : w61.cell? ⟨gb311, 3, none⟩ = some (.int .i64 0) := (blk_cell BK311.out 3).trans rfl
                  have hfs66 := blk_frozen BK311.out 3
                  have hns66_0 := NB294_311.out
                  have hms66_0 := NB311_294.out
                  have hs67 : w61.cell? ⟨gb311, 4, none⟩ = some (.int .i64 0) := (blk_cell BK311.out 4).trans rfl
                  have hfs67 := blk_frozen BK311.out 4
                  have hns67_0 := NB294_311.out
                  have hms67_0 := NB311_294.out
                  have hs68 : w61.cell? ⟨gb311, 5, none⟩ = some (.slice none 0 0) := (blk_cell BK311.out 5).trans rfl
                  have hfs68 := blk_frozen BK311.out 5
                  have hns68_0 := NB294_311.out
                  have hms68_0 := NB311_294.out
                  have hs69 : w61.cell? ⟨gb311, 6, none⟩ = some (.string (⟨#[]⟩ : ByteArray)) := (blk_cell BK311.out 6).trans rfl
                  have hfs69 := blk_frozen BK311.out 6
                  have hns69_0 := NB294_311.out
                  have hms69_0 := NB311_294.out
                  refine skip_ (w1 := ?_) (by rfl) rfl ?_ ?_
                  rotate_left
                  ·go_simp
                   rfl
                  have hA0_ : ad324.block ≠ gb311 := Kd.own_blk (Kd.R_ne HO_4.out BK311.out (by decide))
                  refine hK.out _ _ ⟨((cell_far (p := ⟨gb311, _, none⟩) (by exact hA0_) _).trans (((cell_far (p := ⟨gb311, _, none⟩) (by exact hA0_) _).trans (((cell_far (p := ⟨gb311, _, none⟩) (by exact hA0_) _).trans (((cell_far (p := ⟨gb311, _, none⟩) (by exact hA0_) _).trans (((cell_far (p := ⟨gb311, _, none⟩) (by exact hA0_) _).trans (((cell_far (p := ⟨gb311, _, none⟩) (by exact hA0_) _).trans (((cell_far (p := ⟨gb311, _, none⟩) (by exact hA0_) _).trans (hHeld.1)))))))))))))), ((cell_far (p := ⟨gb311, _, none⟩) (by exact hA0_) _).trans (((cell_far (p := ⟨gb311, _, none⟩) (by exact hA0_) _).trans (((cell_far (p := ⟨gb311, _, none⟩) (by exact hA0_) _).trans (((cell_far (p := ⟨gb311, _, none⟩) (by exact hA0_) _).trans (((cell_far (p := ⟨gb311, _, none⟩) (by exact hA0_) _).trans (((cell_far (p := ⟨gb311, _, none⟩) (by exact hA0_) _).trans (((cell_far (p := ⟨gb311, _, none⟩) (by exact hA0_) _).trans (hHeld.2))))))))))))))⟩ (fun hHeld => ?_)
                  clear hK K
                  refine done_ (done_of HT_.out (by kernel_rfl)) ?_
                  try go_wp2
                  go_meet
                  case rel => exact ⟨_, (2), (5), (rd t307 0), (rd t307 1), (0), (0), (([] : List (S98))), ((⟨#[]⟩ : ByteArray)), (.slice none 0 0), (by first | rfl | (simp; done) | (simp [*]; done)), H', ⟨by have := HJ40.out; have := HJ49.out; have := HJ52.out; first | omega | exact Nat.le_refl _⟩, ⟨by (with_reducible repeat (first | apply Kd.R_alloc | apply Kd.R_drewN | apply Kd.R_drew)); exact Kd.R_mono (Kd.R_far (p := ⟨gb311, 6, none⟩) (Kd.R_far (p := ⟨gb311, 5, none⟩) (Kd.R_far (p := ⟨gb311, 4, none⟩) (Kd.R_far (p := ⟨gb311, 3, none⟩) (Kd.R_far (p := ⟨gb311, 2, none⟩) (Kd.R_far (p := ⟨gb311, 1, none⟩) (Kd.R_far (p := ⟨gb311, 0, none⟩) (Kd.R_types HO_4.out BK311.out (by decide)) (fun _ hk => hk.2) (.int .i64 5)) (fun _ hk => hk.2) (.int .i64 (rd t307 0))) (fun _ hk => hk.2) (.int .i64 (rd t307 1))) (fun _ hk => hk.2) (.int .i64 0)) (fun _ hk => hk.2) (.int .i64 0)) (fun _ hk => hk.2) (.slice none 0 0)) (fun _ hk => hk.2) (.string (⟨#[]⟩ : ByteArray))) (fun _ hk => trivial)⟩, ⟨by first | exact Kd.R_nil _ _ _ _ _ | exact Kd.N_nil _ _ _ _ _ | exact Kd.V_nil _ _ _ _ _ | exact Kd.Q_nil _ _ _ _ _ | exact Kd.S_nil _ _ _ _ _⟩, ⟨by (with_reducible repeat (first | refine blk_drewN ?_ _ | refine blk_drew ?_ | refine blk_alloc ?_ _)); refine blk_far ?_ NB294_311.out _; (with_reducible repeat (first | refine blk_drewN ?_ _ | refine blk_drew ?_ | refine blk_alloc ?_ _)); refine blk_far ?_ NB294_311.out _; (with_reducible repeat (first | refine blk_drewN ?_ _ | refine blk_drew ?_ | refine blk_alloc ?_ _)); refine blk_far ?_ NB294_311.out _; (with_reducible repeat (first | refine blk_drewN ?_ _ | refine blk_drew ?_ | refine blk_alloc ?_ _)); refine blk_far ?_ NB294_311.out _; (with_reducible repeat (first | refine blk_drewN ?_ _ | refine blk_drew ?_ | refine blk_alloc ?_ _)); refine blk_far ?_ NB294_311.out _; (with_reducible repeat (first | refine blk_drewN ?_ _ | refine blk_drew ?_ | refine blk_alloc ?_ _)); refine blk_far ?_ NB294_311.out _; (with_reducible repeat (first | refine blk_drewN ?_ _ | refine blk_drew ?_ | refine blk_alloc ?_ _)); refine blk_far ?_ NB294_311.out _; (with_reducible repeat (first | refine blk_drewN ?_ _ | refine blk_drew ?_ | refine blk_alloc ?_ _)); exact BK294.out⟩, ⟨by (with_reducible repeat (first | refine blk_drewN ?_ _ | refine blk_drew ?_ | refine blk_alloc ?_ _)); refine blk_put (cs := #[.int .i64 5, .int .i64 (rd t307 0), .int .i64 (rd t307 1), .int .i64 0, .int .i64 0, .slice none 0 0, .string (⟨#[]⟩ : ByteArray)]) ?_ 6 _ rfl; (with_reducible repeat (first | refine blk_drewN ?_ _ | refine blk_drew ?_ | refine blk_alloc ?_ _)); refine blk_put (cs := #[.int .i64 5, .int .i64 (rd t307 0), .int .i64 (rd t307 1), .int .i64 0, .int .i64 0, .slice none 0 0, .string (⟨#[]⟩ : ByteArray)]) ?_ 5 _ rfl; (with_reducible repeat (first | refine blk_drewN ?_ _ | refine blk_drew ?_ | refine blk_alloc ?_ _)); refine blk_put (cs := #[.int .i64 5, .int .i64 (rd t307 0), .int .i64 (rd t307 1), .int .i64 0, .int .i64 0, .slice none 0 0, .string (⟨#[]⟩ : ByteArray)]) ?_ 4 _ rfl; (with_reducible repeat (first | refine blk_drewN ?_ _ | refine blk_drew ?_ | refine blk_alloc ?_ _)); refine blk_put (cs := #[.int .i64 5, .int .i64 (rd t307 0), .int .i64 (rd t307 1), .int .i64 0, .int .i64 0, .slice none 0 0, .string (⟨#[]⟩ : ByteArray)]) ?_ 3 _ rfl; (with_reducible repeat (first | refine blk_drewN ?_ _ | refine blk_drew ?_ | refine blk_alloc ?_ _)); refine blk_put (cs := #[.int .i64 5, .int .i64 (rd t307 0), .int .i64 0, .int .i64 0, .int .i64 0, .slice none 0 0, .string (⟨#[]⟩ : ByteArray)]) ?_ 2 _ rfl; (with_reducible repeat (first | refine blk_drewN ?_ _ | refine blk_drew ?_ | refine blk_alloc ?_ _)); refine blk_put (cs := #[.int .i64 5, .int .i64 0, .int .i64 0, .int .i64 0, .int .i64 0, .slice none 0 0, .string (⟨#[]⟩ : ByteArray)]) ?_ 1 _ rfl; (with_reducible repeat (first | refine blk_drewN ?_ _ | refine blk_drew ?_ | refine blk_alloc ?_ _)); refine blk_put (cs := #[.int .i64 0, .int .i64 0, .int .i64 0, .int .i64 0, .int .i64 0, .slice none 0 0, .string (⟨#[]⟩ : ByteArray)]) ?_ 0 _ rfl; (with_reducible repeat (first | refine blk_drewN ?_ _ | refine blk_drew ?_ | refine blk_alloc ?_ _)); exact BK311.out⟩, ⟨by repeat (first | (with_reducible first | exact HB.out | apply below_alloc | apply pw_below_drewN | apply below_drew1 | refine below_set ?_ GE294.out | refine below_set ?_ GE311.out) | exact HB.out)⟩⟩
                 ·rw [if_neg c60] at H
                  exact absurd H (by simp)
                ·rw [if_neg c59] at H
                 exact absurd H (by simp)
               ·replace c58 := Bool.eq_false_iff.mpr c58
                subst c58
                have H1 : (if (t307.length : Int) = 2 then (if 0 < (t307.length : Int) then (if 1 < (t307.length : Int) then (impl_eventOf.j3 kj52 t307 2 9 (rd t307 1) (rd t307 0) 0 0 ([] : List (S98)) (⟨#[]⟩ : ByteArray)) else (none)) else (none)) else (impl_eventOf.j3 kj52 t307 2 0 0 0 0 0 ([] : List (S98)) (⟨#[]⟩ : ByteArray))) = some (r1, r2, r3, r4, r5, r6, r7, r8) := by rw [if_neg (show ¬ (false = true) by decide)] at H; exact H
                clear H
                have H := H1
                clear H1
                by_cases c70 : (t307.length : Int) = 2
                ·rw [if_pos c70] at H
                 have c70b0 : ((t307.length : Int) == 2) = true := beq_iff_eq.mpr c70
                 have c70b1 : ((t307.length : Int) != 2) = false := bne_eq_false_iff_eq.mpr c70
                 clear c70
                 by_cases c71 : 0 < (t307.length : Int)
                 ·rw [if_pos c71] at H
                  have c71b0 : decide (0 < (t307.length : Int)) = true := decide_eq_true c71
                  have c71b1 : decide (0 < t307.length) = true := decide_eq_true (by omega)
                  clear c71
                  by_cases c72 : 1 < (t307.length : Int)
                  ·rw [if_pos c72] at H
                   have c72b0 : decide (1 < (t307.length : Int)) = true := decide_eq_true c72
                   have c72b1 : decide (1 < t307.length) = true := decide_eq_true (by omega)
                   clear c72
                   have H' := Aside0.mk H
                   clear H
                   obtain ⟨Ao73, co73, eo73⟩ := Kd.R_slice HO_4.out
                   subst eo73
                   try go_wp2
                   have n0_ := Aside0.mk (Kd.R_drew HO_4.out)
                   have n1_ := Aside0.mk (blk_drew BK294.out)
                   have n2_ := Aside0.mk (blk_drew BK311.out)
                   have n3_ := Aside0.mk (below_drew1 HB.out)
                   clear HO_4
                   clear BK294
                   clear BK311
                   clear HB
                   have HO_4 := n0_
                   have BK294 := n1_
                   have BK311 := n2_
                   have HB := n3_
                   clear n0_ n1_ n2_ n3_
                   have p326 : 0 ≤ (0 : Int) := (by omega)
                   have q326 : 0 < (t307.length : Int) := of_decide_eq_true (by first | (with_reducible assumption) | assumption)
                   obtain ⟨ad326, e326, hx326_0⟩ := Kd.at_int (Kd.R_reads' HO_4.out).2.2 0 p326 q326
                   cases e326
                   have qi326 : (0 < t307.length) = True := eq_true (by omega)
                   (try rw [show ((0 : Int)).toNat = 0 from rfl] at hx326_0)
                   (try rw [Addr.add_zero'] at hx326_0)
                   replace p326 := eq_true p326
                   replace q326 := eq_true q326
                   have p327 : 0 ≤ (1 : Int) := (by omega)
                   have q327 : 1 < (t307.length : Int) := of_decide_eq_true (by first | (with_reducible assumption) | assumption)
                   obtain ⟨ad327, e327, hx327_0⟩ := Kd.at_int (Kd.R_reads' HO_4.out).2.2 1 p327 q327
                   obtain rfl : ad326 = ad327 := (by injection e327)
                   (try simp only [show (1 : Int).toNat = 1 from rfl, Nat.reduceMul, Nat.reduceEqDiff, Go.Addr.add, ↓reduceIte] at hx327_0)
                   have qi327 : (1 < t307.length) = True := eq_true (by omega)
                   (try rw [show ((1 : Int)).toNat = 1 from rfl] at hx327_0)
                   replace p327 := eq_true p327
                   replace q327 := eq_true q327
                   refine start_ (n := 8) (S := fun w' => w'.cell? ad326 = some (.int .i64 (rd t307 0)) ∧ w'.cell? ⟨ad326.block, ad326.off + 1, none⟩ = some (.int .i64 (rd t307 1))) (ds := []) #[false, false, false, false, false, false, false, false] (by kernel_rfl) rfl rfl ⟨hx326_0, hx327_0⟩ (fun hHeld => ?_); refine with_tabW impl_eventOf.tab27 impl_eventOf.bits27 (fun HT_ HW_ => ?_)
                   generalize wc.drew = w74 at HO_4 BK294 BK311 HB hx326_0 hx327_0 hHeld ⊢
                   refine pure_ (i := 0) (N := some 103) (v := ?_) (a' := ?_) #[true, false, false, false, false, false, false, false] rfl rfl (any_of HT_.out (by kernel_rfl)) (fun _ _ _ h => h) (Or.inl ⟨by rfl, ?_⟩) ?_ ?_
                   rotate_left
                   ·intro w'
                    go_simp
                    with_reducible rfl
                   rotate_left
                   ·simp only [Act.put, List.setIfInBounds_toArray, List.set_cons_zero, List.set_cons_succ, i64_w, i32_w]
                    rfl
                   refine pure_ (i := 1) (N := some 104) (v := ?_) (a' := ?_) #[true, true, false, false, false, false, false, false] rfl rfl (any_of HT_.out (by kernel_rfl)) (fun _ _ _ h => h) (Or.inl ⟨by rfl, ?_⟩) ?_ ?_
                   rotate_left
                   ·intro w'
                    go_simp
                    with_reducible rfl
                   rotate_left
                   ·simp only [Act.put, List.setIfInBounds_toArray, List.set_cons_zero, List.set_cons_succ, i64_w, i32_w]
                    rfl
                   refine pure_ (i := 3) (N := some 106) (v := ?_) (a' := ?_) #[true, true, false, true, false, false, false, false] rfl rfl (any_of HT_.out (by kernel_rfl)) (fun _ _ _ h => h) (Or.inl ⟨by rfl, ?_⟩) ?_ ?_
                   rotate_left
                   ·intro w'
                    go_simp
                    with_reducible rfl
                   rotate_left
                   ·simp only [Act.put, List.setIfInBounds_toArray, List.set_cons_zero, List.set_cons_succ, i64_w, i32_w]
                    rfl
                   refine pure_ (i := 4) (N := some 107) (v := ?_) (a' := ?_) #[true, true, false, true, true, false, false, false] rfl rfl (any_of HT_.out (by kernel_rfl)) (fun _ _ _ h => h) (Or.inl ⟨by rfl, ?_⟩) ?_ ?_
                   rotate_left
                   ·intro w'
                    go_simp
                    with_reducible rfl
                   rotate_left
                   ·simp only [Act.put, List.setIfInBounds_toArray, List.set_cons_zero, List.set_cons_succ, i64_w, i32_w]
                    rfl
                   refine take_ (i := 2) (N := some 105) (v := ?_) (a' := ?_) #[true, true, true, true, true, false, false, false] rfl rfl (take_ofW HT_.out HW_.out (by kernel_rfl)) (fun _ _ _ h => h) (Or.inl ⟨by rfl, ?_⟩) hHeld ?_ ?_
                   rotate_left
                   ·rintro w' ⟨s0, s1⟩
                    go_simp
                    with_reducible rfl
                   rotate_left
                   ·simp only [Act.put, List.setIfInBounds_toArray, List.set_cons_zero, List.set_cons_succ, i64_w, i32_w]
                    rfl
                   refine take_ (i := 5) (N := some 108) (v := ?_) (a' := ?_) #[true, true, true, true, true, true, false, false] rfl rfl (take_ofW HT_.out HW_.out (by kernel_rfl)) (fun _ _ _ h => h) (Or.inl ⟨by rfl, ?_⟩) hHeld ?_ ?_
                   rotate_left
                   ·rintro w' ⟨s0, s1⟩
                    go_simp
                    with_reducible rfl
                   rotate_left
                   ·simp only [Act.put, List.setIfInBounds_toArray, List.set_cons_zero, List.set_cons_succ, i64_w, i32_w]
                    rfl
                   refine pure_ (i := 6) (N := some 109) (v := ?_) (a' := ?_) #[true, true, true, true, true, true, true, false] rfl rfl (any_of HT_.out (by kernel_rfl)) (fun _ _ _ h => h) (Or.inl ⟨by rfl, ?_⟩) ?_ ?_
                   rotate_left
                   ·intro w'
                    go_simp
                    with_reducible rfl
                   rotate_left
                   ·simp only [Act.put, List.setIfInBounds_toArray, List.set_cons_zero, List.set_cons_succ, i64_w, i32_w]
                    rfl
                   refine one_ (i := 7) (N := none) #[true, true, true, true, true, true, true, true] rfl rfl (one_of HT_.out (by kernel_rfl)) (by decide) (fun K hK => ?_)
                   have hs75 : w74.cell? ⟨gb311, 0, none⟩ = some (.int .i64 0) := (blk_cell BK311.out 0).trans rfl
                   have hfs75 := blk_frozen BK311.out 0
                   have hns75_0 := NB294_311.out
                   have hms75_0 := NB311_294.out
                   have hs76 : w74.cell? ⟨gb311, 1, none⟩ = some (.int .i64 0) := (blk_cell BK311.out 1).trans rfl
                   have hfs76 := blk_frozen BK311.out 1
                   have hns76_0 := NB294_311.out
                   have hms76_0 := NB311_294.out
                   have hs77 : w74.cell? ⟨gb311, 2, none⟩ = some (.int .i64 0) := (blk_cell BK311.out 2).trans rfl
                   have hfs77 := blk_frozen BK311.out 2
                   have hns77_0 := NB294_311.out
                   have hms77_0 := NB311_294.out
                   have hs78 : w74.cell? ⟨gb311, 3, none⟩ = some (.int .i64 0) := (blk_cell BK311.out 3).trans rfl
                   have hfs78 := blk_frozen BK311.out 3
                   have hns78_0 := NB294_311.out
                   have hms78_0 := NB311_294.out
                   have hs79 : w74.cell? ⟨gb311, 4, none⟩ = some (.int .i64 0) := (blk_cell BK311.out 4).trans rfl
                   have hfs79 := blk_frozen BK311.out 4
                   have hns79_0 := NB294_311.out
                   have hms79_0 := NB311_294.out
                   have hs80 : w74.cell? ⟨gb311, 5, none⟩ = some (.slice none 0 0) := (blk_cell BK311.out 5).trans rfl
                   have hfs80 := blk_frozen BK311.out 5
                   have hns80_0 := NB294_311.out
                   have hms80_0 := NB311_294.out
                   have hs81 : w74.cell? ⟨gb311, 6, none⟩ = some (.string (⟨#[]⟩ : ByteArray)) := (blk_cell BK311.out 6).trans rfl
                   have hfs81 := blk_frozen BK311.out 6
                   have hns81_0 := NB294_311.out
                   have hms81_0 := NB311_294.out
                   refine skip_ (w1 := ?_) (by rfl) rfl ?_ ?_
                   rotate_left
                   ·go_simp
                    rfl
                   have hA0_ : ad326.block ≠ gb311 := Kd.own_blk (Kd.R_ne HO_4.out BK311.out (by decide))
                   refine hK.out _ _ ⟨((cell_far (p := ⟨gb311, _, none⟩) (by exact hA0_) _).trans (((cell_far (p := ⟨gb311, _, none⟩) (by exact hA0_) _).trans (((cell_far (p := ⟨gb311, _, none⟩) (by exact hA0_) _).trans (((cell_far (p := ⟨gb311, _, none⟩) (by exact hA0_) _).trans (((cell_far (p := ⟨gb311, _, none⟩) (by exact hA0_) _).trans (((cell_far (p := ⟨gb311, _, none⟩) (by exact hA0_) _).trans (((cell_far (p := ⟨gb311, _, none⟩) (by exact hA0_) _).trans (hHeld.1)))))))))))))), ((cell_far (p := ⟨gb311, _, none⟩) (by exact hA0_) _).trans (((cell_far (p := ⟨gb311, _, none⟩) (by exact hA0_) _).trans (((cell_far (p := ⟨gb311, _, none⟩) (by exact hA0_) _).trans (((cell_far (p := ⟨gb311, _, none⟩) (by exact hA0_) _).trans (((cell_far (p := ⟨gb311, _, none⟩) (by exact hA0_) _).trans (((cell_far (p := ⟨gb311, _, none⟩) (by exact hA0_) _).trans (((cell_far (p := ⟨gb311, _, none⟩) (by exact hA0_) _).trans (hHeld.2))))))))))))))⟩ (fun hHeld => ?_)
                   clear hK K
                   refine done_ (done_of HT_.out (by kernel_rfl)) ?_
                   try go_wp2
                   go_meet
                   case rel => exact ⟨_, (2), (9), (rd t307 1), (rd t307 0), (0), (0), (([] : List (S98))), ((⟨#[]⟩ : ByteArray)), (.slice none 0 0), (by first | rfl | (simp; done) | (simp [*]; done)), H', ⟨by have := HJ40.out; have := HJ49.out; have := HJ52.out; first | omega | exact Nat.le_refl _⟩, ⟨by (with_reducible repeat (first | apply Kd.R_alloc | apply Kd.R_drewN | apply Kd.R_drew)); exact Kd.R_mono (Kd.R_far (p := ⟨gb311, 6, none⟩) (Kd.R_far (p := ⟨gb311, 5, none⟩) (Kd.R_far (p := ⟨gb311, 4, none⟩) (Kd.R_far (p := ⟨gb311, 3, none⟩) (Kd.R_far (p := ⟨gb311, 2, none⟩) (Kd.R_far (p := ⟨gb311, 1, none⟩) (Kd.R_far (p := ⟨gb311, 0, none⟩) (Kd.R_types HO_4.out BK311.out (by decide)) (fun _ hk => hk.2) (.int .i64 9)) (fun _ hk => hk.2) (.int .i64 (rd t307 1))) (fun _ hk => hk.2) (.int .i64 (rd t307 0))) (fun _ hk => hk.2) (.int .i64 0)) (fun _ hk => hk.2) (.int .i64 0)) (fun _ hk => hk.2) (.slice none 0 0)) (fun _ hk => hk.2) (.string (⟨#[]⟩ : ByteArray))) (fun _ hk => trivial)⟩, ⟨by first | exact Kd.R_nil _ _ _ _ _ | exact Kd.N_nil _ _ _ _ _ | exact Kd.V_nil _ _ _ _ _ | exact Kd.Q_nil _ _ _ _ _ | exact Kd.S_nil _ _ _ _ _⟩, ⟨by (with_reducible repeat (first | refine blk_drewN ?_ _ | refine blk_drew ?_ | refine blk_alloc ?_ _)); refine blk_far ?_ NB294_311.out _; (with_reducible repeat (first | refine blk_drewN ?_ _ | refine blk_drew ?_ | refine blk_alloc ?_ _)); refine blk_far ?_ NB294_311.out _; (with_reducible repeat (first | refine blk_drewN ?_ _ | refine blk_drew ?_ | refine blk_alloc ?_ _)); refine blk_far ?_ NB294_311.out _; (with_reducible repeat (first | refine blk_drewN ?_ _ | refine blk_drew ?_ | refine blk_alloc ?_ _)); refine blk_far ?_ NB294_311.out _; (with_reducible repeat (first | refine blk_drewN ?_ _ | refine blk_drew ?_ | refine blk_alloc ?_ _)); refine blk_far ?_ NB294_311.out _; (with_reducible repeat (first | refine blk_drewN ?_ _ | refine blk_drew ?_ | refine blk_alloc ?_ _)); refine blk_far ?_ NB294_311.out _; (with_reducible repeat (first | refine blk_drewN ?_ _ | refine blk_drew ?_ | refine blk_alloc ?_ _)); refine blk_far ?_ NB294_311.out _; (with_reducible repeat (first | refine blk_drewN ?_ _ | refine blk_drew ?_ | refine blk_alloc ?_ _)); exact BK294.out⟩, ⟨by (with_reducible repeat (first | refine blk_drewN ?_ _ | refine blk_drew ?_ | refine blk_alloc ?_ _)); refine blk_put (cs := #[.int .i64 9, .int .i64 (rd t307 1), .int .i64 (rd t307 0), .int .i64 0, .int .i64 0, .slice none 0 0, .string (⟨#[]⟩ : ByteArray)]) ?_ 6 _ rfl; (with_reducible repeat (first | refine blk_drewN ?_ _ | refine blk_drew ?_ | refine blk_alloc ?_ _)); refine blk_put (cs := #[.int .i64 9, .int .i64 (rd t307 1), .int .i64 (rd t307 0), .int .i64 0, .int .i64 0, .slice none 0 0, .string (⟨#[]⟩ : ByteArray)]) ?_ 5 _ rfl; (with_reducible repeat (first | refine blk_drewN ?_ _ | refine blk_drew ?_ | refine blk_alloc ?_ _)); refine blk_put (cs := #[.int .i64 9, .int .i64 (rd t307 1), .int .i64 (rd t307 0), .int .i64 0, .int .i64 0, .slice none 0 0, .string (⟨#[]⟩ : ByteArray)]) ?_ 4 _ rfl; (with_reducible repeat (first | refine blk_drewN ?_ _ | refine blk_drew ?_ | refine blk_alloc ?_ _)); refine blk_put (cs := #[.int .i64 9, .int .i64 (rd t307 1), .int .i64 (rd t307 0), .int .i64 0, .int .i64 0, .slice none 0 0, .string (⟨#[]⟩ : ByteArray)]) ?_ 3 _ rfl; (with_reducible repeat (first | refine blk_drewN ?_ _ | refine blk_drew ?_ | refine blk_alloc ?_ _)); refine blk_put (cs := #[.int .i64 9, .int .i64 (rd t307 1), .int .i64 0, .int .i64 0, .int .i64 0, .slice none 0 0, .string (⟨#[]⟩ : ByteArray)]) ?_ 2 _ rfl; (with_reducible repeat (first | refine blk_drewN ?_ _ | refine blk_drew ?_ | refine blk_alloc ?_ _)); refine blk_put (cs := #[.int .i64 9, .int .i64 0, .int .i64 0, .int .i64 0, .int .i64 0, .slice none 0 0, .string (⟨#[]⟩ : ByteArray)]) ?_ 1 _ rfl; (with_reducible repeat (first | refine blk_drewN ?_ _ | refine blk_drew ?_ | refine blk_alloc ?_ _)); refine blk_put (cs := #[.int .i64 0, .int .i64 0, .int .i64 0, .int .i64 0, .int .i64 0, .slice none 0 0, .string (⟨#[]⟩ : ByteArray)]) ?_ 0 _ rfl; (with_reducible repeat (first | refine blk_drewN ?_ _ | refine blk_drew ?_ | refine blk_alloc ?_ _)); exact BK311.out⟩, ⟨by repeat (first | (with_reducible first | exact HB.out | apply below_alloc | apply pw_below_drewN | apply below_drew1 | refine below_set ?_ GE294.out | refine below_set ?_ GE311.out) | exact HB.out)⟩⟩
                  ·rw [if_neg c72] at H
                   exact absurd H (by simp)
                 ·rw [if_neg c71] at H
                  exact absurd H (by simp)
                ·rw [if_neg c70] at H
                 have c70b0 : ((t307.length : Int) == 2) = false := beq_eq_false_iff_ne.mpr c70
                 have c70b1 : ((t307.length : Int) != 2) = true := bne_iff_ne.mpr c70
                 have H' := Aside0.mk H
                 clear H
                 obtain ⟨Ao82, co82, eo82⟩ := Kd.R_slice HO_4.out
                 subst eo82
                 go_wp2
                 go_meet
                 case rel => exact ⟨_, (2), (0), (0), (0), (0), (0), (([] : List (S98))), ((⟨#[]⟩ : ByteArray)), (.slice none 0 0), (by first | rfl | (simp; done) | (simp [*]; done)), H', ⟨by have := HJ40.out; have := HJ49.out; have := HJ52.out; first | omega | exact Nat.le_refl _⟩, ⟨by (with_reducible repeat (first | apply Kd.R_alloc | apply Kd.R_drewN | apply Kd.R_drew)); exact HO_4.out⟩, ⟨by first | exact Kd.R_nil _ _ _ _ _ | exact Kd.N_nil _ _ _ _ _ | exact Kd.V_nil _ _ _ _ _ | exact Kd.Q_nil _ _ _ _ _ | exact Kd.S_nil _ _ _ _ _⟩, ⟨by (with_reducible repeat (first | refine blk_drewN ?_ _ | refine blk_drew ?_ | refine blk_alloc ?_ _)); exact BK294.out⟩, ⟨by (with_reducible repeat (first | refine blk_drewN ?_ _ | refine blk_drew ?_ | refine blk_alloc ?_ _)); exact BK311.out⟩, ⟨by repeat (first | (with_reducible first | exact HB.out | apply below_alloc | apply pw_below_drewN | apply below_drew1 | refine below_set ?_ GE294.out | refine below_set ?_ GE311.out) | exact HB.out)⟩⟩
            ·replace c52 := Bool.eq_false_iff.mpr c52
             subst c52
             have H1 : (if (t307.length : Int) = 1 then (if 0 < (l0.length : Int) then (if 0 < (t307.length : Int) then ((impl_single.f (rdOf ByteArray.empty l0 0) (rd t307 0)).bind fun bt330 => (impl_eventOf.j3 kj49 t307 1 bt330.1 bt330.2.1 bt330.2.2.1 bt330.2.2.2.1 bt330.2.2.2.2.1 bt330.2.2.2.2.2.1 bt330.2.2.2.2.2.2)) else (none)) else (none)) else (impl_eventOf.j3 kj49 t307 1 0 0 0 0 0 ([] : List (S98)) (⟨#[]⟩ : ByteArray))) = some (r1, r2, r3, r4, r5, r6, r7, r8) := by rw [if_neg (show ¬ (false = true) by decide)] at H; exact H
             clear H
             have H := H1
             clear H1
             by_cases c83 : (t307.length : Int) = 1
             ·rw [if_pos c83] at H
              have c83b0 : ((t307.length : Int) == 1) = true := beq_iff_eq.mpr c83
              have c83b1 : ((t307.length : Int) != 1) = false := bne_eq_false_iff_eq.mpr c83
              clear c83
              by_cases c84 : 0 < (l0.length : Int)
              ·rw [if_pos c84] at H
               have c84b0 : decide (0 < (l0.length : Int)) = true := decide_eq_true c84
               have c84b1 : decide (0 < l0.length) = true := decide_eq_true (by omega)
               clear c84
               by_cases c85 : 0 < (t307.length : Int)
               ·rw [if_pos c85] at H
                have c85b0 : decide (0 < (t307.length : Int)) = true := decide_eq_true c85
                have c85b1 : decide (0 < t307.length) = true := decide_eq_true (by omega)
                clear c85
                replace H := Option.bind_eq_some_iff.mp H
                obtain ⟨⟨t330, t331, t332, t333, t334, t335, t338⟩, A860, H⟩ := H
                replace H : (impl_eventOf.j3 kj49 t307 1 t330 t331 t332 t333 t334 t335 t338) = some (r1, r2, r3, r4, r5, r6, r7, r8) := H
                have A86 := Aside0.mk A860
                clear A860
                have H' := Aside0.mk H
                clear H
                obtain ⟨Ao87, co87, eo87⟩ := Kd.R_slice HO_4.out
                subst eo87
                try go_wp2
                have n0_ := Aside0.mk (Kd.R_drew HO_4.out)
                have n1_ := Aside0.mk (blk_drew BK294.out)
                have n2_ := Aside0.mk (blk_drew BK311.out)
                have n3_ := Aside0.mk (below_drew1 HB.out)
                clear HO_4
                clear BK294
                clear BK311
                clear HB
                have HO_4 := n0_
                have BK294 := n1_
                have BK311 := n2_
                have HB := n3_
                clear n0_ n1_ n2_ n3_
                have p328 : 0 ≤ (0 : Int) := (by omega)
                have q328 : 0 < (l0.length : Int) := of_decide_eq_true (by first | (with_reducible assumption) | assumption)
                obtain ⟨ad328, e328, hx328_0⟩ := Kd.at_string HR0.out 0 p328 q328
                have hw328_0 := hx328_0
                (try rw [show ((0 : Int)).toNat = 0 from rfl] at hw328_0)
                (try rw [show 0 * 1 = 0 from rfl] at hw328_0)
                (try rw [Addr.add_zero'] at hw328_0)
                obtain rfl : ad295 = ad328 := (by injection e328)
                have qi328 : (0 < l0.length) = True := eq_true (by omega)
                (try rw [show ((0 : Int)).toNat = 0 from rfl] at hx328_0)
                (try rw [Addr.add_zero'] at hx328_0)
                replace hx328_0 := (HB.out.cell (World.block_lt_of_cell? w _ hx328_0)).trans hx328_0
                replace p328 := eq_true p328
                replace q328 := eq_true q328
                have p329 : 0 ≤ (0 : Int) := (by omega)
                have q329 : 0 < (t307.length : Int) := of_decide_eq_true (by first | (with_reducible assumption) | assumption)
                obtain ⟨ad329, e329, hx329_0⟩ := Kd.at_int (Kd.R_reads' HO_4.out).2.2 0 p329 q329
                cases e329
                have qi329 : (0 < t307.length) = True := eq_true (by omega)
                (try rw [show ((0 : Int)).toNat = 0 from rfl] at hx329_0)
                (try rw [Addr.add_zero'] at hx329_0)
                replace p329 := eq_true p329
                replace q329 := eq_true q329
                refine start_ (n := 8) (S := fun w' => w'.cell? ad295 = some (.string (rdOf ByteArray.empty l0 0)) ∧ w'.cell? ad329 = some (.int .i64 (rd t307 0))) (ds := []) #[false, false, false, false, false, false, false, false] (by kernel_rfl) rfl rfl ⟨((HB.out.cell (World.block_lt_of_cell? w _ hw328_0)).trans hw328_0), hx329_0⟩ (fun hHeld => ?_); refine with_tabW impl_eventOf.tab10 impl_eventOf.bits10 (fun HT_ HW_ => ?_)
                generalize wc.drew = w88 at HO_4 BK294 BK311 HB hx328_0 hx329_0 hHeld ⊢
                refine pure_ (i := 0) (N := some 33) (v := ?_) (a' := ?_) #[true, false, false, false, false, false, false, false] rfl rfl (any_of HT_.out (by kernel_rfl)) (fun _ _ _ h => h) (Or.inl ⟨by rfl, ?_⟩) ?_ ?_
                rotate_left
                ·intro w'
                 go_simp
                 with_reducible rfl
                rotate_left
                ·simp only [Act.put, List.setIfInBounds_toArray, List.set_cons_zero, List.set_cons_succ, i64_w, i32_w]
                 rfl
                refine pure_ (i := 1) (N := some 34) (v := ?_) (a' := ?_) #[true, true, false, false, false, false, false, false] rfl rfl (any_of HT_.out (by kernel_rfl)) (fun _ _ _ h => h) (Or.inl ⟨by rfl, ?_⟩) ?_ ?_
                rotate_left
                ·intro w'
                 go_simp
                 with_reducible rfl
                rotate_left
                ·simp only [Act.put, List.setIfInBounds_toArray, List.set_cons_zero, List.set_cons_succ, i64_w, i32_w]
                 rfl
                refine pure_ (i := 3) (N := some 36) (v := ?_) (a' := ?_) #[true, true, false, true, false, false, false, false] rfl rfl (any_of HT_.out (by kernel_rfl)) (fun _ _ _ h => h) (Or.inl ⟨by rfl, ?_⟩) ?_ ?_
                rotate_left
                ·intro w'
                 go_simp
                 with_reducible rfl
                rotate_left
                ·simp only [Act.put, List.setIfInBounds_toArray, List.set_cons_zero, List.set_cons_succ, i64_w, i32_w]
                 rfl
                refine pure_ (i := 4) (N := some 37) (v := ?_) (a' := ?_) #[true, true, false, true, true, false, false, false] rfl rfl (any_of HT_.out (by kernel_rfl)) (fun _ _ _ h => h) (Or.inl ⟨by rfl, ?_⟩) ?_ ?_
                rotate_left
                ·intro w'
                 go_simp
                 with_reducible rfl
                rotate_left
                ·simp only [Act.put, List.setIfInBounds_toArray, List.set_cons_zero, List.set_cons_succ, i64_w, i32_w]
                 rfl
                refine take_ (i := 2) (N := some 35) (v := ?_) (a' := ?_) #[true, true, true, true, true, false, false, false] rfl rfl (take_ofW HT_.out HW_.out (by kernel_rfl)) (fun _ _ _ h => h) (Or.inl ⟨by rfl, ?_⟩) hHeld ?_ ?_
                rotate_left
                ·rintro w' ⟨s0, s1⟩
                 go_simp
                 with_reducible rfl
                rotate_left
                ·simp only [Act.put, List.setIfInBounds_toArray, List.set_cons_zero, List.set_cons_succ, i64_w, i32_w]
                 rfl
                refine take_ (i := 5) (N := some 38) (v := ?_) (a' := ?_) #[true, true, true, true, true, true, false, false] rfl rfl (take_ofW HT_.out HW_.out (by kernel_rfl)) (fun _ _ _ h => h) (Or.inl ⟨by rfl, ?_⟩) hHeld ?_ ?_
                rotate_left
                ·rintro w' ⟨s0, s1⟩
                 go_simp
                 with_reducible rfl
                rotate_left
                ·simp only [Act.put, List.setIfInBounds_toArray, List.set_cons_zero, List.set_cons_succ, i64_w, i32_w]
                 rfl
                refine one_ (i := 6) (N := some 39) #[true, true, true, true, true, true, true, false] rfl rfl (one_of HT_.out (by kernel_rfl)) (by decide) (fun K hK => ?_)
                refine goes_ Try.func92 (by kernel_rfl) rfl #[.string (rdOf ByteArray.empty l0 0), .int .i64 (rd t307 0)] (by rfl) rfl rfl (by (try simp only [List.map_toArray, List.map_cons, List.map_nil]); first | done | rfl | (simp only [List.length_drop, List.length_take]; rfl)) ?_
                with_reducible refine (impl_single.calls (rdOf ByteArray.empty l0 0) (rd t307 0) t330 t331 t332 t333 t334 t335 t338 _ A86.out).mono ?_
                rintro e w89 ⟨v336, rfl, ho0, hb⟩
                have HS1_ := (hb.cell (World.block_lt_of_cell? _ _ (hHeld.2))).trans (hHeld.2)
                refine ⟨_, rfl, ?_⟩
                have n0_ := Aside0.mk (Kd.R_below (by (with_reducible repeat (first | apply Kd.R_alloc | apply Kd.R_drewN | apply Kd.R_drew)); exact HO_4.out) hb)
                have n1_ := Aside0.mk (Kd.R_lower ho0 (below_size (by repeat (first | (with_reducible first | exact HB.out | apply below_alloc | apply pw_below_drewN | apply below_drew1 | refine below_set ?_ GE294.out | refine below_set ?_ GE311.out) | exact HB.out))))
                have n2_ := Aside0.mk (blk_below (g := gb294) (o := .cells #[.int .i64 0, .int .i64 0, .int .i64 0, .int .i64 0, .int .i64 0, .slice none 0 0, .string (⟨#[]⟩ : ByteArray)] 69 (0, 0)) (by (with_reducible repeat (first | refine blk_drewN ?_ _ | refine blk_drew ?_ | refine blk_alloc ?_ _)); exact BK294.out) hb)
                have n3_ := Aside0.mk (blk_below (g := gb311) (o := .cells #[.int .i64 0, .int .i64 0, .int .i64 0, .int .i64 0, .int .i64 0, .slice none 0 0, .string (⟨#[]⟩ : ByteArray)] 69 (0, 0)) (by (with_reducible repeat (first | refine blk_drewN ?_ _ | refine blk_drew ?_ | refine blk_alloc ?_ _)); exact BK311.out) hb)
                have n4_ := Aside0.mk (below_step (by repeat (first | (with_reducible first | exact HB.out | apply below_alloc | apply pw_below_drewN | apply below_drew1 | refine below_set ?_ GE294.out | refine below_set ?_ GE311.out) | exact HB.out)) hb)
                clear HO_4
                clear BK294
                clear BK311
                clear HB
                have HO_4 := n0_
                have HO337 := n1_
                have BK294 := n2_
                have BK311 := n3_
                have HB := n4_
                clear n0_ n1_ n2_ n3_ n4_
                (try clear hb)
                (try clear hb2)
                (try clear hk)
                (try clear hi)
                (try clear ho0)
                obtain ⟨Ao95, co95, eo95⟩ := Kd.R_slice HO337.out
                (first | subst eo95 | (injection eo95 with f1_ f2_ f3_; have f4_ := f1_.symm; have f5_ := f3_.symm; clear f1_ f2_ f3_; subst f4_; subst f5_))
                refine hK.out _ _ ⟨((HB.out.cell (World.block_lt_of_cell? w _ hw328_0)).trans hw328_0), HS1_⟩ (fun hHeld => ?_)
                clear hK K
                refine norm_ (a' := ?_) ?_ ?_
                rotate_left
                ·show Act.put _ (some 39) _ = _
                 simp only [Act.put, List.setIfInBounds_toArray, List.set_cons_zero, List.set_cons_succ, i64_w, i32_w]
                 rfl
                refine one_ (i := 7) (N := none) #[true, true, true, true, true, true, true, true] rfl rfl (one_of HT_.out (by kernel_rfl)) (by decide) (fun K hK => ?_)
                have hs90 : w89.cell? ⟨gb311, 0, none⟩ = some (.int .i64 0) := (blk_cell BK311.out 0).trans rfl
                have hfs90 := blk_frozen BK311.out 0
                have hns90_0 := NB294_311.out
                have hms90_0 := NB311_294.out
                have hs91 : w89.cell? ⟨gb311, 1, none⟩ = some (.int .i64 0) := (blk_cell BK311.out 1).trans rfl
                have hfs91 := blk_frozen BK311.out 1
                have hns91_0 := NB294_311.out
                have hms91_0 := NB311_294.out
                have hs92 : w89.cell? ⟨gb311, 2, none⟩ = some (.int .i64 0) := (blk_cell BK311.out 2).trans rfl
                have hfs92 := blk_frozen BK311.out 2
                have hns92_0 := NB294_311.out
                have hms92_0 := NB311_294.out
                have hs93 : w89.cell? ⟨gb311, 3, none⟩ = some (.int .i64 0) := (blk_cell BK311.out 3).trans rfl
                have hfs93 := blk_frozen BK311.out 3
                have hns93_0 := NB294_311.out
                have hms93_0 := NB311_294.out
                have hs94 : w89.cell? ⟨gb311, 4, none⟩ = some (.int .i64 0) := (blk_cell BK311.out 4).trans rfl
                have hfs94 := blk_frozen BK311.out 4
                have hns94_0 := NB294_311.out
                have hms94_0 := NB311_294.out
                have hs96 : w89.cell? ⟨gb311, 5, none⟩ = some (.slice none 0 0) := (blk_cell BK311.out 5).trans rfl
                have hfs96 := blk_frozen BK311.out 5
                have hns96_0 := NB294_311.out
                have hms96_0 := NB311_294.out
                have hs97 : w89.cell? ⟨gb311, 6, none⟩ = some (.string (⟨#[]⟩ : ByteArray)) := (blk_cell BK311.out 6).trans rfl
                have hfs97 := blk_frozen BK311.out 6
                have hns97_0 := NB294_311.out
                have hms97_0 := NB311_294.out
                refine skip_ (w1 := ?_) (by rfl) rfl ?_ ?_
                rotate_left
                ·go_simp
                 rfl
                have hA0_ : ad295.block ≠ gb311 := Nat.ne_of_lt (Nat.lt_of_lt_of_le (by have := World.block_lt_of_cell? _ _ hw328_0; first | rwa [add_block] at this | exact this) GW311.out)
                have hA1_ : ad329.block ≠ gb311 := Kd.own_blk (Kd.R_ne HO_4.out BK311.out (by decide))
                refine hK.out _ _ ⟨((cell_far (p := ⟨gb311, _, none⟩) (by exact hA0_) _).trans (((cell_far (p := ⟨gb311, _, none⟩) (by exact hA0_) _).trans (((cell_far (p := ⟨gb311, _, none⟩) (by exact hA0_) _).trans (((cell_far (p := ⟨gb311, _, none⟩) (by exact hA0_) _).trans (((cell_far (p := ⟨gb311, _, none⟩) (by exact hA0_) _).trans (((cell_far (p := ⟨gb311, _, none⟩) (by exact hA0_) _).trans (((cell_far (p := ⟨gb311, _, none⟩) (by exact hA0_) _).trans (hHeld.1)))))))))))))), ((cell_far (p := ⟨gb311, _, none⟩) (by exact hA1_) _).trans (((cell_far (p := ⟨gb311, _, none⟩) (by exact hA1_) _).trans (((cell_far (p := ⟨gb311, _, none⟩) (by exact hA1_) _).trans (((cell_far (p := ⟨gb311, _, none⟩) (by exact hA1_) _).trans (((cell_far (p := ⟨gb311, _, none⟩) (by exact hA1_) _).trans (((cell_far (p := ⟨gb311, _, none⟩) (by exact hA1_) _).trans (((cell_far (p := ⟨gb311, _, none⟩) (by exact hA1_) _).trans (hHeld.2))))))))))))))⟩ (fun hHeld => ?_)
                clear hK K
                refine done_ (done_of HT_.out (by kernel_rfl)) ?_
                try go_wp2
                go_meet
                case rel => exact ⟨_, (1), (t330), (t331), (t332), (t333), (t334), (t335), (t338), (.slice Ao95 t335.length co95), (by first | rfl | (simp; done) | (simp [*]; done)), H', ⟨by have := HJ40.out; have := HJ49.out; first | omega | exact Nat.le_refl _⟩, ⟨by (with_reducible repeat (first | apply Kd.R_alloc | apply Kd.R_drewN | apply Kd.R_drew)); exact Kd.R_mono (Kd.R_far (p := ⟨gb311, 6, none⟩) (Kd.R_far (p := ⟨gb311, 5, none⟩) (Kd.R_far (p := ⟨gb311, 4, none⟩) (Kd.R_far (p := ⟨gb311, 3, none⟩) (Kd.R_far (p := ⟨gb311, 2, none⟩) (Kd.R_far (p := ⟨gb311, 1, none⟩) (Kd.R_far (p := ⟨gb311, 0, none⟩) (Kd.R_types HO_4.out BK311.out (by decide)) (fun _ hk => hk.2) (.int .i64 t330)) (fun _ hk => hk.2) (.int .i64 t331)) (fun _ hk => hk.2) (.int .i64 t332)) (fun _ hk => hk.2) (.int .i64 t333)) (fun _ hk => hk.2) (.int .i64 t334)) (fun _ hk => hk.2) (.slice Ao95 t335.length co95)) (fun _ hk => hk.2) (.string t338)) (fun _ hk => trivial)⟩, ⟨by (with_reducible repeat (first | apply Kd.R_alloc | apply Kd.R_drewN | apply Kd.R_drew)); exact Kd.R_mono (Kd.R_far (p := ⟨gb311, 6, none⟩) (Kd.R_far (p := ⟨gb311, 5, none⟩) (Kd.R_far (p := ⟨gb311, 4, none⟩) (Kd.R_far (p := ⟨gb311, 3, none⟩) (Kd.R_far (p := ⟨gb311, 2, none⟩) (Kd.R_far (p := ⟨gb311, 1, none⟩) (Kd.R_far (p := ⟨gb311, 0, none⟩) (Kd.R_types HO337.out BK311.out (by decide)) (fun _ hk => hk.2) (.int .i64 t330)) (fun _ hk => hk.2) (.int .i64 t331)) (fun _ hk => hk.2) (.int .i64 t332)) (fun _ hk => hk.2) (.int .i64 t333)) (fun _ hk => hk.2) (.int .i64 t334)) (fun _ hk => hk.2) (.slice Ao95 t335.length co95)) (fun _ hk => hk.2) (.string t338)) (fun _ hk => trivial)⟩, ⟨by (with_reducible repeat (first | refine blk_drewN ?_ _ | refine blk_drew ?_ | refine blk_alloc ?_ _)); refine blk_far ?_ NB294_311.out _; (with_reducible repeat (first | refine blk_drewN ?_ _ | refine blk_drew ?_ | refine blk_alloc ?_ _)); refine blk_far ?_ NB294_311.out _; (with_reducible repeat (first | refine blk_drewN ?_ _ | refine blk_drew ?_ | refine blk_alloc ?_ _)); refine blk_far ?_ NB294_311.out _; (with_reducible repeat (first | refine blk_drewN ?_ _ | refine blk_drew ?_ | refine blk_alloc ?_ _)); refine blk_far ?_ NB294_311.out _; (with_reducible repeat (first | refine blk_drewN ?_ _ | refine blk_drew ?_ | refine blk_alloc ?_ _)); refine blk_far ?_ NB294_311.out _; (with_reducible repeat (first | refine blk_drewN ?_ _ | refine blk_drew ?_ | refine blk_alloc ?_ _)); refine blk_far ?_ NB294_311.out _; (with_reducible repeat (first | refine blk_drewN ?_ _ | refine blk_drew ?_ | refine blk_alloc ?_ _)); refine blk_far ?_ NB294_311.out _; (with_reducible repeat (first | refine blk_drewN ?_ _ | refine blk_drew ?_ | refine blk_alloc ?_ _)); exact BK294.out⟩, ⟨by (with_reducible repeat (first | refine blk_drewN ?_ _ | refine blk_drew ?_ | refine blk_alloc ?_ _)); refine blk_put (cs := #[.int .i64 t330, .int .i64 t331, .int .i64 t332, .int .i64 t333, .int .i64 t334, .slice Ao95 t335.length co95, .string (⟨#[]⟩ : ByteArray)]) ?_ 6 _ rfl; (with_reducible repeat (first | refine blk_drewN ?_ _ | refine blk_drew ?_ | refine blk_alloc ?_ _)); refine blk_put (cs := #[.int .i64 t330, .int .i64 t331, .int .i64 t332, .int .i64 t333, .int .i64 t334, .slice none 0 0, .string (⟨#[]⟩ : ByteArray)]) ?_ 5 _ rfl; (with_reducible repeat (first | refine blk_drewN ?_ _ | refine blk_drew ?_ | refine blk_alloc ?_ _)); refine blk_put (cs := #[.int .i64 t330, .int .i64 t331, .int .i64 t332, .int .i64 t333, .int .i64 0, .slice none 0 0, .string (⟨#[]⟩ : ByteArray)]) ?_ 4 _ rfl; (with_reducible repeat (first | refine blk_drewN ?_ _ | refine blk_drew ?_ | refine blk_alloc ?_ _)); refine blk_put (cs := #[.int .i64 t330, .int .i64 t331, .int .i64 t332, .int .i64 0, .int .i64 0, .slice none 0 0, .string (⟨#[]⟩ : ByteArray)]) ?_ 3 _ rfl; (with_reducible repeat (first | refine blk_drewN ?_ _ | refine blk_drew ?_ | refine blk_alloc ?_ _)); refine blk_put (cs := #[.int .i64 t330, .int .i64 t331, .int .i64 0, .int .i64 0, .int .i64 0, .slice none 0 0, .string (⟨#[]⟩ : ByteArray)]) ?_ 2 _ rfl; (with_reducible repeat (first | refine blk_drewN ?_ _ | refine blk_drew ?_ | refine blk_alloc ?_ _)); refine blk_put (cs := #[.int .i64 t330, .int .i64 0, .int .i64 0, .int .i64 0, .int .i64 0, .slice none 0 0, .string (⟨#[]⟩ : ByteArray)]) ?_ 1 _ rfl; (with_reducible repeat (first | refine blk_drewN ?_ _ | refine blk_drew ?_ | refine blk_alloc ?_ _)); refine blk_put (cs := #[.int .i64 0, .int .i64 0, .int .i64 0, .int .i64 0, .int .i64 0, .slice none 0 0, .string (⟨#[]⟩ : ByteArray)]) ?_ 0 _ rfl; (with_reducible repeat (first | refine blk_drewN ?_ _ | refine blk_drew ?_ | refine blk_alloc ?_ _)); exact BK311.out⟩, ⟨by repeat (first | (with_reducible first | exact HB.out | apply below_alloc | apply pw_below_drewN | apply below_drew1 | refine below_set ?_ GE294.out | refine below_set ?_ GE311.out) | exact HB.out)⟩⟩
               ·rw [if_neg c85] at H
                exact absurd H (by simp)
              ·rw [if_neg c84] at H
               exact absurd H (by simp)
             ·rw [if_neg c83] at H
              have c83b0 : ((t307.length : Int) == 1) = false := beq_eq_false_iff_ne.mpr c83
              have c83b1 : ((t307.length : Int) != 1) = true := bne_iff_ne.mpr c83
              have H' := Aside0.mk H
              clear H
              obtain ⟨Ao98, co98, eo98⟩ := Kd.R_slice HO_4.out
              subst eo98
              go_wp2
              go_meet
              case rel => exact ⟨_, (1), (0), (0), (0), (0), (0), (([] : List (S98))), ((⟨#[]⟩ : ByteArray)), (.slice none 0 0), (by first | rfl | (simp; done) | (simp [*]; done)), H', ⟨by have := HJ40.out; have := HJ49.out; first | omega | exact Nat.le_refl _⟩, ⟨by (with_reducible repeat (first | apply Kd.R_alloc | apply Kd.R_drewN | apply Kd.R_drew)); exact HO_4.out⟩, ⟨by first | exact Kd.R_nil _ _ _ _ _ | exact Kd.N_nil _ _ _ _ _ | exact Kd.V_nil _ _ _ _ _ | exact Kd.Q_nil _ _ _ _ _ | exact Kd.S_nil _ _ _ _ _⟩, ⟨by (with_reducible repeat (first | refine blk_drewN ?_ _ | refine blk_drew ?_ | refine blk_alloc ?_ _)); exact BK294.out⟩, ⟨by (with_reducible repeat (first | refine blk_drewN ?_ _ | refine blk_drew ?_ | refine blk_alloc ?_ _)); exact BK311.out⟩, ⟨by repeat (first | (with_reducible first | exact HB.out | apply below_alloc | apply pw_below_drewN | apply below_drew1 | refine below_set ?_ GE294.out | refine below_set ?_ GE311.out) | exact HB.out)⟩⟩
     case rest =>
      clear HC12
      try clear p2
      try clear q2
      try clear hx2
      try clear p3
      try clear q3
      try clear hx3
      try clear qi3
      try clear c5
      try clear c6
      try clear c7
      try clear c8
      try clear c9
      try clear p29
      try clear q29
      try clear hx29
      try clear p31
      try clear q31
      try clear hx31
      try clear p32
      try clear q32
      try clear hx32
      try clear qi32
      try clear c52
      try clear c58
      try clear c59
      try clear c59b0
      try clear c59b1
      try clear c60
      try clear c60b0
      try clear c60b1
      try clear c70
      try clear c70b0
      try clear c70b1
      try clear c71
      try clear c71b0
      try clear c71b1
      try clear c72
      try clear c72b0
      try clear c72b1
      try clear c83
      try clear c83b0
      try clear c83b1
      try clear c84
      try clear c84b0
      try clear c84b1
      try clear c85
      try clear c85b0
      try clear c85b1
      try clear c92
      try clear hfz18_3
      try clear hfz18_4
      try clear hfz18_5
      try clear hfz18_6
      try clear hfz47_0
      try clear hfz47_1
      try clear hfz47_2
      try clear hfz47_3
      try clear hfz47_4
      try clear hfz47_5
      try clear hfz47_6
      try clear hfz49_0
      try clear hfz49_1
      try clear hfz49_2
      try clear hfz49_3
      try clear hfz49_4
      try clear hfz49_5
      try clear hfz49_6
      try clear hfz7_0
      try clear hfz7_1
      try clear hfz7_2
      try clear hfz7_3
      try clear hfz7_4
      try clear hfz7_5
      try clear hfz7_6
      try clear hx295_0
      try clear hx312_0
      try clear hx313_0
      try clear hx314_0
      try clear hx315_0
      try clear hx316_0
      try clear hx317_0
      try clear hx318_0
      try clear hx322_0
      try clear hx323_0
      try clear hx324_0
      try clear hx325_0
      try clear hx326_0
      try clear hx327_0
      try clear hx328_0
      try clear hx329_0
      try clear p2
      try clear p29
      try clear p295
      try clear p3
      try clear p31
      try clear p312
      try clear p313
      try clear p314
      try clear p315
      try clear p316
      try clear p317
      try clear p318
      try clear p32
      try clear p322
      try clear p323
      try clear p324
      try clear p325
      try clear p326
      try clear p327
      try clear p328
      try clear p329
      try clear q2
      try clear q29
      try clear q295
      try clear q3
      try clear q31
      try clear q312
      try clear q313
      try clear q314
      try clear q315
      try clear q316
      try clear q317
      try clear q318
      try clear q32
      try clear q322
      try clear q323
      try clear q324
      try clear q325
      try clear q326
      try clear q327
      try clear q328
      try clear q329
      obtain ⟨kq, x7_11, x312000_11, x312001_11, x312002_11, x312003_11, x312004_11, x312005_11, x312006_11, u312005, rfl, HA, HJ11, HO_4, HO_312005, BK294, BK311, HB⟩ := hcut
      cases kq with
      | zero => exact absurd HA.out (by simp [impl_eventOf.j3])
      | succ kj11 =>
       have H := HA.out
       clear HA
       simp only [impl_eventOf.j3] at H
       by_cases c99 : (t307.length : Int) = x7_11
       ·rw [if_pos c99] at H
        have c99b0 : ((t307.length : Int) == x7_11) = true := beq_iff_eq.mpr c99
        have c99b1 : ((t307.length : Int) != x7_11) = false := bne_eq_false_iff_eq.mpr c99
        clear c99
        replace H := Option.bind_eq_some_iff.mp H
        obtain ⟨t339, A1000, H⟩ := H
        replace H : (some (x312000_11, x312001_11, x312002_11, x312003_11, x312004_11, x312005_11, x312006_11, t339)) = some (r1, r2, r3, r4, r5, r6, r7, r8) := H
        have A100 := Aside0.mk A1000
        clear A1000
        simp only [Option.some.injEq, Prod.mk.injEq] at H
        obtain ⟨rfl, rfl, rfl, rfl, rfl, rfl, rfl, rfl⟩ := H
        try go_wp2
        have n0_ := Aside0.mk (Kd.R_drew HO_4.out)
        have n1_ := Aside0.mk (Kd.R_drew HO_312005.out)
        have n2_ := Aside0.mk (blk_drew BK294.out)
        have n3_ := Aside0.mk (blk_drew BK311.out)
        have n4_ := Aside0.mk (below_drew1 HB.out)
        clear HO_4
        clear HO_312005
        clear BK294
        clear BK311
        clear HB
        have HO_4 := n0_
        have HO_312005 := n1_
        have BK294 := n2_
        have BK311 := n3_
        have HB := n4_
        clear n0_ n1_ n2_ n3_ n4_
        obtain ⟨Ao102, co102, eo102⟩ := Kd.R_slice HO_4.out
        (first | subst eo102 | (injection eo102 with f1_ f2_ f3_; have f4_ := f1_.symm; have f5_ := f3_.symm; clear f1_ f2_ f3_; subst f4_; subst f5_))
        obtain ⟨Ao103, co103, eo103⟩ := Kd.R_slice HO_312005.out
        (first | subst eo103 | (injection eo103 with f1_ f2_ f3_; have f4_ := f1_.symm; have f5_ := f3_.symm; clear f1_ f2_ f3_; subst f4_; subst f5_))
        refine start_ (n := 11) (S := fun w' => w'.cell? ⟨gb311, 0, none⟩ = some (.int .i64 x312000_11) ∧ w'.cell? ⟨gb311, 1, none⟩ = some (.int .i64 x312001_11) ∧ w'.cell? ⟨gb311, 2, none⟩ = some (.int .i64 x312002_11) ∧ w'.cell? ⟨gb311, 3, none⟩ = some (.int .i64 x312003_11) ∧ w'.cell? ⟨gb311, 4, none⟩ = some (.int .i64 x312004_11) ∧ w'.cell? ⟨gb311, 5, none⟩ = some (.slice Ao103 x312005_11.length co103) ∧ w'.cell? ⟨gb311, 6, none⟩ = some (.string x312006_11)) (ds := []) #[false, false, false, false, false, false, false, false, false, false, false] (by kernel_rfl) rfl rfl ⟨(blk_cell BK311.out 0).trans rfl, (blk_cell BK311.out 1).trans rfl, (blk_cell BK311.out 2).trans rfl, (blk_cell BK311.out 3).trans rfl, (blk_cell BK311.out 4).trans rfl, (blk_cell BK311.out 5).trans rfl, (blk_cell BK311.out 6).trans rfl⟩ (fun hHeld => ?_); refine with_tabW impl_eventOf.tab28 impl_eventOf.bits28 (fun HT_ HW_ => ?_)
        generalize wc.drew = w101 at HO_4 HO_312005 BK294 BK311 HB hHeld ⊢
        refine pure_ (i := 1) (N := some 111) (v := ?_) (a' := ?_) #[false, true, false, false, false, false, false, false, false, false, false] rfl rfl (any_of HT_.out (by kernel_rfl)) (fun _ _ _ h => h) (Or.inl ⟨by rfl, ?_⟩) ?_ ?_
        rotate_left
        ·intro w'
         go_simp
         with_reducible rfl
        rotate_left
        ·simp only [Act.put, List.setIfInBounds_toArray, List.set_cons_zero, List.set_cons_succ, i64_w, i32_w]
         rfl
        refine pure_ (i := 2) (N := some 112) (v := ?_) (a' := ?_) #[false, true, true, false, false, false, false, false, false, false, false] rfl rfl (any_of HT_.out (by kernel_rfl)) (fun _ _ _ h => h) (Or.inl ⟨by rfl, ?_⟩) ?_ ?_
        rotate_left
        ·intro w'
         go_simp
         with_reducible rfl
        rotate_left
        ·simp only [Act.put, List.setIfInBounds_toArray, List.set_cons_zero, List.set_cons_succ, i64_w, i32_w]
         rfl
        refine pure_ (i := 3) (N := some 113) (v := ?_) (a' := ?_) #[false, true, true, true, false, false, false, false, false, false, false] rfl rfl (any_of HT_.out (by kernel_rfl)) (fun _ _ _ h => h) (Or.inl ⟨by rfl, ?_⟩) ?_ ?_
        rotate_left
        ·intro w'
         go_simp
         with_reducible rfl
        rotate_left
        ·simp only [Act.put, List.setIfInBounds_toArray, List.set_cons_zero, List.set_cons_succ, i64_w, i32_w]
         rfl
        refine pure_ (i := 4) (N := some 114) (v := ?_) (a' := ?_) #[false, true, true, true, true, false, false, false, false, false, false] rfl rfl (any_of HT_.out (by kernel_rfl)) (fun _ _ _ h => h) (Or.inl ⟨by rfl, ?_⟩) ?_ ?_
        rotate_left
        ·intro w'
         go_simp
         with_reducible rfl
        rotate_left
        ·simp only [Act.put, List.setIfInBounds_toArray, List.set_cons_zero, List.set_cons_succ, i64_w, i32_w]
         rfl
        refine pure_ (i := 5) (N := some 115) (v := ?_) (a' := ?_) #[false, true, true, true, true, true, false, false, false, false, false] rfl rfl (any_of HT_.out (by kernel_rfl)) (fun _ _ _ h => h) (Or.inl ⟨by rfl, ?_⟩) ?_ ?_
        rotate_left
        ·intro w'
         go_simp
         with_reducible rfl
        rotate_left
        ·simp only [Act.put, List.setIfInBounds_toArray, List.set_cons_zero, List.set_cons_succ, i64_w, i32_w]
         rfl
        refine take_ (i := 0) (N := some 110) (v := ?_) (a' := ?_) #[true, true, true, true, true, true, false, false, false, false, false] rfl rfl (take_ofW HT_.out HW_.out (by kernel_rfl)) (fun _ _ _ h => h) (Or.inl ⟨by rfl, ?_⟩) hHeld ?_ ?_
        rotate_left
        ·rintro w' ⟨s0, s1, s2, s3, s4, s5, s6⟩
         go_simp
         with_reducible rfl
        rotate_left
        ·simp only [Act.put, List.setIfInBounds_toArray, List.set_cons_zero, List.set_cons_succ, i64_w, i32_w]
         rfl
        refine take_ (i := 6) (N := some 116) (v := ?_) (a' := ?_) #[true, true, true, true, true, true, true, false, false, false, false] rfl rfl (take_ofW HT_.out HW_.out (by kernel_rfl)) (fun _ _ _ h => h) (Or.inl ⟨by rfl, ?_⟩) hHeld ?_ ?_
        rotate_left
        ·rintro w' ⟨s0, s1, s2, s3, s4, s5, s6⟩
         go_simp
         with_reducible rfl
        rotate_left
        ·simp only [Act.put, List.setIfInBounds_toArray, List.set_cons_zero, List.set_cons_succ, i64_w, i32_w]
         rfl
        refine one_ (i := 7) (N := some 117) #[true, true, true, true, true, true, true, true, false, false, false] rfl rfl (one_of HT_.out (by kernel_rfl)) (by decide) (fun K hK => ?_)
        refine goes_ Try.func93 (by kernel_rfl) rfl #[.agg #[.int .i64 x312000_11, .int .i64 x312001_11, .int .i64 x312002_11, .int .i64 x312003_11, .int .i64 x312004_11, .slice Ao103 x312005_11.length co103, .string x312006_11]] (by rfl) rfl rfl (by (try simp only [List.map_toArray, List.map_cons, List.map_nil]); first | done | rfl | (simp only [List.length_drop, List.length_take]; rfl)) ?_
        with_reducible refine (impl_EventOk.calls kj11 x312000_11 x312001_11 x312002_11 x312003_11 x312004_11 _ _ x312005_11 x312006_11 t339 _ ?side1 ?side2 A100.out).mono ?_
        (case side1 => repeat (first | exact (Kd.R_reads' HO_312005.out).2.2 | (with_reducible refine Kd.C_alloc ?_ _) | (with_reducible refine Kd.C_drewN ?_ _) | (with_reducible refine Kd.C_drew ?_)))
        (case side2 => exact (Kd.R_reads' HO_312005.out).2.1)
        rintro e w104 ⟨rfl, hb⟩
        refine ⟨_, rfl, ?_⟩
        have n0_ := Aside0.mk (Kd.R_below (by (with_reducible repeat (first | apply Kd.R_alloc | apply Kd.R_drewN | apply Kd.R_drew)); exact HO_4.out) hb)
        have n1_ := Aside0.mk (Kd.R_below (by (with_reducible repeat (first | apply Kd.R_alloc | apply Kd.R_drewN | apply Kd.R_drew)); exact HO_312005.out) hb)
        have n2_ := Aside0.mk (blk_below (g := gb294) (o := .cells #[.int .i64 0, .int .i64 0, .int .i64 0, .int .i64 0, .int .i64 0, .slice none 0 0, .string (⟨#[]⟩ : ByteArray)] 69 (0, 0)) (by (with_reducible repeat (first | refine blk_drewN ?_ _ | refine blk_drew ?_ | refine blk_alloc ?_ _)); exact BK294.out) hb)
        have n3_ := Aside0.mk (blk_below (g := gb311) (o := .cells #[.int .i64 x312000_11, .int .i64 x312001_11, .int .i64 x312002_11, .int .i64 x312003_11, .int .i64 x312004_11, .slice Ao103 x312005_11.length co103, .string x312006_11] 69 (0, 0)) (by (with_reducible repeat (first | refine blk_drewN ?_ _ | refine blk_drew ?_ | refine blk_alloc ?_ _)); exact BK311.out) hb)
        have n4_ := Aside0.mk (below_step (by repeat (first | (with_reducible first | exact HB.out | apply below_alloc | apply pw_below_drewN | apply below_drew1 | refine below_set ?_ GE294.out | refine below_set ?_ GE311.out) | exact HB.out)) hb)
        clear HO_4
        clear HO_312005
        clear BK294
        clear BK311
        clear HB
        have HO_4 := n0_
        have HO_312005 := n1_
        have BK294 := n2_
        have BK311 := n3_
        have HB := n4_
        clear n0_ n1_ n2_ n3_ n4_
        (try clear hb)
        (try clear hb2)
        (try clear hk)
        (try clear hi)
        refine hK.out _ _ ⟨(blk_cell BK311.out 0).trans rfl, (blk_cell BK311.out 1).trans rfl, (blk_cell BK311.out 2).trans rfl, (blk_cell BK311.out 3).trans rfl, (blk_cell BK311.out 4).trans rfl, (blk_cell BK311.out 5).trans rfl, (blk_cell BK311.out 6).trans rfl⟩ (fun hHeld => ?_)
        clear hK K
        refine norm_ (a' := ?_) ?_ ?_
        rotate_left
        ·show Act.put _ (some 117) _ = _
         simp only [Act.put, List.setIfInBounds_toArray, List.set_cons_zero, List.set_cons_succ, i64_w, i32_w]
         rfl
        refine pure_ (i := 8) (N := some 118) (v := ?_) (a' := ?_) #[true, true, true, true, true, true, true, true, true, false, false] rfl rfl (any_of HT_.out (by kernel_rfl)) (fun _ _ _ h => h) (Or.inl ⟨by rfl, ?_⟩) ?_ ?_
        rotate_left
        ·intro w'
         go_simp
         with_reducible rfl
        rotate_left
        ·simp only [Act.put, List.setIfInBounds_toArray, List.set_cons_zero, List.set_cons_succ, i64_w, i32_w]
         rfl
        refine one_ (i := 9) (N := none) #[true, true, true, true, true, true, true, true, true, true, false] rfl rfl (one_of HT_.out (by kernel_rfl)) (by decide) (fun K hK => ?_)
        have hs105 : w104.cell? ⟨gb294, 0, none⟩ = some (.int .i64 0) := (blk_cell BK294.out 0).trans rfl
        have hfs105 := blk_frozen BK294.out 0
        have hns105_1 := NB311_294.out
        have hms105_1 := NB294_311.out
        have hs106 : w104.cell? ⟨gb294, 1, none⟩ = some (.int .i64 0) := (blk_cell BK294.out 1).trans rfl
        have hfs106 := blk_frozen BK294.out 1
        have hns106_1 := NB311_294.out
        have hms106_1 := NB294_311.out
        have hs107 : w104.cell? ⟨gb294, 2, none⟩ = some (.int .i64 0) := (blk_cell BK294.out 2).trans rfl
        have hfs107 := blk_frozen BK294.out 2
        have hns107_1 := NB311_294.out
        have hms107_1 := NB294_311.out
        have hs108 : w104.cell? ⟨gb294, 3, none⟩ = some (.int .i64 0) := (blk_cell BK294.out 3).trans rfl
        have hfs108 := blk_frozen BK294.out 3
        have hns108_1 := NB311_294.out
        have hms108_1 := NB294_311.out
        have hs109 : w104.cell? ⟨gb294, 4, none⟩ = some (.int .i64 0) := (blk_cell BK294.out 4).trans rfl
        have hfs109 := blk_frozen BK294.out 4
        have hns109_1 := NB311_294.out
        have hms109_1 := NB294_311.out
        have hs110 : w104.cell? ⟨gb294, 5, none⟩ = some (.slice none 0 0) := (blk_cell BK294.out 5).trans rfl
        have hfs110 := blk_frozen BK294.out 5
        have hns110_1 := NB311_294.out
        have hms110_1 := NB294_311.out
        have hs111 : w104.cell? ⟨gb294, 6, none⟩ = some (.string (⟨#[]⟩ : ByteArray)) := (blk_cell BK294.out 6).trans rfl
        have hfs111 := blk_frozen BK294.out 6
        have hns111_1 := NB311_294.out
        have hms111_1 := NB294_311.out
        refine skip_ (w1 := ?_) (by rfl) rfl ?_ ?_
        rotate_left
        ·go_simp
         rfl
        refine hK.out _ _ ⟨((cell_far (p := ⟨gb294, _, none⟩) NB311_294.out _).trans (((cell_far (p := ⟨gb294, _, none⟩) NB311_294.out _).trans (((cell_far (p := ⟨gb294, _, none⟩) NB311_294.out _).trans (((cell_far (p := ⟨gb294, _, none⟩) NB311_294.out _).trans (((cell_far (p := ⟨gb294, _, none⟩) NB311_294.out _).trans (((cell_far (p := ⟨gb294, _, none⟩) NB311_294.out _).trans (((cell_far (p := ⟨gb294, _, none⟩) NB311_294.out _).trans (hHeld.1)))))))))))))), ((cell_far (p := ⟨gb294, _, none⟩) NB311_294.out _).trans (((cell_far (p := ⟨gb294, _, none⟩) NB311_294.out _).trans (((cell_far (p := ⟨gb294, _, none⟩) NB311_294.out _).trans (((cell_far (p := ⟨gb294, _, none⟩) NB311_294.out _).trans (((cell_far (p := ⟨gb294, _, none⟩) NB311_294.out _).trans (((cell_far (p := ⟨gb294, _, none⟩) NB311_294.out _).trans (((cell_far (p := ⟨gb294, _, none⟩) NB311_294.out _).trans (hHeld.2.1)))))))))))))), ((cell_far (p := ⟨gb294, _, none⟩) NB311_294.out _).trans (((cell_far (p := ⟨gb294, _, none⟩) NB311_294.out _).trans (((cell_far (p := ⟨gb294, _, none⟩) NB311_294.out _).trans (((cell_far (p := ⟨gb294, _, none⟩) NB311_294.out _).trans (((cell_far (p := ⟨gb294, _, none⟩) NB311_294.out _).trans (((cell_far (p := ⟨gb294, _, none⟩) NB311_294.out _).trans (((cell_far (p := ⟨gb294, _, none⟩) NB311_294.out _).trans (hHeld.2.2.1)))))))))))))), ((cell_far (p := ⟨gb294, _, none⟩) NB311_294.out _).trans (((cell_far (p := ⟨gb294, _, none⟩) NB311_294.out _).trans (((cell_far (p := ⟨gb294, _, none⟩) NB311_294.out _).trans (((cell_far (p := ⟨gb294, _, none⟩) NB311_294.out _).trans (((cell_far (p := ⟨gb294, _, none⟩) NB311_294.out _).trans (((cell_far (p := ⟨gb294, _, none⟩) NB311_294.out _).trans (((cell_far (p := ⟨gb294, _, none⟩) NB311_294.out _).trans (hHeld.2.2.2.1)))))))))))))), ((cell_far (p := ⟨gb294, _, none⟩) NB311_294.out _).trans (((cell_far (p := ⟨gb294, _, none⟩) NB311_294.out _).trans (((cell_far (p := ⟨gb294, _, none⟩) NB311_294.out _).trans (((cell_far (p := ⟨gb294, _, none⟩) NB311_294.out _).trans (((cell_far (p := ⟨gb294, _, none⟩) NB311_294.out _).trans (((cell_far (p := ⟨gb294, _, none⟩) NB311_294.out _).trans (((cell_far (p := ⟨gb294, _, none⟩) NB311_294.out _).trans (hHeld.2.2.2.2.1)))))))))))))), ((cell_far (p := ⟨gb294, _, none⟩) NB311_294.out _).trans (((cell_far (p := ⟨gb294, _, none⟩) NB311_294.out _).trans (((cell_far (p := ⟨gb294, _, none⟩) NB311_294.out _).trans (((cell_far (p := ⟨gb294, _, none⟩) NB311_294.out _).trans (((cell_far (p := ⟨gb294, _, none⟩) NB311_294.out _).trans (((cell_far (p := ⟨gb294, _, none⟩) NB311_294.out _).trans (((cell_far (p := ⟨gb294, _, none⟩) NB311_294.out _).trans (hHeld.2.2.2.2.2.1)))))))))))))), ((cell_far (p := ⟨gb294, _, none⟩) NB311_294.out _).trans (((cell_far (p := ⟨gb294, _, none⟩) NB311_294.out _).trans (((cell_far (p := ⟨gb294, _, none⟩) NB311_294.out _).trans (((cell_far (p := ⟨gb294, _, none⟩) NB311_294.out _).trans (((cell_far (p := ⟨gb294, _, none⟩) NB311_294.out _).trans (((cell_far (p := ⟨gb294, _, none⟩) NB311_294.out _).trans (((cell_far (p := ⟨gb294, _, none⟩) NB311_294.out _).trans (hHeld.2.2.2.2.2.2))))))))))))))⟩ (fun hHeld => ?_)
        clear hK K
        refine pure_ (i := 10) (N := some 3) (v := ?_) (a' := ?_) #[true, true, true, true, true, true, true, true, true, true, true] rfl rfl (any_of HT_.out (by kernel_rfl)) (fun _ _ _ h => h) (Or.inl ⟨by rfl, ?_⟩) ?_ ?_
        rotate_left
        ·intro w'
         go_simp
         with_reducible rfl
        rotate_left
        ·simp only [Act.put, List.setIfInBounds_toArray, List.set_cons_zero, List.set_cons_succ, i64_w, i32_w]
         rfl
        refine done_ (done_of HT_.out (by kernel_rfl)) ?_
        try go_wp2
        refine bodyPost_ret (results_ct rfl _ _ gb294 69 #[.int .i64 x312000_11, .int .i64 x312001_11, .int .i64 x312002_11, .int .i64 x312003_11, .int .i64 x312004_11, .slice Ao103 x312005_11.length co103, .string x312006_11] (0, 0) _ rfl (by (with_reducible repeat (first | refine blk_drewN ?_ _ | refine blk_drew ?_ | refine blk_alloc ?_ _)); refine blk_put (cs := #[.int .i64 x312000_11, .int .i64 x312001_11, .int .i64 x312002_11, .int .i64 x312003_11, .int .i64 x312004_11, .slice Ao103 x312005_11.length co103, .string (⟨#[]⟩ : ByteArray)]) ?_ 6 _ rfl; (with_reducible repeat (first | refine blk_drewN ?_ _ | refine blk_drew ?_ | refine blk_alloc ?_ _)); refine blk_put (cs := #[.int .i64 x312000_11, .int .i64 x312001_11, .int .i64 x312002_11, .int .i64 x312003_11, .int .i64 x312004_11, .slice none 0 0, .string (⟨#[]⟩ : ByteArray)]) ?_ 5 _ rfl; (with_reducible repeat (first | refine blk_drewN ?_ _ | refine blk_drew ?_ | refine blk_alloc ?_ _)); refine blk_put (cs := #[.int .i64 x312000_11, .int .i64 x312001_11, .int .i64 x312002_11, .int .i64 x312003_11, .int .i64 0, .slice none 0 0, .string (⟨#[]⟩ : ByteArray)]) ?_ 4 _ rfl; (with_reducible repeat (first | refine blk_drewN ?_ _ | refine blk_drew ?_ | refine blk_alloc ?_ _)); refine blk_put (cs := #[.int .i64 x312000_11, .int .i64 x312001_11, .int .i64 x312002_11, .int .i64 0, .int .i64 0, .slice none 0 0, .string (⟨#[]⟩ : ByteArray)]) ?_ 3 _ rfl; (with_reducible repeat (first | refine blk_drewN ?_ _ | refine blk_drew ?_ | refine blk_alloc ?_ _)); refine blk_put (cs := #[.int .i64 x312000_11, .int .i64 x312001_11, .int .i64 0, .int .i64 0, .int .i64 0, .slice none 0 0, .string (⟨#[]⟩ : ByteArray)]) ?_ 2 _ rfl; (with_reducible repeat (first | refine blk_drewN ?_ _ | refine blk_drew ?_ | refine blk_alloc ?_ _)); refine blk_put (cs := #[.int .i64 x312000_11, .int .i64 0, .int .i64 0, .int .i64 0, .int .i64 0, .slice none 0 0, .string (⟨#[]⟩ : ByteArray)]) ?_ 1 _ rfl; (with_reducible repeat (first | refine blk_drewN ?_ _ | refine blk_drew ?_ | refine blk_alloc ?_ _)); refine blk_put (cs := #[.int .i64 0, .int .i64 0, .int .i64 0, .int .i64 0, .int .i64 0, .slice none 0 0, .string (⟨#[]⟩ : ByteArray)]) ?_ 0 _ rfl; (with_reducible repeat (first | refine blk_drewN ?_ _ | refine blk_drew ?_ | refine blk_alloc ?_ _)); exact BK294.out) Try.underlying69 rfl (by kernel_rfl)) rfl ?_
        exact ⟨_, by first | rfl | (simp [errW_none, errW_some] <;> rfl) | (simp [*, errW_none, errW_some] <;> rfl) | exact False.elim (Bool.noConfusion ((decide_eq_true (of_eq_true (by assumption))).symm.trans (by assumption))), by (with_reducible repeat (first | apply Kd.R_alloc | apply Kd.R_drewN | apply Kd.R_drew)); exact Kd.R_mono (Kd.R_far (p := ⟨gb294, 6, none⟩) (Kd.R_far (p := ⟨gb294, 5, none⟩) (Kd.R_far (p := ⟨gb294, 4, none⟩) (Kd.R_far (p := ⟨gb294, 3, none⟩) (Kd.R_far (p := ⟨gb294, 2, none⟩) (Kd.R_far (p := ⟨gb294, 1, none⟩) (Kd.R_far (p := ⟨gb294, 0, none⟩) (Kd.R_types HO_312005.out BK294.out (by decide)) (fun _ hk => hk.2) (.int .i64 x312000_11)) (fun _ hk => hk.2) (.int .i64 x312001_11)) (fun _ hk => hk.2) (.int .i64 x312002_11)) (fun _ hk => hk.2) (.int .i64 x312003_11)) (fun _ hk => hk.2) (.int .i64 x312004_11)) (fun _ hk => hk.2) (.slice Ao103 x312005_11.length co103)) (fun _ hk => hk.2) (.string x312006_11)) (fun _ hk => trivial), by repeat (first | (with_reducible first | exact HB.out | apply below_alloc | apply pw_below_drewN | apply below_drew1 | refine below_set ?_ GE294.out | refine below_set ?_ GE311.out) | exact HB.out)⟩
       ·rw [if_neg c99] at H
        have c99b0 : ((t307.length : Int) == x7_11) = false := beq_eq_false_iff_ne.mpr c99
        have c99b1 : ((t307.length : Int) != x7_11) = true := bne_iff_ne.mpr c99
        simp only [Option.some.injEq, Prod.mk.injEq] at H
        obtain ⟨rfl, rfl, rfl, rfl, rfl, rfl, rfl, rfl⟩ := H
        try go_wp2
        have n0_ := Aside0.mk (Kd.R_drew HO_4.out)
        have n1_ := Aside0.mk (Kd.R_drew HO_312005.out)
        have n2_ := Aside0.mk (blk_drew BK294.out)
        have n3_ := Aside0.mk (blk_drew BK311.out)
        have n4_ := Aside0.mk (below_drew1 HB.out)
        clear HO_4
        clear HO_312005
        clear BK294
        clear BK311
        clear HB
        have HO_4 := n0_
        have HO_312005 := n1_
        have BK294 := n2_
        have BK311 := n3_
        have HB := n4_
        clear n0_ n1_ n2_ n3_ n4_
        obtain ⟨Ao113, co113, eo113⟩ := Kd.R_slice HO_4.out
        (first | subst eo113 | (injection eo113 with f1_ f2_ f3_; have f4_ := f1_.symm; have f5_ := f3_.symm; clear f1_ f2_ f3_; subst f4_; subst f5_))
        obtain ⟨Ao119, co119, eo119⟩ := Kd.R_slice HO_312005.out
        (first | subst eo119 | (injection eo119 with f1_ f2_ f3_; have f4_ := f1_.symm; have f5_ := f3_.symm; clear f1_ f2_ f3_; subst f4_; subst f5_))
        refine start_ (n := 11) (S := fun w' => w'.cell? ⟨gb311, 0, none⟩ = some (.int .i64 x312000_11) ∧ w'.cell? ⟨gb311, 1, none⟩ = some (.int .i64 x312001_11) ∧ w'.cell? ⟨gb311, 2, none⟩ = some (.int .i64 x312002_11) ∧ w'.cell? ⟨gb311, 3, none⟩ = some (.int .i64 x312003_11) ∧ w'.cell? ⟨gb311, 4, none⟩ = some (.int .i64 x312004_11) ∧ w'.cell? ⟨gb311, 5, none⟩ = some (.slice Ao119 x312005_11.length co119) ∧ w'.cell? ⟨gb311, 6, none⟩ = some (.string x312006_11)) (ds := []) #[false, false, false, false, false, false, false, false, false, false, false] (by kernel_rfl) rfl rfl ⟨(blk_cell BK311.out 0).trans rfl, (blk_cell BK311.out 1).trans rfl, (blk_cell BK311.out 2).trans rfl, (blk_cell BK311.out 3).trans rfl, (blk_cell BK311.out 4).trans rfl, (blk_cell BK311.out 5).trans rfl, (blk_cell BK311.out 6).trans rfl⟩ (fun hHeld => ?_); refine with_tabW impl_eventOf.tab28 impl_eventOf.bits28 (fun HT_ HW_ => ?_)
        generalize wc.drew = w112 at HO_4 HO_312005 BK294 BK311 HB hHeld ⊢
        refine pure_ (i := 1) (N := some 111) (v := ?_) (a' := ?_) #[false, true, false, false, false, false, false, false, false, false, false] rfl rfl (any_of HT_.out (by kernel_rfl)) (fun _ _ _ h => h) (Or.inl ⟨by rfl, ?_⟩) ?_ ?_
        rotate_left
        ·intro w'
         go_simp
         with_reducible rfl
        rotate_left
        ·simp only [Act.put, List.setIfInBounds_toArray, List.set_cons_zero, List.set_cons_succ, i64_w, i32_w]
         rfl
        refine pure_ (i := 2) (N := some 112) (v := ?_) (a' := ?_) #[false, true, true, false, false, false, false, false, false, false, false] rfl rfl (any_of HT_.out (by kernel_rfl)) (fun _ _ _ h => h) (Or.inl ⟨by rfl, ?_⟩) ?_ ?_
        rotate_left
        ·intro w'
         go_simp
         with_reducible rfl
        rotate_left
        ·simp only [Act.put, List.setIfInBounds_toArray, List.set_cons_zero, List.set_cons_succ, i64_w, i32_w]
         rfl
        refine pure_ (i := 3) (N := some 113) (v := ?_) (a' := ?_) #[false, true, true, true, false, false, false, false, false, false, false] rfl rfl (any_of HT_.out (by kernel_rfl)) (fun _ _ _ h => h) (Or.inl ⟨by rfl, ?_⟩) ?_ ?_
        rotate_left
        ·intro w'
         go_simp
         with_reducible rfl
        rotate_left
        ·simp only [Act.put, List.setIfInBounds_toArray, List.set_cons_zero, List.set_cons_succ, i64_w, i32_w]
         rfl
        refine pure_ (i := 4) (N := some 114) (v := ?_) (a' := ?_) #[false, true, true, true, true, false, false, false, false, false, false] rfl rfl (any_of HT_.out (by kernel_rfl)) (fun _ _ _ h => h) (Or.inl ⟨by rfl, ?_⟩) ?_ ?_
        rotate_left
        ·intro w'
         go_simp
         with_reducible rfl
        rotate_left
        ·simp only [Act.put, List.setIfInBounds_toArray, List.set_cons_zero, List.set_cons_succ, i64_w, i32_w]
         rfl
        refine pure_ (i := 5) (N := some 115) (v := ?_) (a' := ?_) #[false, true, true, true, true, true, false, false, false, false, false] rfl rfl (any_of HT_.out (by kernel_rfl)) (fun _ _ _ h => h) (Or.inl ⟨by rfl, ?_⟩) ?_ ?_
        rotate_left
        ·intro w'
         go_simp
         with_reducible rfl
        rotate_left
        ·simp only [Act.put, List.setIfInBounds_toArray, List.set_cons_zero, List.set_cons_succ, i64_w, i32_w]
         rfl
        refine pure_ (i := 6) (N := some 116) (v := undef) (a' := ?_) #[false, true, true, true, true, true, true, false, false, false, false] rfl rfl (any_of HT_.out (by kernel_rfl)) (fun _ _ _ h => h) (Or.inr ⟨by rfl, rfl⟩) ?_ ?_
        rotate_left
        ·simp only [Act.put, List.setIfInBounds_toArray, List.set_cons_zero, List.set_cons_succ, i64_w, i32_w]
         rfl
        refine pure_ (i := 7) (N := some 117) (v := undef) (a' := ?_) #[false, true, true, true, true, true, true, true, false, false, false] rfl rfl (any_of HT_.out (by kernel_rfl)) (fun _ _ _ h => h) (Or.inr ⟨by rfl, rfl⟩) ?_ ?_
        rotate_left
        ·simp only [Act.put, List.setIfInBounds_toArray, List.set_cons_zero, List.set_cons_succ, i64_w, i32_w]
         rfl
        refine pure_ (i := 8) (N := some 118) (v := ?_) (a' := ?_) #[false, true, true, true, true, true, true, true, true, false, false] rfl rfl (any_of HT_.out (by kernel_rfl)) (fun _ _ _ h => h) (Or.inl ⟨by rfl, ?_⟩) ?_ ?_
        rotate_left
        ·intro w'
         go_simp
         with_reducible rfl
        rotate_left
        ·simp only [Act.put, List.setIfInBounds_toArray, List.set_cons_zero, List.set_cons_succ, i64_w, i32_w]
         rfl
        refine take_ (i := 0) (N := some 110) (v := ?_) (a' := ?_) #[true, true, true, true, true, true, true, true, true, false, false] rfl rfl (take_ofW HT_.out HW_.out (by kernel_rfl)) (fun _ _ _ h => h) (Or.inl ⟨by rfl, ?_⟩) hHeld ?_ ?_
        rotate_left
        ·rintro w' ⟨s0, s1, s2, s3, s4, s5, s6⟩
         go_simp
         with_reducible rfl
        rotate_left
        ·simp only [Act.put, List.setIfInBounds_toArray, List.set_cons_zero, List.set_cons_succ, i64_w, i32_w]
         rfl
        refine one_ (i := 9) (N := none) #[true, true, true, true, true, true, true, true, true, true, false] rfl rfl (one_of HT_.out (by kernel_rfl)) (by decide) (fun K hK => ?_)
        have hs114 : w112.cell? ⟨gb294, 0, none⟩ = some (.int .i64 0) := (blk_cell BK294.out 0).trans rfl
        have hfs114 := blk_frozen BK294.out 0
        have hns114_1 := NB311_294.out
        have hms114_1 := NB294_311.out
        have hs115 : w112.cell? ⟨gb294, 1, none⟩ = some (.int .i64 0) := (blk_cell BK294.out 1).trans rfl
        have hfs115 := blk_frozen BK294.out 1
        have hns115_1 := NB311_294.out
        have hms115_1 := NB294_311.out
        have hs116 : w112.cell? ⟨gb294, 2, none⟩ = some (.int .i64 0) := (blk_cell BK294.out 2).trans rfl
        have hfs116 := blk_frozen BK294.out 2
        have hns116_1 := NB311_294.out
        have hms116_1 := NB294_311.out
        have hs117 : w112.cell? ⟨gb294, 3, none⟩ = some (.int .i64 0) := (blk_cell BK294.out 3).trans rfl
        have hfs117 := blk_frozen BK294.out 3
        have hns117_1 := NB311_294.out
        have hms117_1 := NB294_311.out
        have hs118 : w112.cell? ⟨gb294, 4, none⟩ = some (.int .i64 0) := (blk_cell BK294.out 4).trans rfl
        have hfs118 := blk_frozen BK294.out 4
        have hns118_1 := NB311_294.out
        have hms118_1 := NB294_311.out
        have hs120 : w112.cell? ⟨gb294, 5, none⟩ = some (.slice none 0 0) := (blk_cell BK294.out 5).trans rfl
        have hfs120 := blk_frozen BK294.out 5
        have hns120_1 := NB311_294.out
        have hms120_1 := NB294_311.out
        have hs121 : w112.cell? ⟨gb294, 6, none⟩ = some (.string (⟨#[]⟩ : ByteArray)) := (blk_cell BK294.out 6).trans rfl
        have hfs121 := blk_frozen BK294.out 6
        have hns121_1 := NB311_294.out
        have hms121_1 := NB294_311.out
        refine skip_ (w1 := ?_) (by rfl) rfl ?_ ?_
        rotate_left
        ·go_simp
         rfl
        refine hK.out _ _ ⟨((cell_far (p := ⟨gb294, _, none⟩) NB311_294.out _).trans (((cell_far (p := ⟨gb294, _, none⟩) NB311_294.out _).trans (((cell_far (p := ⟨gb294, _, none⟩) NB311_294.out _).trans (((cell_far (p := ⟨gb294, _, none⟩) NB311_294.out _).trans (((cell_far (p := ⟨gb294, _, none⟩) NB311_294.out _).trans (((cell_far (p := ⟨gb294, _, none⟩) NB311_294.out _).trans (((cell_far (p := ⟨gb294, _, none⟩) NB311_294.out _).trans (hHeld.1)))))))))))))), ((cell_far (p := ⟨gb294, _, none⟩) NB311_294.out _).trans (((cell_far (p := ⟨gb294, _, none⟩) NB311_294.out _).trans (((cell_far (p := ⟨gb294, _, none⟩) NB311_294.out _).trans (((cell_far (p := ⟨gb294, _, none⟩) NB311_294.out _).trans (((cell_far (p := ⟨gb294, _, none⟩) NB311_294.out _).trans (((cell_far (p := ⟨gb294, _, none⟩) NB311_294.out _).trans (((cell_far (p := ⟨gb294, _, none⟩) NB311_294.out _).trans (hHeld.2.1)))))))))))))), ((cell_far (p := ⟨gb294, _, none⟩) NB311_294.out _).trans (((cell_far (p := ⟨gb294, _, none⟩) NB311_294.out _).trans (((cell_far (p := ⟨gb294, _, none⟩) NB311_294.out _).trans (((cell_far (p := ⟨gb294, _, none⟩) NB311_294.out _).trans (((cell_far (p := ⟨gb294, _, none⟩) NB311_294.out _).trans (((cell_far (p := ⟨gb294, _, none⟩) NB311_294.out _).trans (((cell_far (p := ⟨gb294, _, none⟩) NB311_294.out _).trans (hHeld.2.2.1)))))))))))))), ((cell_far (p := ⟨gb294, _, none⟩) NB311_294.out _).trans (((cell_far (p := ⟨gb294, _, none⟩) NB311_294.out _).trans (((cell_far (p := ⟨gb294, _, none⟩) NB311_294.out _).trans (((cell_far (p := ⟨gb294, _, none⟩) NB311_294.out _).trans (((cell_far (p := ⟨gb294, _, none⟩) NB311_294.out _).trans (((cell_far (p := ⟨gb294, _, none⟩) NB311_294.out _).trans (((cell_far (p := ⟨gb294, _, none⟩) NB311_294.out _).trans (hHeld.2.2.2.1)))))))))))))), ((cell_far (p := ⟨gb294, _, none⟩) NB311_294.out _).trans (((cell_far (p := ⟨gb294, _, none⟩) NB311_294.out _).trans (((cell_far (p := ⟨gb294, _, none⟩) NB311_294.out _).trans (((cell_far (p := ⟨gb294, _, none⟩) NB311_294.out _).trans (((cell_far (p := ⟨gb294, _, none⟩) NB311_294.out _).trans (((cell_far (p := ⟨gb294, _, none⟩) NB311_294.out _).trans (((cell_far (p := ⟨gb294, _, none⟩) NB311_294.out _).trans (hHeld.2.2.2.2.1)))))))))))))), ((cell_far (p := ⟨gb294, _, none⟩) NB311_294.out _).trans (((cell_far (p := ⟨gb294, _, none⟩) NB311_294.out _).trans (((cell_far (p := ⟨gb294, _, none⟩) NB311_294.out _).trans (((cell_far (p := ⟨gb294, _, none⟩) NB311_294.out _).trans (((cell_far (p := ⟨gb294, _, none⟩) NB311_294.out _).trans (((cell_far (p := ⟨gb294, _, none⟩) NB311_294.out _).trans (((cell_far (p := ⟨gb294, _, none⟩) NB311_294.out _).trans (hHeld.2.2.2.2.2.1)))))))))))))), ((cell_far (p := ⟨gb294, _, none⟩) NB311_294.out _).trans (((cell_far (p := ⟨gb294, _, none⟩) NB311_294.out _).trans (((cell_far (p := ⟨gb294, _, none⟩) NB311_294.out _).trans (((cell_far (p := ⟨gb294, _, none⟩) NB311_294.out _).trans (((cell_far (p := ⟨gb294, _, none⟩) NB311_294.out _).trans (((cell_far (p := ⟨gb294, _, none⟩) NB311_294.out _).trans (((cell_far (p := ⟨gb294, _, none⟩) NB311_294.out _).trans (hHeld.2.2.2.2.2.2))))))))))))))⟩ (fun hHeld => ?_)
        clear hK K
        refine pure_ (i := 10) (N := some 3) (v := ?_) (a' := ?_) #[true, true, true, true, true, true, true, true, true, true, true] rfl rfl (any_of HT_.out (by kernel_rfl)) (fun _ _ _ h => h) (Or.inl ⟨by rfl, ?_⟩) ?_ ?_
        rotate_left
        ·intro w'
         go_simp
         with_reducible rfl
        rotate_left
        ·simp only [Act.put, List.setIfInBounds_toArray, List.set_cons_zero, List.set_cons_succ, i64_w, i32_w]
         rfl
        refine done_ (done_of HT_.out (by kernel_rfl)) ?_
        try go_wp2
        refine bodyPost_ret (results_ct rfl _ _ gb294 69 #[.int .i64 x312000_11, .int .i64 x312001_11, .int .i64 x312002_11, .int .i64 x312003_11, .int .i64 x312004_11, .slice Ao119 x312005_11.length co119, .string x312006_11] (0, 0) _ rfl (by (with_reducible repeat (first | refine blk_drewN ?_ _ | refine blk_drew ?_ | refine blk_alloc ?_ _)); refine blk_put (cs := #[.int .i64 x312000_11, .int .i64 x312001_11, .int .i64 x312002_11, .int .i64 x312003_11, .int .i64 x312004_11, .slice Ao119 x312005_11.length co119, .string (⟨#[]⟩ : ByteArray)]) ?_ 6 _ rfl; (with_reducible repeat (first | refine blk_drewN ?_ _ | refine blk_drew ?_ | refine blk_alloc ?_ _)); refine blk_put (cs := #[.int .i64 x312000_11, .int .i64 x312001_11, .int .i64 x312002_11, .int .i64 x312003_11, .int .i64 x312004_11, .slice none 0 0, .string (⟨#[]⟩ : ByteArray)]) ?_ 5 _ rfl; (with_reducible repeat (first | refine blk_drewN ?_ _ | refine blk_drew ?_ | refine blk_alloc ?_ _)); refine blk_put (cs := #[.int .i64 x312000_11, .int .i64 x312001_11, .int .i64 x312002_11, .int .i64 x312003_11, .int .i64 0, .slice none 0 0, .string (⟨#[]⟩ : ByteArray)]) ?_ 4 _ rfl; (with_reducible repeat (first | refine blk_drewN ?_ _ | refine blk_drew ?_ | refine blk_alloc ?_ _)); refine blk_put (cs := #[.int .i64 x312000_11, .int .i64 x312001_11, .int .i64 x312002_11, .int .i64 0, .int .i64 0, .slice none 0 0, .string (⟨#[]⟩ : ByteArray)]) ?_ 3 _ rfl; (with_reducible repeat (first | refine blk_drewN ?_ _ | refine blk_drew ?_ | refine blk_alloc ?_ _)); refine blk_put (cs := #[.int .i64 x312000_11, .int .i64 x312001_11, .int .i64 0, .int .i64 0, .int .i64 0, .slice none 0 0, .string (⟨#[]⟩ : ByteArray)]) ?_ 2 _ rfl; (with_reducible repeat (first | refine blk_drewN ?_ _ | refine blk_drew ?_ | refine blk_alloc ?_ _)); refine blk_put (cs := #[.int .i64 x312000_11, .int .i64 0, .int .i64 0, .int .i64 0, .int .i64 0, .slice none 0 0, .string (⟨#[]⟩ : ByteArray)]) ?_ 1 _ rfl; (with_reducible repeat (first | refine blk_drewN ?_ _ | refine blk_drew ?_ | refine blk_alloc ?_ _)); refine blk_put (cs := #[.int .i64 0, .int .i64 0, .int .i64 0, .int .i64 0, .int .i64 0, .slice none 0 0, .string (⟨#[]⟩ : ByteArray)]) ?_ 0 _ rfl; (with_reducible repeat (first | refine blk_drewN ?_ _ | refine blk_drew ?_ | refine blk_alloc ?_ _)); exact BK294.out) Try.underlying69 rfl (by kernel_rfl)) rfl ?_
        exact ⟨_, by first | rfl | (simp [errW_none, errW_some] <;> rfl) | (simp [*, errW_none, errW_some] <;> rfl) | exact False.elim (Bool.noConfusion ((decide_eq_true (of_eq_true (by assumption))).symm.trans (by assumption))), by (with_reducible repeat (first | apply Kd.R_alloc | apply Kd.R_drewN | apply Kd.R_drew)); exact Kd.R_mono (Kd.R_far (p := ⟨gb294, 6, none⟩) (Kd.R_far (p := ⟨gb294, 5, none⟩) (Kd.R_far (p := ⟨gb294, 4, none⟩) (Kd.R_far (p := ⟨gb294, 3, none⟩) (Kd.R_far (p := ⟨gb294, 2, none⟩) (Kd.R_far (p := ⟨gb294, 1, none⟩) (Kd.R_far (p := ⟨gb294, 0, none⟩) (Kd.R_types HO_312005.out BK294.out (by decide)) (fun _ hk => hk.2) (.int .i64 x312000_11)) (fun _ hk => hk.2) (.int .i64 x312001_11)) (fun _ hk => hk.2) (.int .i64 x312002_11)) (fun _ hk => hk.2) (.int .i64 x312003_11)) (fun _ hk => hk.2) (.int .i64 x312004_11)) (fun _ hk => hk.2) (.slice Ao119 x312005_11.length co119)) (fun _ hk => hk.2) (.string x312006_11)) (fun _ hk => trivial), by repeat (first | (with_reducible first | exact HB.out | apply below_alloc | apply pw_below_drewN | apply below_drew1 | refine below_set ?_ GE294.out | refine below_set ?_ GE311.out) | exact HB.out)⟩
    ·replace c11 := Bool.eq_false_iff.mpr c11
     subst c11
     have H1 : (some (0, 0, 0, 0, 0, ([] : List (S98)), (⟨#[]⟩ : ByteArray), false)) = some (r1, r2, r3, r4, r5, r6, r7, r8) := by rw [if_neg (show ¬ (false = true) by decide)] at H; exact H
     clear H
     have H := H1
     clear H1
     simp only [Option.some.injEq, Prod.mk.injEq] at H
     obtain ⟨rfl, rfl, rfl, rfl, rfl, rfl, rfl, rfl⟩ := H
     go_enter Try.func47, Try.ntmps47
     go_wp2_with (first | ((with_reducible refine gate_dst (N := 2) rfl ?_); refine box_event ?hg (N := 2) ?hd (cs := #[.int .i64 0, .int .i64 0, .int .i64 0, .int .i64 0, .int .i64 0, .slice none 0 0, .string (⟨#[]⟩ : ByteArray)]) (t := 69) ?hr ?_; (case hd => rfl); (case hg => rfl); (case hr => first | (go_simp; done) | (go_simp; rfl)); intro gb294 hg w122 hbox hb; have n0_ := Aside0.mk (below_step (by repeat (first | (with_reducible first | exact HB.out | apply below_alloc | apply pw_below_drewN | apply below_drew1) | exact HB.out)) hb); have n1_ := Aside0.mk (hbox); have n2_ := Aside0.mk ((by rw [hg]; exact (below_size (by repeat (first | (with_reducible first | exact HB.out | apply below_alloc | apply pw_below_drewN | apply below_drew1) | exact HB.out))) : w.heap.size ≤ gb294)); have n3_ := Aside0.mk ((by rw [hg]; exact (below_size (by repeat (first | (with_reducible first | exact HB.out | apply below_alloc | apply pw_below_drewN | apply below_drew1) | exact HB.out))) : w.heap.size ≤ gb294)); clear HB; have HB := n0_; have BK294 := n1_; have GW294 := n2_; have GE294 := n3_; clear n0_ n1_ n2_ n3_; clear hb hbox hg; have p295 : 0 ≤ (0 : Int) := (by omega); have q295 : 0 < (l0.length : Int) := of_decide_eq_true (by first | (with_reducible assumption) | assumption); obtain ⟨ad295, e295, hx295_0⟩ := Kd.at_string HR0.out 0 p295 q295; cases e295; have qi295 : (0 < l0.length) = True := eq_true (by omega); (try rw [show ((0 : Int)).toNat = 0 from rfl] at hx295_0); (try rw [Addr.add_zero'] at hx295_0); replace hx295_0 := (HB.out.cell (World.block_lt_of_cell? w _ hx295_0)).trans hx295_0; replace p295 := eq_true p295; replace q295 := eq_true q295; obtain ⟨i0123, hi0123, _, hsz123, _⟩ := info_parts info9; obtain ⟨A123, hcut123, hA123, hC123⟩ := print_drop_of (P := Try.prog) Value.string (⟨#[]⟩ : ByteArray) 62 9 .i64 Try.underlying62 hi0123 hsz123 (some ad295) c0 l0 1 (by omega) (of_decide_eq_true (by first | (with_reducible assumption) | assumption)) HC0.out; have HR306 := Aside0.mk (Kd.C_of_reads (h1 := fun _ => rfl) (hA123 _ (Kd.reads_of_C HR0.out))); have HC306 := Aside0.mk hC123; clear hA123 hC123 hi0123 hsz123) | ((with_reducible refine gate_callee (f := 46) rfl ?_); refine goesL_ (some 19) rfl rfl Try.func46 (by kernel_rfl) rfl #[.slice A123 (l0.drop 1).length (c0 - 1)] rfl (by (try simp only [List.map_toArray, List.map_cons, List.map_nil]); first | done | (rw [show (l0.drop 1).length = (l0.length - 1) from List.length_drop] <;> rfl) | rfl | (simp only [List.length_drop, List.length_take]; rfl)) ?_; (with_reducible refine (impl_numbersOf.calls k _ _ (l0.drop 1) t307 false _ ?side1 ?side2 A10.out).mono ?_); (case side1 => repeat (first | exact (Kd.C_below HR306.out HB.out) | exact HR306.out | (with_reducible refine Kd.C_alloc ?_ _) | (with_reducible refine Kd.C_drewN ?_ _) | (with_reducible refine Kd.C_drew ?_))); (case side2 => exact HC306.out); rintro e w124 ⟨v309, rfl, ho0, hb⟩; refine ⟨_, rfl, ?_⟩; have n0_ := Aside0.mk (Kd.R_lower ho0 (below_size (by repeat (first | (with_reducible first | exact HB.out | apply below_alloc | apply pw_below_drewN | apply below_drew1 | refine below_set ?_ GE294.out) | exact HB.out)))); have n1_ := Aside0.mk (blk_below (g := gb294) (o := .cells #[.int .i64 0, .int .i64 0, .int .i64 0, .int .i64 0, .int .i64 0, .slice none 0 0, .string (⟨#[]⟩ : ByteArray)] 69 (0, 0)) (by (with_reducible repeat (first | refine blk_drewN ?_ _ | refine blk_drew ?_ | refine blk_alloc ?_ _)); exact BK294.out) hb); have n2_ := Aside0.mk (below_step (by repeat (first | (with_reducible first | exact HB.out | apply below_alloc | apply pw_below_drewN | apply below_drew1 | refine below_set ?_ GE294.out) | exact HB.out)) hb); clear BK294; clear HB; have HO310 := n0_; have BK294 := n1_; have HB := n2_; clear n0_ n1_ n2_; (try clear hb); (try clear hb2); (try clear hk); (try clear hi); (try clear ho0); have hcz125_0 : w124.cell? ⟨gb294, 0, none⟩ = some (.int .i64 0) := (blk_cell BK294.out 0).trans rfl; have hcz125_1 : w124.cell? ⟨gb294, 1, none⟩ = some (.int .i64 0) := (blk_cell BK294.out 1).trans rfl; have hcz125_2 : w124.cell? ⟨gb294, 2, none⟩ = some (.int .i64 0) := (blk_cell BK294.out 2).trans rfl; have hcz125_3 : w124.cell? ⟨gb294, 3, none⟩ = some (.int .i64 0) := (blk_cell BK294.out 3).trans rfl; have hcz125_4 : w124.cell? ⟨gb294, 4, none⟩ = some (.int .i64 0) := (blk_cell BK294.out 4).trans rfl; have hcz125_5 : w124.cell? ⟨gb294, 5, none⟩ = some (.slice none 0 0) := (blk_cell BK294.out 5).trans rfl; have hcz125_6 : w124.cell? ⟨gb294, 6, none⟩ = some (.string (⟨#[]⟩ : ByteArray)) := (blk_cell BK294.out 6).trans rfl; have hfz125_0 := blk_frozen BK294.out 0; have hfz125_1 := blk_frozen BK294.out 1; have hfz125_2 := blk_frozen BK294.out 2; have hfz125_3 := blk_frozen BK294.out 3; have hfz125_4 := blk_frozen BK294.out 4; have hfz125_5 := blk_frozen BK294.out 5; have hfz125_6 := blk_frozen BK294.out 6))
     refine bodyPost_ret (results_ct rfl _ _ gb294 69 #[.int .i64 0, .int .i64 0, .int .i64 0, .int .i64 0, .int .i64 0, .slice none 0 0, .string (⟨#[]⟩ : ByteArray)] (0, 0) _ rfl (by (with_reducible repeat (first | refine blk_drewN ?_ _ | refine blk_drew ?_ | refine blk_alloc ?_ _)); refine blk_put (cs := #[.int .i64 0, .int .i64 0, .int .i64 0, .int .i64 0, .int .i64 0, .slice none 0 0, .string (⟨#[]⟩ : ByteArray)]) ?_ 6 _ rfl; (with_reducible repeat (first | refine blk_drewN ?_ _ | refine blk_drew ?_ | refine blk_alloc ?_ _)); refine blk_put (cs := #[.int .i64 0, .int .i64 0, .int .i64 0, .int .i64 0, .int .i64 0, .slice none 0 0, .string (⟨#[]⟩ : ByteArray)]) ?_ 5 _ rfl; (with_reducible repeat (first | refine blk_drewN ?_ _ | refine blk_drew ?_ | refine blk_alloc ?_ _)); refine blk_put (cs := #[.int .i64 0, .int .i64 0, .int .i64 0, .int .i64 0, .int .i64 0, .slice none 0 0, .string (⟨#[]⟩ : ByteArray)]) ?_ 4 _ rfl; (with_reducible repeat (first | refine blk_drewN ?_ _ | refine blk_drew ?_ | refine blk_alloc ?_ _)); refine blk_put (cs := #[.int .i64 0, .int .i64 0, .int .i64 0, .int .i64 0, .int .i64 0, .slice none 0 0, .string (⟨#[]⟩ : ByteArray)]) ?_ 3 _ rfl; (with_reducible repeat (first | refine blk_drewN ?_ _ | refine blk_drew ?_ | refine blk_alloc ?_ _)); refine blk_put (cs := #[.int .i64 0, .int .i64 0, .int .i64 0, .int .i64 0, .int .i64 0, .slice none 0 0, .string (⟨#[]⟩ : ByteArray)]) ?_ 2 _ rfl; (with_reducible repeat (first | refine blk_drewN ?_ _ | refine blk_drew ?_ | refine blk_alloc ?_ _)); refine blk_put (cs := #[.int .i64 0, .int .i64 0, .int .i64 0, .int .i64 0, .int .i64 0, .slice none 0 0, .string (⟨#[]⟩ : ByteArray)]) ?_ 1 _ rfl; (with_reducible repeat (first | refine blk_drewN ?_ _ | refine blk_drew ?_ | refine blk_alloc ?_ _)); refine blk_put (cs := #[.int .i64 0, .int .i64 0, .int .i64 0, .int .i64 0, .int .i64 0, .slice none 0 0, .string (⟨#[]⟩ : ByteArray)]) ?_ 0 _ rfl; (with_reducible repeat (first | refine blk_drewN ?_ _ | refine blk_drew ?_ | refine blk_alloc ?_ _)); exact BK294.out) Try.underlying69 rfl (by kernel_rfl)) rfl ?_
     exact ⟨_, by first | rfl | (simp [errW_none, errW_some] <;> rfl) | (simp [*, errW_none, errW_some] <;> rfl) | exact False.elim (Bool.noConfusion ((decide_eq_true (of_eq_true (by assumption))).symm.trans (by assumption))), by first | exact Kd.R_nil _ _ _ _ _ | exact Kd.N_nil _ _ _ _ _ | exact Kd.V_nil _ _ _ _ _ | exact Kd.Q_nil _ _ _ _ _ | exact Kd.S_nil _ _ _ _ _, by repeat (first | (with_reducible first | exact HB.out | apply below_alloc | apply pw_below_drewN | apply below_drew1 | refine below_set ?_ GE294.out) | exact HB.out)⟩
   ·rw [if_neg c9] at H
    exact absurd H (by simp)
 ·rw [if_neg c2] at H
  exact absurd H (by simp)

end Go.Proofs.Ytjfmpodeenidnaa.PA
