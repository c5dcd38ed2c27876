/- Contracts of functions of the program and of the reference, and plain lemmas on what they compute: a part of the proof of the law FnSegmentsTold. No condition. -/
import Derived.Test.YtdlapahfmfhbjaaDoorG523dfx0
import Derived.Test.YtdlapahfmfhbjaaDoorG523dfx1
import Derived.Test.YtdlapahfmfhbjaaDoorG523dfx2
import Derived.Test.YtdlapahfmfhbjaaDoorG0cadex0
import Derived.Test.YtdlapahfmfhbjaaDoorGe902ex0
import Derived.Test.YtdlapahfmfhbjaaDoorShortV
set_option maxHeartbeats 8000000
set_option maxRecDepth 100000
namespace Go.Proofs.YtdlapahfmfhbjaaDoor.PA
open Go.RowKit Go.Proofs.YtdlapahfmfhbjaaDoor.Short Go.Proofs.YtdlapahfmfhbjaaDoorW.PrintWords Go.Proofs.YtdlapahfmfhbjaaDoorW.PrintLast Go.Proofs.YtdlapahfmfhbjaaDoorW.PrintMore
attribute [local go_sem] max2_int min2_int max_two min_two max_three min_three max_four min_four   -- for this text's walks alone
set_option linter.unusedVariables false
set_option linter.unusedSimpArgs false

def spec_DrawHeadFrom.f (k : Nat) (l0 : List Int) : Option (ByteArray × (List (S27))) := (spec_l01New.f k l0).bind fun bt891 => ((spec_l01Pick.f bt891.1 bt891.2.1 bt891.2.2 (([(⟨#[]⟩ : ByteArray), (⟨#[98, 101, 102, 111, 114, 101]⟩ : ByteArray)] : List ByteArray))).bind fun bt898 => ((spec_l19Any.f k bt891.1 bt898.2.1 bt898.2.2).bind fun bt901 => (some (bt898.1, bt901.1))))
theorem spec_DrawHeadFrom.mono : ∀ a0 k, LeO (spec_DrawHeadFrom.f k a0) (spec_DrawHeadFrom.f (k + 1) a0) := by
 intro a0 k
 unfold spec_DrawHeadFrom.f
 have m0 := @spec_l01New.mono
 have m1 := @spec_l19Any.mono
 exact mo_
theorem spec_DrawHeadFrom.calls (k : Nat) (A0 : Option Addr) (c0 : Nat) (l0 : List Int) (r1 : ByteArray) (r2 : List (S27)) (w : World) (hr0 : Kd.C (Kd.int .u8) w A0 l0.length l0) (hc0 : l0.length ≤ c0) (h : spec_DrawHeadFrom.f k l0 = some (r1, r2)) :
 Calls Tryd.prog 38 #[.slice A0 l0.length c0] w fun e w' => ∃ v1_ : Value, e = .returned (.tuple #[.string r1, v1_]) ∧ Kd.R k27 27 w' w.heap.size (fun _ => True) v1_ r2 ∧ Below w.heap.size w w' := by
 have HR0 := Aside0.mk hr0
 have HC0 := Aside0.mk hc0
 clear hr0 hc0
 have HB := Aside0.mk (Below.refl w.heap.size w)
 have H := h
 unfold spec_DrawHeadFrom.f at H
 clear h
 replace H := bs_ H
 obtain ⟨⟨t891, t892, t893⟩, A2, H⟩ := H
 try dsimp only at H
 obtain ⟨y895, hy895⟩ : ∃ y_ : List ByteArray, y_ = (([(⟨#[]⟩ : ByteArray), (⟨#[98, 101, 102, 111, 114, 101]⟩ : ByteArray)] : List ByteArray)) := ⟨_, rfl⟩
 replace H : ((spec_l01Pick.f t891 t892 t893 y895).bind fun bt898 => ((spec_l19Any.f k t891 bt898.2.1 bt898.2.2).bind fun bt901 => (some (bt898.1, bt901.1)))) = some (r1, r2) := rp_ H hy895
 have Ny895 := Aside0.mk hy895
 clear hy895
 replace H := bs_ H
 obtain ⟨⟨t898, t899, t900⟩, A3, H⟩ := H
 try dsimp only at H
 replace H := bs_ H
 obtain ⟨⟨t901, t904, t905⟩, A4, H⟩ := H
 try dsimp only at H
 simp only [Option.some.injEq, Prod.mk.injEq] at H
 obtain ⟨rfl, rfl⟩ := H
 go_enter Tryd.func38, Tryd.ntmps38
 go_wp2_with (first | ((with_reducible refine gate_callee (f := 58) rfl ?_); refine gs_ (some 6) Tryd.func58 #[.slice A0 l0.length c0] ?_; (with_reducible refine (spec_l01New.calls k _ _ l0 t891 t892 t893 w _ ?side1 ?side2 ?side3 A2.out).mono ?_); (case side1 => repeat (first | (with_reducible first | exact HB.out | apply below_alloc | apply pw_below_drewN | apply below_drew1) | exact HB.out)); (case side2 => exact HR0.out); (case side3 => exact HC0.out); rintro e w5 ⟨g894, rfl, hi, hb, hb2⟩; refine ⟨_, rfl, ?_⟩; replace HB := Aside0.mk (hb); have HI894 := Aside0.mk (hi); (try clear hb); (try clear hb2); (try clear hi)) | ((with_reducible refine gate_dst (N := 8) rfl ?_); refine Kd.R_lit Kd.string _ 9 ?hg (N := 8) ?hd (xs := ([(⟨#[]⟩ : ByteArray), (⟨#[98, 101, 102, 111, 114, 101]⟩ : ByteArray)] : List ByteArray)) (inner := [.string (⟨#[]⟩ : ByteArray), .string (⟨#[98, 101, 102, 111, 114, 101]⟩ : ByteArray)]) (ok := fun _ => True) (okp := fun _ => True) ?hr ?hp (fun _ hk => hk) trivial (Below.refl _ _) (Nat.le_refl _) (by simp) ?_; (case hd => rfl); (case hg => rfl); (case hr => first | (go_simp; done) | (go_simp; rfl)); (case hp => exact (Reps.one (show Kd.M Kd.string _ _ _ (⟨#[]⟩ : ByteArray) [.string (⟨#[]⟩ : ByteArray)] from rfl) (Reps.one (show Kd.M Kd.string _ _ _ (⟨#[98, 101, 102, 111, 114, 101]⟩ : ByteArray) [.string (⟨#[98, 101, 102, 111, 114, 101]⟩ : ByteArray)] from rfl) (Reps.none _ _)))); intro v896 w6 ho7 hb hg_ hnew_; clear hg_ hnew_; (first | rw [← Ny895.out] at ho7 | (simp only [Int.reduceToNat] at ho7; rw [← Ny895.out] at ho7)); have HO897 := Aside0.mk (Kd.R_lower ho7 (below_size bi12_)); replace HB := Aside0.mk (below_step bi12_ hb); replace HI894 := Aside0.mk (IsS100.below is12_ hb); clear hb ho7; obtain ⟨Ao8, co8, eo8⟩ := Kd.R_slice HO897.out; subst eo8) | ((with_reducible refine gate_callee (f := 59) rfl ?_); refine gs_ (some 9) Tryd.func59 #[.pointer (some ⟨g894, 0, none⟩), .slice Ao8 y895.length co8] ?_; (with_reducible refine (spec_l01Pick.calls g894 t891 t892 t893 _ _ y895 t898 t899 t900 w _ ?side1 ?side2 ?side3 ?side4 ?side5 A3.out).mono ?_); (case side1 => exact is12_); (case side2 => exact bi12_); (case side3 => exact cs_ ((Kd.R_reads' HO897.out).2.2)); (case side4 => exact (Kd.R_reads' HO897.out).2.1); (case side5 => exact far_slice (IsS100.own_ne HI894.out HO897.out (by decide))); rintro e w9 ⟨rfl, hi, hb, hk⟩; refine ⟨_, rfl, ?_⟩; replace HO897 := Aside0.mk (Kd.R_mono (Kd.R_keep (IsS100.apart (show IsS100 w _ g894 t891 t892 t893 from is12_) (ra_ HO897.out) (by decide)) hk (fun _ h => h.2)) (fun _ h => h.1)); replace HB := Aside0.mk (hb); replace HI894 := Aside0.mk (hi); (try clear hb); (try clear hk); (try clear hi)) | ((with_reducible refine gate_callee (f := 71) rfl ?_); refine gs_ (some 11) Tryd.func71 #[.pointer (some ⟨g894, 0, none⟩)] ?_; (with_reducible refine (spec_l19Any.calls k g894 t891 t899 t900 t901 t904 t905 w _ ?side1 ?side2 A4.out).mono ?_); (case side1 => exact is12_); (case side2 => exact bi12_); rintro e w10 ⟨v902, rfl, ho0, hi, hb, hk⟩; refine ⟨_, rfl, ?_⟩; replace HO897 := Aside0.mk (Kd.R_mono (Kd.R_keep (IsS100.apart (show IsS100 w _ g894 t891 t899 t900 from is12_) (ra_ HO897.out) (by decide)) hk (fun _ h => h.2)) (fun _ h => h.1)); have HO903 := Aside0.mk (Kd.R_lower ho0 (below_size bi12_)); replace HB := Aside0.mk (hb); replace HI894 := Aside0.mk (hi); (try clear hb); (try clear hk); (try clear hi); (try clear ho0)))
 go_ret2
 exact ⟨_, er_, ra_ HO903.out, bi12_⟩


def spec_DrawCutLog.f (k : Nat) (l0 : List Int) : Option ((List (S27)) × Int) := (spec_l01New.f k l0).bind fun bt906 => ((spec_l01PickInt.f bt906.1 bt906.2.1 bt906.2.2 (([1, 2, 3, 200, 201, 0] : List Int))).bind fun bt913 => ((spec_l27Draw.f k l0).bind fun bt916 => (some (bt916.1, bt913.1))))
theorem spec_DrawCutLog.mono : ∀ a0 k, LeO (spec_DrawCutLog.f k a0) (spec_DrawCutLog.f (k + 1) a0) := by
 intro a0 k
 unfold spec_DrawCutLog.f
 have m0 := @spec_l01New.mono
 have m1 := @spec_l27Draw.mono
 exact mo_
theorem spec_DrawCutLog.calls (k : Nat) (A0 : Option Addr) (c0 : Nat) (l0 : List Int) (r1 : List (S27)) (r2 : Int) (w : World) (hr0 : Kd.C (Kd.int .u8) w A0 l0.length l0) (hc0 : l0.length ≤ c0) (h : spec_DrawCutLog.f k l0 = some (r1, r2)) :
 Calls Tryd.prog 39 #[.slice A0 l0.length c0] w fun e w' => ∃ v0_ : Value, e = .returned (.tuple #[v0_, .int .i64 r2]) ∧ Kd.R k27 27 w' w.heap.size (fun _ => True) v0_ r1 ∧ Below w.heap.size w w' := by
 have HR0 := Aside0.mk hr0
 have HC0 := Aside0.mk hc0
 clear hr0 hc0
 have HB := Aside0.mk (Below.refl w.heap.size w)
 have H := h
 unfold spec_DrawCutLog.f at H
 clear h
 replace H := bs_ H
 obtain ⟨⟨t906, t907, t908⟩, A2, H⟩ := H
 try dsimp only at H
 obtain ⟨y910, hy910⟩ : ∃ y_ : List Int, y_ = (([1, 2, 3, 200, 201, 0] : List Int)) := ⟨_, rfl⟩
 replace H : ((spec_l01PickInt.f t906 t907 t908 y910).bind fun bt913 => ((spec_l27Draw.f k l0).bind fun bt916 => (some (bt916.1, bt913.1)))) = some (r1, r2) := rp_ H hy910
 have Ny910 := Aside0.mk hy910
 clear hy910
 replace H := bs_ H
 obtain ⟨⟨t913, t914, t915⟩, A3, H⟩ := H
 try dsimp only at H
 replace H := bs_ H
 obtain ⟨⟨t916, t917⟩, A4, H⟩ := H
 try dsimp only at H
 simp only [Option.some.injEq, Prod.mk.injEq] at H
 obtain ⟨rfl, rfl⟩ := H
 go_enter Tryd.func39, Tryd.ntmps39
 go_wp2_with (first | ((with_reducible refine gate_callee (f := 58) rfl ?_); refine gs_ (some 9) Tryd.func58 #[.slice A0 l0.length c0] ?_; (with_reducible refine (spec_l01New.calls k _ _ l0 t906 t907 t908 w _ ?side1 ?side2 ?side3 A2.out).mono ?_); (case side1 => repeat (first | (with_reducible first | exact HB.out | apply below_alloc | apply pw_below_drewN | apply below_drew1) | exact HB.out)); (case side2 => exact HR0.out); (case side3 => exact HC0.out); rintro e w5 ⟨g909, rfl, hi, hb, hb2⟩; refine ⟨_, rfl, ?_⟩; replace HB := Aside0.mk (hb); have HI909 := Aside0.mk (hi); (try clear hb); (try clear hb2); (try clear hi)) | ((with_reducible refine gate_dst (N := 11) rfl ?_); refine Kd.R_lit (Kd.int .i64) _ 3 ?hg (N := 11) ?hd (xs := ([1, 2, 3, 200, 201, 0] : List Int)) (inner := [.int .i64 1, .int .i64 2, .int .i64 3, .int .i64 200, .int .i64 201, .int .i64 0]) (ok := fun _ => True) (okp := fun _ => True) ?hr ?hp (fun _ hk => hk) trivial (Below.refl _ _) (Nat.le_refl _) (by simp) ?_; (case hd => rfl); (case hg => rfl); (case hr => first | (go_simp; done) | (go_simp; rfl)); (case hp => exact (Reps.one (show Kd.M (Kd.int .i64) _ _ _ 1 [.int .i64 1] from rfl) (Reps.one (show Kd.M (Kd.int .i64) _ _ _ 2 [.int .i64 2] from rfl) (Reps.one (show Kd.M (Kd.int .i64) _ _ _ 3 [.int .i64 3] from rfl) (Reps.one (show Kd.M (Kd.int .i64) _ _ _ 200 [.int .i64 200] from rfl) (Reps.one (show Kd.M (Kd.int .i64) _ _ _ 201 [.int .i64 201] from rfl) (Reps.one (show Kd.M (Kd.int .i64) _ _ _ 0 [.int .i64 0] from rfl) (Reps.none _ _)))))))); intro v911 w6 ho7 hb hg_ hnew_; clear hg_ hnew_; (first | rw [← Ny910.out] at ho7 | (simp only [Int.reduceToNat] at ho7; rw [← Ny910.out] at ho7)); have HO912 := Aside0.mk (Kd.R_lower ho7 (below_size bi13_)); replace HB := Aside0.mk (below_step bi13_ hb); replace HI909 := Aside0.mk (IsS100.below is13_ hb); clear hb ho7; obtain ⟨Ao8, co8, eo8⟩ := Kd.R_slice HO912.out; subst eo8) | ((with_reducible refine gate_callee (f := 81) rfl ?_); refine gs_ (some 12) Tryd.func81 #[.pointer (some ⟨g909, 0, none⟩), .slice Ao8 y910.length co8] ?_; (with_reducible refine (spec_l01PickInt.calls g909 t906 t907 t908 _ _ y910 t913 t914 t915 w _ ?side1 ?side2 ?side3 ?side4 ?side5 A3.out).mono ?_); (case side1 => exact is13_); (case side2 => exact bi13_); (case side3 => exact cs_ ((Kd.R_reads' HO912.out).2.2)); (case side4 => exact (Kd.R_reads' HO912.out).2.1); (case side5 => exact far_slice (IsS100.own_ne HI909.out HO912.out (by decide))); rintro e w9 ⟨rfl, hi, hb, hk⟩; refine ⟨_, rfl, ?_⟩; replace HO912 := Aside0.mk (Kd.R_mono (Kd.R_keep (IsS100.apart (show IsS100 w _ g909 t906 t907 t908 from is13_) (ra_ HO912.out) (by decide)) hk (fun _ h => h.2)) (fun _ h => h.1)); replace HB := Aside0.mk (hb); replace HI909 := Aside0.mk (hi); (try clear hb); (try clear hk); (try clear hi)) | ((with_reducible refine gate_callee (f := 57) rfl ?_); refine gs_ (some 15) Tryd.func57 #[.slice A0 l0.length c0] ?_; (with_reducible refine (spec_l27Draw.calls k _ _ l0 t916 t917 _ ?side1 ?side2 A4.out).mono ?_); (case side1 => exact cb_ HR0.out HB.out); (case side2 => exact HC0.out); rintro e w10 ⟨v918, rfl, ho0, hb⟩; refine ⟨_, rfl, ?_⟩; replace HO912 := Aside0.mk (Kd.R_below (ra_ HO912.out) hb); have HO919 := Aside0.mk (Kd.R_lower ho0 (below_size bi13_)); replace HB := Aside0.mk (below_step bi13_ hb); replace HI909 := Aside0.mk (IsS100.below is13_ hb); (try clear hb); (try clear ho0)))
 go_ret2
 exact ⟨_, er_, ra_ HO919.out, bi13_⟩


mutual
def impl_CutLog.j0 : Nat → List (S27) → Int → List (S58) → Bool → Option ((List (S58)) × Bool)
 | 0, _, _, _, _ => none
 | k + 1, x0, x1, x6, x19 => if x19 = true then (some (x6, false)) else ((impl_Digest.f k (⟨#[]⟩ : ByteArray)).bind fun t924 => (impl_CutLog.l0 k x0 x1 x6 t924 0))
def impl_CutLog.l0 : Nat → List (S27) → Int → List (S58) → ByteArray → Int → Option ((List (S58)) × Bool)
 | 0, _, _, _, _, _ => none
 | k + 1, x0, x1, x6, x7, x8 => if x8 < (x0.length : Int) then ((some (([] : List (S27)) : List (S27))).bind fun y925 => (if 0 ≤ x8 then (if x8 ≤ (mn (wrap64 (x8 + x1)) (x0.length : Int)) then (if (mn (wrap64 (x8 + x1)) (x0.length : Int)) ≤ (x0.length : Int) then ((some ((x0.take ((mn (wrap64 (x8 + x1)) (x0.length : Int)) : Int).toNat).drop (x8 : Int).toNat : List (S27))).bind fun y928 => (if y925.length + y928.length < 2932031007402 then ((some (y925 ++ y928 : List (S27))).bind fun y932 => ((impl_HeadFrom.f k x7 y932).bind fun t935 => (if x6.length < 2199023255552 then (impl_CutLog.l0 k x0 x1 (x6 ++ [(⟨x8, x7, y932, t935⟩ : S58)]) t935 (wrap64 (x8 + x1))) else (none)))) else (none))) else (none)) else (none)) else (none))) else (some (x6, true))
end
def impl_CutLog.f (k : Nat) (l0 : List (S27)) (a1 : Int) : Option ((List (S58)) × Bool) := (some (([] : List (S58)) : List (S58))).bind fun y920 => ((impl_within.f a1 1 200).bind fun t923 => (if t923 = true then (impl_CutLog.j0 k l0 a1 y920 (decide ((l0.length : Int) > 200))) else (impl_CutLog.j0 k l0 a1 y920 true)))
theorem impl_CutLog.mono_l : ∀ k, (∀ y0 y1 y2 y3, LeO (impl_CutLog.j0 k y0 y1 y2 y3) (impl_CutLog.j0 (k + 1) y0 y1 y2 y3)) ∧ (∀ y0 y1 y2 y3 y4, LeO (impl_CutLog.l0 k y0 y1 y2 y3 y4) (impl_CutLog.l0 (k + 1) y0 y1 y2 y3 y4))
 | 0 => ⟨fun _ _ _ _ r h => by simp [impl_CutLog.j0] at h, fun _ _ _ _ _ r h => by simp [impl_CutLog.l0] at h⟩
 | k + 1 => by
  obtain ⟨ih0, ih1⟩ := impl_CutLog.mono_l k
  refine ⟨?_, ?_⟩
  ·intro y0 y1 y2 y3
   unfold impl_CutLog.j0
   have m0 := @impl_Digest.mono
   have m1 := @impl_HeadFrom.mono
   exact mo_
  ·intro y0 y1 y2 y3 y4
   unfold impl_CutLog.l0
   have m0 := @impl_Digest.mono
   have m1 := @impl_HeadFrom.mono
   exact mo_
theorem impl_CutLog.mono : ∀ a0 a1 k, LeO (impl_CutLog.f k a0 a1) (impl_CutLog.f (k + 1) a0 a1) := by
 intro a0 a1 k
 obtain ⟨ih0, ih1⟩ := impl_CutLog.mono_l k
 unfold impl_CutLog.f
 have m0 := @impl_Digest.mono
 have m1 := @impl_HeadFrom.mono
 exact mo_
theorem impl_CutLog.calls (k : Nat) (A0 : Option Addr) (c0 : Nat) (l0 : List (S27)) (a1 : Int) (r1 : List (S58)) (r2 : Bool) (w : World) (hr0 : Kd.C k27 w A0 l0.length l0) (hc0 : l0.length ≤ c0) (hT : Tab w) (h : impl_CutLog.f k l0 a1 = some (r1, r2)) :
 Calls Tryd.prog 40 #[.slice A0 l0.length c0, .int .i64 a1] w fun e w' => ∃ v0_ : Value, e = .returned (.tuple #[v0_, .bool r2]) ∧ Kd.S k58 58 w' w.heap.size (fun _ => True) v0_ r1 ∧ Below w.heap.size w w' := by
 have hu58 := Tryd.underlying58
 have HR0 := Aside0.mk hr0
 have HC0 := Aside0.mk hc0
 clear hr0 hc0
 have HT := Aside0.mk hT
 clear hT
 have HB := Aside0.mk (Below.refl w.heap.size w)
 have H := h
 unfold impl_CutLog.f at H
 clear h
 obtain ⟨y920, hy920⟩ : ∃ y_ : List (S58), y_ = (([] : List (S58))) := ⟨_, rfl⟩
 replace H : ((impl_within.f a1 1 200).bind fun t923 => (if t923 = true then (impl_CutLog.j0 k l0 a1 y920 (decide ((l0.length : Int) > 200))) else (impl_CutLog.j0 k l0 a1 y920 true))) = some (r1, r2) := rp_ H hy920
 have Ny920 := Aside0.mk hy920
 clear hy920
 have HC3 := Aside0.mk H
 clear H
 go_enter Tryd.func40, Tryd.ntmps40
 go_upto_region 2 with (first | ((with_reducible refine gate_dst (N := 11) rfl ?_); (try (refine gate_guard (by rfl) ?_; dsimp only)); refine Kd.S_lit k58 _ 58 ?hg (N := 11) ?hd (xs := ([] : List (S58))) (inner := []) (ok := fun _ => True) (okp := fun _ => True) ?hr ?hp (fun _ hk => hk) trivial (Below.refl _ _) (Nat.le_refl _) (by simp) ?_; (case hd => rfl); (case hg => rfl); (case hr => first | (go_simp; done) | (go_simp; rfl)); (case hp => exact (Reps.none _ _)); intro v921 w4 ho5 hb hg_ hnew_; clear hg_ hnew_; (first | rw [← Ny920.out] at ho5 | (simp only [Int.reduceToNat] at ho5; rw [← Ny920.out] at ho5)); have HO922 := Aside0.mk (Kd.S_lower ho5 (below_size bl_)); replace HB := Aside0.mk (below_step bl_ hb); clear hb ho5))
 (try simp only [Act.put, List.setIfInBounds_toArray, List.set_cons_zero, List.set_cons_succ])
 go_cut [19] (fun v19 wc => ∃ (kq : Nat) (x19_2 : Bool), v19 = .bool x19_2 ∧ Aside0 (impl_CutLog.j0 kq l0 a1 y920 x19_2 = some (r1, r2)) ∧ Aside0 (kq ≤ k) ∧ Aside0 (Kd.S k58 58 wc w.heap.size (fun _ => True) v921 y920) ∧ Aside0 (Below w.heap.size w wc))
 case first =>
  have H := HC3.out
  clear HC3
  replace H := bs_ H
  obtain ⟨t923, A6, H⟩ := H
  try dsimp only at H
  by_cases c7 : t923 = true
  ·subst c7
   rw [if_pos rfl] at H
   have H' := Aside0.mk H
   clear H
   go_wp2_with (first | ((with_reducible refine gate_callee (f := 60) rfl ?_); refine gs_ (some 13) Tryd.func60 #[.int .i64 a1, .int .i64 1, .int .i64 200] ?_; (with_reducible refine (impl_within.calls a1 1 200 true _ A6.out).mono ?_); rintro e w' ⟨rfl, ⟨nd, rfl⟩⟩; refine ⟨_, rfl, ?_⟩))
   go_meet
   case rel => exact ⟨_, (decide ((l0.length : Int) > 200)), (sr_), H', ⟨by first | omega | exact Nat.le_refl _⟩, ⟨by (with_reducible repeat (first | apply Kd.S_alloc | apply Kd.S_drewN | apply Kd.S_drew)); exact HO922.out⟩, ⟨bl_⟩⟩
  replace c7 := Bool.eq_false_iff.mpr c7
  subst c7
  rw [nf_] at H
  have H' := Aside0.mk H
  clear H
  go_wp2_with (first | ((with_reducible refine gate_callee (f := 60) rfl ?_); refine gs_ (some 13) Tryd.func60 #[.int .i64 a1, .int .i64 1, .int .i64 200] ?_; (with_reducible refine (impl_within.calls a1 1 200 false _ A6.out).mono ?_); rintro e w' ⟨rfl, ⟨nd, rfl⟩⟩; refine ⟨_, rfl, ?_⟩))
  go_meet
  case rel => exact ⟨_, (true), (sr_), H', ⟨by first | omega | exact Nat.le_refl _⟩, ⟨by (with_reducible repeat (first | apply Kd.S_alloc | apply Kd.S_drewN | apply Kd.S_drew)); exact HO922.out⟩, ⟨bl_⟩⟩
 clear HC3
 obtain ⟨kq, x19_2, rfl, HA, HJ2, HO_6, HB⟩ := hcut
 cases kq with
 | zero => exact absurd HA.out (by simp [impl_CutLog.j0])
 | succ kj2 => ?_
 have H := HA.out
 clear HA
 simp only [impl_CutLog.j0] at H
 by_cases c8 : x19_2 = true
 ·subst c8
  rw [if_pos rfl] at H
  simp only [Option.some.injEq, Prod.mk.injEq] at H
  obtain ⟨rfl, rfl⟩ := H
  go_wp2
  go_ret2
  exact ⟨_, er_, by (with_reducible repeat (first | apply Kd.S_alloc | apply Kd.S_drewN | apply Kd.S_drew)); exact HO_6.out, bl_⟩
 replace c8 := Bool.eq_false_iff.mpr c8
 subst c8
 rw [nf_] at H
 replace H := bs_ H
 obtain ⟨t924, A9, H⟩ := H
 try dsimp only at H
 have H' := Aside0.mk H
 clear H
 go_wp2_with (first | ((with_reducible refine gate_callee (f := 66) rfl ?_); refine gs_ (some 21) Tryd.func66 #[.string (⟨#[]⟩ : ByteArray)] ?_; (with_reducible refine (impl_Digest.calls kj2 (⟨#[]⟩ : ByteArray) t924 _ ?side1 A9.out).mono ?_); (case side1 => exact tab_of HT.out bl_); rintro e w10 ⟨rfl, hb⟩; refine ⟨_, rfl, ?_⟩; replace HO_6 := Aside0.mk (Kd.S_below (by (with_reducible repeat (first | apply Kd.S_alloc | apply Kd.S_drewN | apply Kd.S_drew)); exact HO_6.out) hb); replace HB := Aside0.mk (below_step bl_ hb); (try clear hb)))
 go_loopg [6, 7, 8] kj2 (fun kq v6 v7 v8 w' => ∃ (x6_2 : List (S58)) (x7_2 : ByteArray) (x8_2 : Int), v7 = .string x7_2 ∧ v8 = .int .i64 x8_2 ∧ Aside0 (impl_CutLog.l0 kq l0 a1 x6_2 x7_2 x8_2 = some (r1, r2)) ∧ Aside0 (kq ≤ kj2) ∧ Aside0 (Kd.S k58 58 w' w.heap.size (fun _ => True) v6 x6_2) ∧ Aside0 (Below w.heap.size w w'))
 case atStart => exact ⟨(y920), (t924), (0), (sr_), (sr_), H', ⟨Nat.le_refl _⟩, ⟨by (with_reducible repeat (first | apply Kd.S_alloc | apply Kd.S_drewN | apply Kd.S_drew)); exact HO_6.out⟩, ⟨bl_⟩⟩
 clear H'
 try clear c8
 obtain ⟨x6_2, x7_2, x8_2, rfl, rfl, HA, HK2, HO_6, HB⟩ := hrel
 cases gk with
 | zero => exact absurd HA.out (by simp [impl_CutLog.l0])
 | succ k2 => ?_
 have H := HA.out
 clear HA
 simp only [impl_CutLog.l0] at H
 by_cases c11 : x8_2 < (l0.length : Int)
 rotate_left
 ·rw [if_neg c11] at H
  have c11b0 := decide_eq_false c11
  clear c11
  simp only [Option.some.injEq, Prod.mk.injEq] at H
  obtain ⟨rfl, rfl⟩ := H
  go_wp2
  go_ret2
  exact ⟨_, er_, by (with_reducible repeat (first | apply Kd.S_alloc | apply Kd.S_drewN | apply Kd.S_drew)); exact HO_6.out, bl_⟩
 rw [if_pos c11] at H
 have c11b0 := decide_eq_true c11
 clear c11
 obtain ⟨y925, hy925⟩ : ∃ y_ : List (S27), y_ = (([] : List (S27))) := ⟨_, rfl⟩
 replace H : (if 0 ≤ x8_2 then (if x8_2 ≤ (mn (wrap64 (x8_2 + a1)) (l0.length : Int)) then (if (mn (wrap64 (x8_2 + a1)) (l0.length : Int)) ≤ (l0.length : Int) then ((some ((l0.take ((mn (wrap64 (x8_2 + a1)) (l0.length : Int)) : Int).toNat).drop (x8_2 : Int).toNat : List (S27))).bind fun y928 => (if y925.length + y928.length < 2932031007402 then ((some (y925 ++ y928 : List (S27))).bind fun y932 => ((impl_HeadFrom.f k2 x7_2 y932).bind fun t935 => (if x6_2.length < 2199023255552 then (impl_CutLog.l0 k2 l0 a1 (x6_2 ++ [(⟨x8_2, x7_2, y932, t935⟩ : S58)]) t935 (wrap64 (x8_2 + a1))) else (none)))) else (none))) else (none)) else (none)) else (none)) = some (r1, r2) := rp_ H hy925
 have Ny925 := Aside0.mk hy925
 clear hy925
 obtain ⟨ji12, hji12⟩ : ∃ j_ : Int, (mn (wrap64 (x8_2 + a1)) (l0.length : Int)) = j_ := ⟨_, rfl⟩
 replace H : (if 0 ≤ x8_2 then (if x8_2 ≤ (ji12) then (if (ji12) ≤ (l0.length : Int) then ((some ((l0.take ((ji12) : Int).toNat).drop (x8_2 : Int).toNat : List (S27))).bind fun y928 => (if y925.length + y928.length < 2932031007402 then ((some (y925 ++ y928 : List (S27))).bind fun y932 => ((impl_HeadFrom.f k2 x7_2 y932).bind fun t935 => (if x6_2.length < 2199023255552 then (impl_CutLog.l0 k2 l0 a1 (x6_2 ++ [(⟨x8_2, x7_2, y932, t935⟩ : S58)]) t935 (wrap64 (x8_2 + a1))) else (none)))) else (none))) else (none)) else (none)) else (none)) = some (r1, r2) := by first | (rw [hji12] at H; exact H) | (simp only [hji12] at H ⊢; exact H)
 have hji12_ : (if (l0.length : Int) < (wrap64 (x8_2 + a1)) then (l0.length : Int) else (wrap64 (x8_2 + a1))) = ji12 := hji12
 by_cases c13 : 0 ≤ x8_2
 rotate_left
 ·exact nn_ c13 H
 rw [if_pos c13] at H
 have c13b0 := eq_true c13
 have c13b1 : decide (0 ≤ x8_2) = true := decide_eq_true c13
 clear c13
 by_cases c14 : x8_2 ≤ (ji12)
 rotate_left
 ·exact nn_ c14 H
 rw [if_pos c14] at H
 have c14b0 := eq_true c14
 have c14b1 : decide (x8_2 ≤ (ji12)) = true := decide_eq_true c14
 clear c14
 by_cases c15 : (ji12) ≤ (l0.length : Int)
 rotate_left
 ·exact nn_ c15 H
 rw [if_pos c15] at H
 have c15b0 := eq_true c15
 have c15b1 : decide ((ji12) ≤ (l0.length : Int)) = true := decide_eq_true c15
 clear c15
 obtain ⟨y928, hy928⟩ : ∃ y_ : List (S27), y_ = ((l0.take ((ji12) : Int).toNat).drop (x8_2 : Int).toNat) := ⟨_, rfl⟩
 replace H : (if y925.length + y928.length < 2932031007402 then ((some (y925 ++ y928 : List (S27))).bind fun y932 => ((impl_HeadFrom.f k2 x7_2 y932).bind fun t935 => (if x6_2.length < 2199023255552 then (impl_CutLog.l0 k2 l0 a1 (x6_2 ++ [(⟨x8_2, x7_2, y932, t935⟩ : S58)]) t935 (wrap64 (x8_2 + a1))) else (none)))) else (none)) = some (r1, r2) := rp_ H hy928
 have Ny928 := Aside0.mk hy928
 clear hy928
 by_cases c16 : y925.length + y928.length < 2932031007402
 rotate_left
 ·exact nn_ c16 H
 rw [if_pos c16] at H
 have LMc16 := Aside0.mk c16
 clear c16
 obtain ⟨y932, hy932⟩ : ∃ y_ : List (S27), y_ = (y925 ++ y928) := ⟨_, rfl⟩
 replace H : ((impl_HeadFrom.f k2 x7_2 y932).bind fun t935 => (if x6_2.length < 2199023255552 then (impl_CutLog.l0 k2 l0 a1 (x6_2 ++ [(⟨x8_2, x7_2, y932, t935⟩ : S58)]) t935 (wrap64 (x8_2 + a1))) else (none))) = some (r1, r2) := rp_ H hy932
 have Ny932 := Aside0.mk hy932
 clear hy932
 replace H := bs_ H
 obtain ⟨t935, A17, H⟩ := H
 try dsimp only at H
 by_cases c18 : x6_2.length < 2199023255552
 rotate_left
 ·exact nn_ c18 H
 rw [if_pos c18] at H
 have LMc18 := Aside0.mk c18
 clear c18
 obtain ⟨y936, hy936⟩ : ∃ y_ : List (S58), y_ = (x6_2 ++ [(⟨x8_2, x7_2, y932, t935⟩ : S58)]) := ⟨_, rfl⟩
 replace H : (impl_CutLog.l0 k2 l0 a1 y936 t935 (wrap64 (x8_2 + a1))) = some (r1, r2) := rp_ H hy936
 have Ny936 := Aside0.mk hy936
 clear hy936
 have H' := Aside0.mk H
 clear H
 go_wp2_with (first | ((with_reducible refine gate_dst (N := 29) rfl ?_); (try (refine gate_guard (by rfl) ?_; dsimp only)); refine Kd.R_lit k27 _ 27 ?hg (N := 29) ?hd (xs := ([] : List (S27))) (inner := []) (ok := fun _ => True) (okp := fun _ => True) ?hr ?hp (fun _ hk => hk) trivial (Below.refl _ _) (Nat.le_refl _) (by simp) ?_; (case hd => rfl); (case hg => rfl); (case hr => first | (go_simp; done) | (go_simp; rfl)); (case hp => exact (Reps.none _ _)); intro v926 w19 ho20 hb hg_ hnew_; clear hg_ hnew_; (first | rw [← Ny925.out] at ho20 | (simp only [Int.reduceToNat] at ho20; rw [← Ny925.out] at ho20)); replace HO_6 := Aside0.mk (Kd.S_elder' (by (with_reducible repeat (first | apply Kd.S_alloc | apply Kd.S_drewN | apply Kd.S_drew)); exact HO_6.out) (Kd.R_base ho20) hb); have HO927 := Aside0.mk (Kd.R_lower ho20 (below_size bl_)); replace HB := Aside0.mk (below_step bl_ hb); clear hb ho20; have q21 : ((ji12) : Int) ≤ ((l0.length : Int) : Int) := of_decide_eq_true as_; obtain ⟨i021, hi021, _, hsz21, _⟩ := info_parts info27; have hroom21 : l0.length ≤ c0 := HC0.out; have hC21 : Kd.C k27 _ A0 l0.length l0 := HR0.out; have ql21 : (x8_2 : Int) ≤ ((ji12) : Int) := of_decide_eq_true as_; have q021 : (0 : Int) ≤ (x8_2 : Int) := of_decide_eq_true as_; have hcut21 := cut_mid (P := Tryd.prog) 31 27 .i64 .i64 Tryd.underlying31 hi021 6 hsz21 A0 l0.length c0 x8_2 (ji12) q021 ql21 q21 hroom21; have hr21 := Kd.C_mid (lo := (x8_2 : Int).toNat) (hi := ((ji12) : Int).toNat) (c := c0) hC21 (by omega) (by omega) hroom21; obtain ⟨A21, hA21⟩ : ∃ A1, A1 = (if c0 = (x8_2 : Int).toNat then A0 else (A0 : Option Addr).map (·.add ((x8_2 : Int).toNat * 6))) := ⟨_, rfl⟩; obtain ⟨c21, hc21⟩ : ∃ c1, c1 = c0 - (x8_2 : Int).toNat := ⟨_, rfl⟩; have hy21 : y928.length = ((ji12) : Int).toNat - (x8_2 : Int).toNat := (by rw [Ny928.out, List.length_drop, List.length_take] <;> omega); rw [show ((l0).take ((ji12) : Int).toNat).drop (x8_2 : Int).toNat = y928 from Ny928.out.symm] at hr21; replace hr21 : Kd.C k27 _ A21 y928.length y928 := (by rw [hA21]; exact hr21); rw [← hy21, ← hA21, ← hc21] at hcut21; have HR931 := Aside0.mk hr21; have HC931 := Aside0.mk (show y928.length ≤ c21 from by rw [hy21, hc21]; exact Nat.sub_le_sub_right (Nat.le_trans (by omega) hroom21) _); clear hr21 hC21 hroom21 hi021 hsz21 hc21; have KY21 := Aside0.mk hy21; have KA21 := Aside0.mk hA21; clear hy21 hA21; replace q21 := eq_true q21) | ((with_reducible refine gate_builtin (b := .append) (xs := #[.tmp 29, .tmp 38]) rfl ?_); (try (refine gate_guard (by rfl) ?_; dsimp only)); at_builtin; refine Kd.R_append_rows k27 (w0 := w) w.heap.size rfl (.tmp 29) (.tmp 38) 31 27 (.agg #[(.int .i64 0), (.int .i64 0), (.int .i64 0), (.int .i64 0), (.int .i64 0), (.int .i64 0)]) 48 rfl Tryd.underlying31 info27 rfl (by decide) (by omega) v926 y925 y928 _ _ _ (fun _ => True) (fun _ => False) rfl rfl ?aO ?aR (fun _ _ h => h) (fun _ h => h.elim) ?aF ?aB ?aS ?aL ?_; (case aR => repeat (first | exact (Kd.C_below HR931.out HB.out) | exact HR931.out | (with_reducible refine Kd.C_alloc ?_ _) | (with_reducible refine Kd.C_drewN ?_ _) | (with_reducible refine Kd.C_drew ?_))); (case aB => exact bl_); (case aF => exact (fun _ _ => trivial)); (case aO => exact (ra_ HO927.out)); (case aS => exact (below_size bl_)); (case aL => have := LMc16.out; omega); intro v933 w22 ho hb hg hat; rw [← Ny932.out] at ho; replace HO_6 := Aside0.mk (Kd.S_after (ok := (fun _ => True)) (by (with_reducible repeat (first | apply Kd.S_alloc | apply Kd.S_drewN | apply Kd.S_drew)); exact HO_6.out) hg hat); replace HB := Aside0.mk (hb); have HO934 := Aside0.mk (ho); clear HO927; clear ho hb hg hat; obtain ⟨Ao23, co23, eo23⟩ := Kd.R_slice HO934.out; subst eo23) | ((with_reducible refine gate_callee (f := 51) rfl ?_); refine gs_ (some 42) Tryd.func51 #[.string x7_2, .slice Ao23 y932.length co23] ?_; (with_reducible refine (impl_HeadFrom.calls k2 x7_2 _ _ y932 t935 _ ?side1 ?side2 ?side3 A17.out).mono ?_); (case side1 => exact cs_ ((Kd.R_reads' HO934.out).2.2)); (case side2 => exact (Kd.R_reads' HO934.out).2.1); (case side3 => exact tab_of HT.out bl_); rintro e w24 ⟨rfl, hb⟩; refine ⟨_, rfl, ?_⟩; replace HO_6 := Aside0.mk (Kd.S_below (by (with_reducible repeat (first | apply Kd.S_alloc | apply Kd.S_drewN | apply Kd.S_drew)); exact HO_6.out) hb); replace HO934 := Aside0.mk (Kd.R_below (ra_ HO934.out) hb); replace HB := Aside0.mk (below_step bl_ hb); (try clear hb)) | ((with_reducible refine gate_builtin (b := .append) (xs := #[.tmp 43, .tmp 49]) rfl ?_); (try (refine gate_guard (by rfl) ?_; dsimp only)); at_builtin; refine Kd.S_append k58 (w0 := w) w.heap.size rfl (.tmp 43) (.tmp 49) 54 58 (.agg #[(.int .i64 0), (.string ⟨#[]⟩), (.slice none 0 0), (.string ⟨#[]⟩)]) 64 rfl Tryd.underlying54 info58 rfl (by decide) (by omega) u6 x6_2 (⟨x8_2, x7_2, y932, t935⟩ : S58) [.int .i64 x8_2, .string x7_2, .slice Ao23 y932.length co23, .string t935] (fun _ => True) (fun k_ => some k_ = (.slice Ao23 y932.length co23 : Value).ownBlock) rfl rfl ?aP (fun k_ hk_ => ((Kd.R_mono (ok' := fun k_ => ((fun _ => True)) k_ ∧ some k_ ≠ (u6 : Value).ownBlock) (Kd.R_apart' (HO934.out) (Kd.S_typed HO_6.out) (by decide)) (fun k_ hk => ⟨trivial, hk.2⟩))).1 k_ hk_.symm) ?aF ?aO ?aB ?aS ?aL ?_; (case aP => exact k58_mkM _ _ _ (⟨x8_2, x7_2, y932, t935⟩ : S58) (Kd.R_mono (Kd.R_tight rfl (Kd.R_mono (ok' := fun k_ => ((fun _ => True)) k_ ∧ some k_ ≠ (u6 : Value).ownBlock) (Kd.R_apart' (HO934.out) (Kd.S_typed HO_6.out) (by decide)) (fun k_ hk => ⟨trivial, hk.2⟩))) (fun _ h_ => h_))); (case aB => exact bl_); (case aF => exact (fun _ _ => trivial)); (case aO => exact (by (with_reducible repeat (first | apply Kd.S_alloc | apply Kd.S_drewN | apply Kd.S_drew)); exact Kd.S_mono HO_6.out (fun k_ hk => ⟨trivial, fun e_ => hk.2 e_⟩))); (case aS => exact (below_size bl_)); (case aL => have := LMc18.out; omega); intro v937 w25 ho hb hg hat; rw [← Ny936.out] at ho; replace HB := Aside0.mk (hb); have HO938 := Aside0.mk (ho); clear HO_6 HO934; clear ho hb hg hat))
 go_roundg k2
 case measure => have := HJ2.out; have := HK2.out; omega
 case rel => exact ⟨(y936), (t935), (wrap64 (x8_2 + a1)), (sr_), (sr_), H', ⟨by have := HJ2.out; have := HK2.out; omega⟩, ⟨by (with_reducible repeat (first | apply Kd.S_alloc | apply Kd.S_drewN | apply Kd.S_drew)); exact HO938.out⟩, ⟨bl_⟩⟩


def spec_HeadFrom.l0 : Nat → List (S27) → ByteArray → Int → Option (ByteArray)
 | 0, _, _, _ => none
 | k + 1, x1, x5, x6 => if x6 < (x1.length : Int) then (if 0 ≤ x6 then ((spec_EntryText.f k ((rd_T27 x1 x6).f0) ((rd_T27 x1 x6).f1) ((rd_T27 x1 x6).f2.f0) ((rd_T27 x1 x6).f2.f1) ((rd_T27 x1 x6).f2.f2) ((rd_T27 x1 x6).f2.f3)).bind fun t940 => (if x5.size + t940.size ≤ 9223372036854775807 then ((spec_Digest.f (x5 ++ t940)).bind fun t941 => (spec_HeadFrom.l0 k x1 t941 (wrap64 (x6 + 1)))) else (none))) else (none)) else (some x5)
def spec_HeadFrom.f (k : Nat) (a0 : ByteArray) (l1 : List (S27)) : Option (ByteArray) := spec_HeadFrom.l0 k l1 a0 0
theorem spec_HeadFrom.mono_l : ∀ k, (∀ y0 y1 y2, LeO (spec_HeadFrom.l0 k y0 y1 y2) (spec_HeadFrom.l0 (k + 1) y0 y1 y2))
 | 0 => fun _ _ _ r h => by simp [spec_HeadFrom.l0] at h
 | k + 1 => by
  have ih0 := spec_HeadFrom.mono_l k
  ·intro y0 y1 y2
   unfold spec_HeadFrom.l0
   have m0 := @spec_EntryText.mono
   exact mo_
theorem spec_HeadFrom.mono : ∀ a0 a1 k, LeO (spec_HeadFrom.f k a0 a1) (spec_HeadFrom.f (k + 1) a0 a1) := by
 intro a0 a1 k
 have ih0 := spec_HeadFrom.mono_l k
 unfold spec_HeadFrom.f
 have m0 := @spec_EntryText.mono
 exact mo_
theorem spec_HeadFrom.calls (k : Nat) (a0 : ByteArray) (A1 : Option Addr) (c1 : Nat) (l1 : List (S27)) (r : ByteArray) (w : World) (hr1 : Kd.C k27 w A1 l1.length l1) (hc1 : l1.length ≤ c1) (h : spec_HeadFrom.f k a0 l1 = some r) :
 Calls Tryd.prog 52 #[.string a0, .slice A1 l1.length c1] w fun e w' => e = .returned (.string r) ∧ Below w.heap.size w w' := by
 have hu27 := Tryd.underlying27
 have HR1 := Aside0.mk hr1
 have HC1 := Aside0.mk hc1
 clear hr1 hc1
 have HB := Aside0.mk (Below.refl w.heap.size w)
 have H := h
 unfold spec_HeadFrom.f at H
 clear h
 have H' := Aside0.mk H
 clear H
 go_enter Tryd.func52, Tryd.ntmps52
 go_wp2
 go_loopg [5, 6] k (fun kq v5 v6 w' => ∃ (x5_1 : ByteArray) (x6_1 : Int), v5 = .string x5_1 ∧ v6 = .int .i64 x6_1 ∧ Aside0 (spec_HeadFrom.l0 kq l1 x5_1 x6_1 = some r) ∧ Aside0 (kq ≤ k) ∧ Aside0 (Below w.heap.size w w'))
 case atStart => exact ⟨(a0), (0), (sr_), (sr_), H', ⟨Nat.le_refl _⟩, ⟨bl_⟩⟩
 clear H'
 try clear c1
 obtain ⟨x5_1, x6_1, rfl, rfl, HA, HK1, HB⟩ := hrel
 cases gk with
 | zero => exact absurd HA.out (by simp [spec_HeadFrom.l0])
 | succ k1 => ?_
 have H := HA.out
 clear HA
 simp only [spec_HeadFrom.l0] at H
 by_cases c3 : x6_1 < (l1.length : Int)
 rotate_left
 ·rw [if_neg c3] at H
  have c3b0 := decide_eq_false c3
  clear c3
  obtain rfl := Option.some.inj H
  go_wp2
  go_ret
  exact ⟨er_, bl_⟩
 rw [if_pos c3] at H
 have c3b0 := decide_eq_true c3
 clear c3
 by_cases c4 : 0 ≤ x6_1
 rotate_left
 ·exact nn_ c4 H
 rw [if_pos c4] at H
 have c4b0 := decide_eq_true c4
 clear c4
 replace H := bs_ H
 obtain ⟨t940, A5, H⟩ := H
 try dsimp only at H
 by_cases c6 : x5_1.size + t940.size ≤ 9223372036854775807
 rotate_left
 ·exact nn_ c6 H
 rw [if_pos c6] at H
 have c6b0 := eq_true c6
 have c6b1 : decide (x5_1.size + t940.size ≤ 9223372036854775807) = true := decide_eq_true c6
 try have c6b2 : (9223372036854775807 < x5_1.size + t940.size) = False := eq_false (Nat.not_lt.2 c6)
 replace H := bs_ H
 obtain ⟨t941, A7, H⟩ := H
 try dsimp only at H
 have H' := Aside0.mk H
 clear H
 have p939 : 0 ≤ (x6_1 : Int) := of_decide_eq_true as_
 have q939 : x6_1 < (l1.length : Int) := of_decide_eq_true as_
 obtain ⟨ad939, e939, hx939_0, hx939_1, hx939_2, hx939_3, hx939_4, hx939_5⟩ := at_T27 HR1.out x6_1 p939 q939
 cases e939
 replace hx939_0 := (HB.out.cell (World.block_lt_of_cell? w _ hx939_0)).trans hx939_0
 replace hx939_1 := (HB.out.cell (World.block_lt_of_cell? w _ hx939_1)).trans hx939_1
 replace hx939_2 := (HB.out.cell (World.block_lt_of_cell? w _ hx939_2)).trans hx939_2
 replace hx939_3 := (HB.out.cell (World.block_lt_of_cell? w _ hx939_3)).trans hx939_3
 replace hx939_4 := (HB.out.cell (World.block_lt_of_cell? w _ hx939_4)).trans hx939_4
 replace hx939_5 := (HB.out.cell (World.block_lt_of_cell? w _ hx939_5)).trans hx939_5
 replace p939 := eq_true p939
 replace q939 := eq_true q939
 go_wp2_with (first | ((with_reducible refine gate_callee (f := 32) rfl ?_); refine gs_ (some 19) Tryd.func32 #[.agg #[.int .i64 ((rd_T27 l1 x6_1).f0), .int .i64 ((rd_T27 l1 x6_1).f1), .int .i64 ((rd_T27 l1 x6_1).f2.f0), .int .i64 ((rd_T27 l1 x6_1).f2.f1), .int .i64 ((rd_T27 l1 x6_1).f2.f2), .int .i64 ((rd_T27 l1 x6_1).f2.f3)]] ?_; (with_reducible refine (spec_EntryText.calls k1 ((rd_T27 l1 x6_1).f0) ((rd_T27 l1 x6_1).f1) ((rd_T27 l1 x6_1).f2.f0) ((rd_T27 l1 x6_1).f2.f1) ((rd_T27 l1 x6_1).f2.f2) ((rd_T27 l1 x6_1).f2.f3) t940 _ A5.out).mono ?_); rintro e w8 ⟨rfl, hb⟩; refine ⟨_, rfl, ?_⟩; replace HB := Aside0.mk (below_step bl_ hb); (try clear hb)) | ((with_reducible refine gate_callee (f := 65) rfl ?_); refine gs_ (some 21) Tryd.func65 #[.string (x5_1 ++ t940)] ?_; (with_reducible refine (spec_Digest.calls (x5_1 ++ t940) t941 _ A7.out).mono ?_); rintro e w9 ⟨rfl, hb⟩; refine ⟨_, rfl, ?_⟩; replace HB := Aside0.mk (below_step bl_ hb); (try clear hb)))
 go_roundg k1
 case measure => have := HK1.out; omega
 case rel => exact ⟨(t941), (wrap64 (x6_1 + 1)), (sr_), (sr_), H', ⟨by have := HK1.out; omega⟩, ⟨bl_⟩⟩


def spec_l28Entries.f (l0 : List (S27)) : Option ((List (S27))) := (some (([] : List (S27)) : List (S27))).bind fun y942 => (if y942.length + l0.length < 2932031007402 then (some (y942 ++ l0)) else (none))
theorem spec_l28Entries.calls (A0 : Option Addr) (c0 : Nat) (l0 : List (S27)) (r : List (S27)) (w : World) (hr0 : Kd.C k27 w A0 l0.length l0) (hc0 : l0.length ≤ c0) (h : spec_l28Entries.f l0 = some r) :
 Calls Tryd.prog 82 #[.slice A0 l0.length c0] w fun e w' => ∃ v0_ : Value, e = .returned (v0_) ∧ Kd.R k27 27 w' w.heap.size (fun _ => True) v0_ r ∧ Below w.heap.size w w' := by
 have HR0 := Aside0.mk hr0
 have HC0 := Aside0.mk hc0
 clear hr0 hc0
 have HB := Aside0.mk (Below.refl w.heap.size w)
 have H := h
 unfold spec_l28Entries.f at H
 clear h
 obtain ⟨y942, hy942⟩ : ∃ y_ : List (S27), y_ = (([] : List (S27))) := ⟨_, rfl⟩
 replace H : (if y942.length + l0.length < 2932031007402 then (some (y942 ++ l0)) else (none)) = some r := rp_ H hy942
 have Ny942 := Aside0.mk hy942
 clear hy942
 by_cases c2 : y942.length + l0.length < 2932031007402
 rotate_left
 ·exact nn_ c2 H
 rw [if_pos c2] at H
 have LMc2 := Aside0.mk c2
 clear c2
 obtain ⟨y945, hy945⟩ : ∃ y_ : List (S27), y_ = (y942 ++ l0) := ⟨_, rfl⟩
 replace H : (some y945) = some r := rp_ H hy945
 have Ny945 := Aside0.mk hy945
 clear hy945
 obtain rfl := Option.some.inj H
 go_enter Tryd.func82, Tryd.ntmps82
 go_wp2_with (first | ((with_reducible refine gate_dst (N := 3) rfl ?_); refine Kd.R_lit k27 _ 27 ?hg (N := 3) ?hd (xs := ([] : List (S27))) (inner := []) (ok := fun _ => True) (okp := fun _ => True) ?hr ?hp (fun _ hk => hk) trivial (Below.refl _ _) (Nat.le_refl _) (by simp) ?_; (case hd => rfl); (case hg => rfl); (case hr => first | (go_simp; done) | (go_simp; rfl)); (case hp => exact (Reps.none _ _)); intro v943 w3 ho4 hb hg_ hnew_; clear hg_ hnew_; (first | rw [← Ny942.out] at ho4 | (simp only [Int.reduceToNat] at ho4; rw [← Ny942.out] at ho4)); have HO944 := Aside0.mk (Kd.R_lower ho4 (below_size bl_)); replace HB := Aside0.mk (below_step bl_ hb); clear hb ho4) | ((with_reducible refine gate_builtin (b := .append) (xs := #[.tmp 3, .tmp 4]) rfl ?_); at_builtin; refine Kd.R_append_rows k27 (w0 := w) w.heap.size rfl (.tmp 3) (.tmp 4) 31 27 (.agg #[(.int .i64 0), (.int .i64 0), (.int .i64 0), (.int .i64 0), (.int .i64 0), (.int .i64 0)]) 48 rfl Tryd.underlying31 info27 rfl (by decide) (by omega) v943 y942 l0 _ _ _ (fun _ => True) (fun _ => False) rfl rfl ?aO ?aR (fun _ _ h => h) (fun _ h => h.elim) ?aF ?aB ?aS ?aL ?_; (case aR => repeat (first | exact (Kd.C_below HR0.out HB.out) | exact HR0.out | (with_reducible refine Kd.C_alloc ?_ _) | (with_reducible refine Kd.C_drewN ?_ _) | (with_reducible refine Kd.C_drew ?_))); (case aB => exact bl_); (case aF => exact (fun _ _ => trivial)); (case aO => exact (ra_ HO944.out)); (case aS => exact (below_size bl_)); (case aL => have := LMc2.out; omega); intro v946 w5 ho hb hg hat; rw [← Ny945.out] at ho; replace HB := Aside0.mk (hb); have HO947 := Aside0.mk (ho); clear HO944; clear ho hb hg hat))
 go_ret
 exact ⟨_, er_, ra_ HO947.out, bl_⟩


mutual
def spec_CutLog.j0 : Nat → List (S27) → Int → List (S58) → Bool → Option ((List (S58)) × Bool)
 | 0, _, _, _, _ => none
 | k + 1, x0, x1, x6, x19 => if x19 = true then (some (x6, false)) else ((spec_Digest.f (⟨#[]⟩ : ByteArray)).bind fun t952 => (spec_CutLog.l0 k x0 x1 x6 t952 0))
def spec_CutLog.l0 : Nat → List (S27) → Int → List (S58) → ByteArray → Int → Option ((List (S58)) × Bool)
 | 0, _, _, _, _, _ => none
 | k + 1, x0, x1, x6, x7, x8 => if x8 < (x0.length : Int) then (if (wrap64 (x8 + x1)) > (x0.length : Int) then (if 0 ≤ x8 then (if x8 ≤ (x0.length : Int) then (if (x0.length : Int) ≤ (x0.length : Int) then ((spec_l28Entries.f ((x0.take ((x0.length : Int) : Int).toNat).drop (x8 : Int).toNat)).bind fun t957 => ((spec_HeadFrom.f k x7 t957).bind fun t961 => (if x6.length < 2199023255552 then (spec_CutLog.l0 k x0 x1 (x6 ++ [(⟨x8, x7, t957, t961⟩ : S58)]) t961 (wrap64 (x8 + x1))) else (none)))) else (none)) else (none)) else (none)) else (if 0 ≤ x8 then (if x8 ≤ (wrap64 (x8 + x1)) then (if (wrap64 (x8 + x1)) ≤ (x0.length : Int) then ((spec_l28Entries.f ((x0.take ((wrap64 (x8 + x1)) : Int).toNat).drop (x8 : Int).toNat)).bind fun t969 => ((spec_HeadFrom.f k x7 t969).bind fun t973 => (if x6.length < 2199023255552 then (spec_CutLog.l0 k x0 x1 (x6 ++ [(⟨x8, x7, t969, t973⟩ : S58)]) t973 (wrap64 (x8 + x1))) else (none)))) else (none)) else (none)) else (none))) else (some (x6, true))
end
def spec_CutLog.f (k : Nat) (l0 : List (S27)) (a1 : Int) : Option ((List (S58)) × Bool) := (some (([] : List (S58)) : List (S58))).bind fun y948 => ((spec_l01In.f a1 1 200).bind fun t951 => (if t951 = true then (spec_CutLog.j0 k l0 a1 y948 (decide ((l0.length : Int) > 200))) else (spec_CutLog.j0 k l0 a1 y948 true)))
theorem spec_CutLog.mono_l : ∀ k, (∀ y0 y1 y2 y3, LeO (spec_CutLog.j0 k y0 y1 y2 y3) (spec_CutLog.j0 (k + 1) y0 y1 y2 y3)) ∧ (∀ y0 y1 y2 y3 y4, LeO (spec_CutLog.l0 k y0 y1 y2 y3 y4) (spec_CutLog.l0 (k + 1) y0 y1 y2 y3 y4))
 | 0 => ⟨fun _ _ _ _ r h => by simp [spec_CutLog.j0] at h, fun _ _ _ _ _ r h => by simp [spec_CutLog.l0] at h⟩
 | k + 1 => by
  obtain ⟨ih0, ih1⟩ := spec_CutLog.mono_l k
  refine ⟨?_, ?_⟩
  ·intro y0 y1 y2 y3
   unfold spec_CutLog.j0
   have m0 := @spec_HeadFrom.mono
   exact mo_
  ·intro y0 y1 y2 y3 y4
   unfold spec_CutLog.l0
   have m0 := @spec_HeadFrom.mono
   exact mo_
theorem spec_CutLog.mono : ∀ a0 a1 k, LeO (spec_CutLog.f k a0 a1) (spec_CutLog.f (k + 1) a0 a1) := by
 intro a0 a1 k
 obtain ⟨ih0, ih1⟩ := spec_CutLog.mono_l k
 unfold spec_CutLog.f
 have m0 := @spec_HeadFrom.mono
 exact mo_
theorem spec_CutLog.calls (k : Nat) (A0 : Option Addr) (c0 : Nat) (l0 : List (S27)) (a1 : Int) (r1 : List (S58)) (r2 : Bool) (w : World) (hr0 : Kd.C k27 w A0 l0.length l0) (hc0 : l0.length ≤ c0) (h : spec_CutLog.f k l0 a1 = some (r1, r2)) :
 Calls Tryd.prog 41 #[.slice A0 l0.length c0, .int .i64 a1] w fun e w' => ∃ v0_ : Value, e = .returned (.tuple #[v0_, .bool r2]) ∧ Kd.S k58 58 w' w.heap.size (fun _ => True) v0_ r1 ∧ Below w.heap.size w w' := by
 have hu58 := Tryd.underlying58
 have HR0 := Aside0.mk hr0
 have HC0 := Aside0.mk hc0
 clear hr0 hc0
 have HB := Aside0.mk (Below.refl w.heap.size w)
 have H := h
 unfold spec_CutLog.f at H
 clear h
 obtain ⟨y948, hy948⟩ : ∃ y_ : List (S58), y_ = (([] : List (S58))) := ⟨_, rfl⟩
 replace H : ((spec_l01In.f a1 1 200).bind fun t951 => (if t951 = true then (spec_CutLog.j0 k l0 a1 y948 (decide ((l0.length : Int) > 200))) else (spec_CutLog.j0 k l0 a1 y948 true))) = some (r1, r2) := rp_ H hy948
 have Ny948 := Aside0.mk hy948
 clear hy948
 have HC3 := Aside0.mk H
 clear H
 go_enter Tryd.func41, Tryd.ntmps41
 go_upto_region 2 with (first | ((with_reducible refine gate_dst (N := 11) rfl ?_); (try (refine gate_guard (by rfl) ?_; dsimp only)); refine Kd.S_lit k58 _ 58 ?hg (N := 11) ?hd (xs := ([] : List (S58))) (inner := []) (ok := fun _ => True) (okp := fun _ => True) ?hr ?hp (fun _ hk => hk) trivial (Below.refl _ _) (Nat.le_refl _) (by simp) ?_; (case hd => rfl); (case hg => rfl); (case hr => first | (go_simp; done) | (go_simp; rfl)); (case hp => exact (Reps.none _ _)); intro v949 w4 ho5 hb hg_ hnew_; clear hg_ hnew_; (first | rw [← Ny948.out] at ho5 | (simp only [Int.reduceToNat] at ho5; rw [← Ny948.out] at ho5)); have HO950 := Aside0.mk (Kd.S_lower ho5 (below_size bl_)); replace HB := Aside0.mk (below_step bl_ hb); clear hb ho5))
 (try simp only [Act.put, List.setIfInBounds_toArray, List.set_cons_zero, List.set_cons_succ])
 go_cut [19] (fun v19 wc => ∃ (kq : Nat) (x19_2 : Bool), v19 = .bool x19_2 ∧ Aside0 (spec_CutLog.j0 kq l0 a1 y948 x19_2 = some (r1, r2)) ∧ Aside0 (kq ≤ k) ∧ Aside0 (Kd.S k58 58 wc w.heap.size (fun _ => True) v949 y948) ∧ Aside0 (Below w.heap.size w wc))
 case first =>
  have H := HC3.out
  clear HC3
  replace H := bs_ H
  obtain ⟨t951, A6, H⟩ := H
  try dsimp only at H
  by_cases c7 : t951 = true
  ·subst c7
   rw [if_pos rfl] at H
   have H' := Aside0.mk H
   clear H
   go_wp2_with (first | ((with_reducible refine gate_callee (f := 62) rfl ?_); refine gs_ (some 13) Tryd.func62 #[.int .i64 a1, .int .i64 1, .int .i64 200] ?_; (with_reducible refine (spec_l01In.calls a1 1 200 true _ A6.out).mono ?_); rintro e w' ⟨rfl, ⟨nd, rfl⟩⟩; refine ⟨_, rfl, ?_⟩))
   go_meet
   case rel => exact ⟨_, (decide ((l0.length : Int) > 200)), (sr_), H', ⟨by first | omega | exact Nat.le_refl _⟩, ⟨by (with_reducible repeat (first | apply Kd.S_alloc | apply Kd.S_drewN | apply Kd.S_drew)); exact HO950.out⟩, ⟨bl_⟩⟩
  replace c7 := Bool.eq_false_iff.mpr c7
  subst c7
  rw [nf_] at H
  have H' := Aside0.mk H
  clear H
  go_wp2_with (first | ((with_reducible refine gate_callee (f := 62) rfl ?_); refine gs_ (some 13) Tryd.func62 #[.int .i64 a1, .int .i64 1, .int .i64 200] ?_; (with_reducible refine (spec_l01In.calls a1 1 200 false _ A6.out).mono ?_); rintro e w' ⟨rfl, ⟨nd, rfl⟩⟩; refine ⟨_, rfl, ?_⟩))
  go_meet
  case rel => exact ⟨_, (true), (sr_), H', ⟨by first | omega | exact Nat.le_refl _⟩, ⟨by (with_reducible repeat (first | apply Kd.S_alloc | apply Kd.S_drewN | apply Kd.S_drew)); exact HO950.out⟩, ⟨bl_⟩⟩
 clear HC3
 obtain ⟨kq, x19_2, rfl, HA, HJ2, HO_6, HB⟩ := hcut
 cases kq with
 | zero => exact absurd HA.out (by simp [spec_CutLog.j0])
 | succ kj2 => ?_
 have H := HA.out
 clear HA
 simp only [spec_CutLog.j0] at H
 by_cases c8 : x19_2 = true
 ·subst c8
  rw [if_pos rfl] at H
  simp only [Option.some.injEq, Prod.mk.injEq] at H
  obtain ⟨rfl, rfl⟩ := H
  go_wp2
  go_ret2
  exact ⟨_, er_, by (with_reducible repeat (first | apply Kd.S_alloc | apply Kd.S_drewN | apply Kd.S_drew)); exact HO_6.out, bl_⟩
 replace c8 := Bool.eq_false_iff.mpr c8
 subst c8
 rw [nf_] at H
 replace H := bs_ H
 obtain ⟨t952, A9, H⟩ := H
 try dsimp only at H
 have H' := Aside0.mk H
 clear H
 go_wp2_with (first | ((with_reducible refine gate_callee (f := 65) rfl ?_); refine gs_ (some 21) Tryd.func65 #[.string (⟨#[]⟩ : ByteArray)] ?_; (with_reducible refine (spec_Digest.calls (⟨#[]⟩ : ByteArray) t952 _ A9.out).mono ?_); rintro e w10 ⟨rfl, hb⟩; refine ⟨_, rfl, ?_⟩; replace HO_6 := Aside0.mk (Kd.S_below (by (with_reducible repeat (first | apply Kd.S_alloc | apply Kd.S_drewN | apply Kd.S_drew)); exact HO_6.out) hb); replace HB := Aside0.mk (below_step bl_ hb); (try clear hb)))
 go_loopg [6, 7, 8] kj2 (fun kq v6 v7 v8 w' => ∃ (x6_2 : List (S58)) (x7_2 : ByteArray) (x8_2 : Int), v7 = .string x7_2 ∧ v8 = .int .i64 x8_2 ∧ Aside0 (spec_CutLog.l0 kq l0 a1 x6_2 x7_2 x8_2 = some (r1, r2)) ∧ Aside0 (kq ≤ kj2) ∧ Aside0 (Kd.S k58 58 w' w.heap.size (fun _ => True) v6 x6_2) ∧ Aside0 (Below w.heap.size w w'))
 case atStart => exact ⟨(y948), (t952), (0), (sr_), (sr_), H', ⟨Nat.le_refl _⟩, ⟨by (with_reducible repeat (first | apply Kd.S_alloc | apply Kd.S_drewN | apply Kd.S_drew)); exact HO_6.out⟩, ⟨bl_⟩⟩
 clear H'
 try clear c8
 obtain ⟨x6_2, x7_2, x8_2, rfl, rfl, HA, HK2, HO_6, HB⟩ := hrel
 cases gk with
 | zero => exact absurd HA.out (by simp [spec_CutLog.l0])
 | succ k2 => ?_
 have H := HA.out
 clear HA
 simp only [spec_CutLog.l0] at H
 by_cases c11 : x8_2 < (l0.length : Int)
 rotate_left
 ·rw [if_neg c11] at H
  have c11b0 := decide_eq_false c11
  clear c11
  simp only [Option.some.injEq, Prod.mk.injEq] at H
  obtain ⟨rfl, rfl⟩ := H
  go_wp2
  go_ret2
  exact ⟨_, er_, by (with_reducible repeat (first | apply Kd.S_alloc | apply Kd.S_drewN | apply Kd.S_drew)); exact HO_6.out, bl_⟩
 rw [if_pos c11] at H
 have c11b0 := decide_eq_true c11
 clear c11
 by_cases c12 : (wrap64 (x8_2 + a1)) > (l0.length : Int)
 rotate_left
 ·rw [if_neg c12] at H
  have c12b0 := decide_eq_false c12
  clear c12
  by_cases c29 : 0 ≤ x8_2
  rotate_left
  ·exact nn_ c29 H
  rw [if_pos c29] at H
  have c29b0 := eq_true c29
  have c29b1 : decide (0 ≤ x8_2) = true := decide_eq_true c29
  clear c29
  by_cases c30 : x8_2 ≤ (wrap64 (x8_2 + a1))
  rotate_left
  ·exact nn_ c30 H
  rw [if_pos c30] at H
  have c30b0 := eq_true c30
  have c30b1 : decide (x8_2 ≤ (wrap64 (x8_2 + a1))) = true := decide_eq_true c30
  by_cases c31 : (wrap64 (x8_2 + a1)) ≤ (l0.length : Int)
  rotate_left
  ·exact nn_ c31 H
  rw [if_pos c31] at H
  have c31b0 := eq_true c31
  have c31b1 : decide ((wrap64 (x8_2 + a1)) ≤ (l0.length : Int)) = true := decide_eq_true c31
  obtain ⟨y965, hy965⟩ : ∃ y_ : List (S27), y_ = ((l0.take ((wrap64 (x8_2 + a1)) : Int).toNat).drop (x8_2 : Int).toNat) := ⟨_, rfl⟩
  replace H : ((spec_l28Entries.f y965).bind fun t969 => ((spec_HeadFrom.f k2 x7_2 t969).bind fun t973 => (if x6_2.length < 2199023255552 then (spec_CutLog.l0 k2 l0 a1 (x6_2 ++ [(⟨x8_2, x7_2, t969, t973⟩ : S58)]) t973 (wrap64 (x8_2 + a1))) else (none)))) = some (r1, r2) := rp_ H hy965
  have Ny965 := Aside0.mk hy965
  clear hy965
  replace H := bs_ H
  obtain ⟨t969, A32, H⟩ := H
  try dsimp only at H
  replace H := bs_ H
  obtain ⟨t973, A33, H⟩ := H
  try dsimp only at H
  by_cases c34 : x6_2.length < 2199023255552
  rotate_left
  ·exact nn_ c34 H
  rw [if_pos c34] at H
  have LMc34 := Aside0.mk c34
  clear c34
  obtain ⟨y974, hy974⟩ : ∃ y_ : List (S58), y_ = (x6_2 ++ [(⟨x8_2, x7_2, t969, t973⟩ : S58)]) := ⟨_, rfl⟩
  replace H : (spec_CutLog.l0 k2 l0 a1 y974 t973 (wrap64 (x8_2 + a1))) = some (r1, r2) := rp_ H hy974
  have Ny974 := Aside0.mk hy974
  clear hy974
  have H' := Aside0.mk H
  clear H
  have q35 : ((wrap64 (x8_2 + a1)) : Int) ≤ ((l0.length : Int) : Int) := of_decide_eq_true as_
  obtain ⟨i035, hi035, _, hsz35, _⟩ := info_parts info27
  have hroom35 : l0.length ≤ c0 := HC0.out
  have hC35 : Kd.C k27 _ A0 l0.length l0 := HR0.out
  have ql35 : (x8_2 : Int) ≤ ((wrap64 (x8_2 + a1)) : Int) := of_decide_eq_true as_
  have q035 : (0 : Int) ≤ (x8_2 : Int) := of_decide_eq_true as_
  have hcut35 := cut_mid (P := Tryd.prog) 31 27 .i64 .i64 Tryd.underlying31 hi035 6 hsz35 A0 l0.length c0 x8_2 (wrap64 (x8_2 + a1)) q035 ql35 q35 hroom35
  have hr35 := Kd.C_mid (lo := (x8_2 : Int).toNat) (hi := ((wrap64 (x8_2 + a1)) : Int).toNat) (c := c0) hC35 (by omega) (by omega) hroom35
  obtain ⟨A35, hA35⟩ : ∃ A1, A1 = (if c0 = (x8_2 : Int).toNat then A0 else (A0 : Option Addr).map (·.add ((x8_2 : Int).toNat * 6))) := ⟨_, rfl⟩
  obtain ⟨c35, hc35⟩ : ∃ c1, c1 = c0 - (x8_2 : Int).toNat := ⟨_, rfl⟩
  have hy35 : y965.length = ((wrap64 (x8_2 + a1)) : Int).toNat - (x8_2 : Int).toNat := (by rw [Ny965.out, List.length_drop, List.length_take] <;> omega)
  rw [show ((l0).take ((wrap64 (x8_2 + a1)) : Int).toNat).drop (x8_2 : Int).toNat = y965 from Ny965.out.symm] at hr35
  replace hr35 : Kd.C k27 _ A35 y965.length y965 := (by rw [hA35]; exact hr35)
  rw [← hy35, ← hA35, ← hc35] at hcut35
  have HR968 := Aside0.mk hr35
  have HC968 := Aside0.mk (show y965.length ≤ c35 from by rw [hy35, hc35]; exact Nat.sub_le_sub_right (Nat.le_trans (by omega) hroom35) _)
  clear hr35 hC35 hroom35 hi035 hsz35 hc35
  have KY35 := Aside0.mk hy35
  have KA35 := Aside0.mk hA35
  clear hy35 hA35
  replace q35 := eq_true q35
  go_wp2_with (first | ((with_reducible refine gate_callee (f := 82) rfl ?_); refine gs_ (some 44) Tryd.func82 #[.slice A35 y965.length c35] ?_; (with_reducible refine (spec_l28Entries.calls _ _ y965 t969 _ ?side1 ?side2 A32.out).mono ?_); (case side1 => exact cb_ HR968.out HB.out); (case side2 => exact HC968.out); rintro e w36 ⟨v970, rfl, ho0, hb⟩; refine ⟨_, rfl, ?_⟩; replace HO_6 := Aside0.mk (Kd.S_elder' (by (with_reducible repeat (first | apply Kd.S_alloc | apply Kd.S_drewN | apply Kd.S_drew)); exact HO_6.out) (Kd.R_base ho0) hb); have HO971 := Aside0.mk (Kd.R_lower ho0 (below_size bl_)); replace HB := Aside0.mk (below_step bl_ hb); (try clear hb); (try clear ho0); obtain ⟨Ao37, co37, eo37⟩ := Kd.R_slice HO971.out; subst eo37) | ((with_reducible refine gate_dst (N := 10) rfl ?_); (try (refine gate_guard (by rfl) ?_; dsimp only)); refine bx_ 10 58 #[.int .i64 0, .string (⟨#[]⟩ : ByteArray), .slice none 0 0, .string (⟨#[]⟩ : ByteArray)] ?_; intro gb972 hg w38 hbox hb; replace HO_6 := Aside0.mk (Kd.S_below (Kd.S_elderB (by (with_reducible repeat (first | apply Kd.S_alloc | apply Kd.S_drewN | apply Kd.S_drew)); exact HO_6.out) gb972 (Nat.le_of_eq hg.symm)) hb); replace HO971 := Aside0.mk (Kd.R_below (ra_ HO971.out) hb); have BK972 := Aside0.mk (hbox); have GW972 := Aside0.mk ((hz_ : w.heap.size ≤ gb972)); have GE972 := Aside0.mk ((hz_ : w.heap.size ≤ gb972)); replace HB := Aside0.mk (below_step bl_ hb); clear hb hbox hg; obtain ⟨hcz39_0, hcz39_1, hcz39_2, hcz39_3, hfz39_0, hfz39_1, hfz39_2, hfz39_3⟩ := cf4_ BK972.out) | ((with_reducible refine gate_callee (f := 52) rfl ?_); refine gs_ (some 49) Tryd.func52 #[.string x7_2, .slice Ao37 t969.length co37] ?_; (with_reducible refine (spec_HeadFrom.calls k2 x7_2 _ _ t969 t973 _ ?side1 ?side2 A33.out).mono ?_); (case side1 => refine (Kd.R_reads' (e := 27) (base := w.heap.size) (ok := fun k_ => True) (n := t969.length) (c := co37) ?_).2.2; exact (rfa_ HO971.out BK972.out)); (case side2 => exact (Kd.R_reads' HO971.out).2.1); rintro e w40 ⟨rfl, hb⟩; refine ⟨_, rfl, ?_⟩; replace HO_6 := Aside0.mk (Kd.S_below (by (with_reducible repeat (first | apply Kd.S_alloc | apply Kd.S_drewN | apply Kd.S_drew)); exact (Kd.S_mono (Kd.S_far (p := ⟨gb972, 3, none⟩) (Kd.S_far (p := ⟨gb972, 2, none⟩) (Kd.S_far (p := ⟨gb972, 1, none⟩) (Kd.S_far (p := ⟨gb972, 0, none⟩) (Kd.S_mono HO_6.out (fun k_ hk => (⟨hk, hk.2⟩ : _ ∧ k_ ≠ gb972))) (fun _ hk => hk.2) (.int .i64 x8_2)) (fun _ hk => hk.2) (.string x7_2)) (fun _ hk => hk.2) (.slice Ao37 t969.length co37)) (fun _ hk => hk.2) (.string (⟨#[]⟩ : ByteArray))) (fun _ h_ => h_.1))) hb); replace HO971 := Aside0.mk (Kd.R_below (rfa_ HO971.out BK972.out) hb); replace BK972 := Aside0.mk (blk_below (g := gb972) (o := .cells #[.int .i64 x8_2, .string x7_2, .slice Ao37 t969.length co37, .string (⟨#[]⟩ : ByteArray)] 58 (0, 0)) (bp0_ BK972.out) hb); replace HB := Aside0.mk (below_step bl_ hb); (try clear hb); obtain ⟨hcz41_0, hcz41_1, hcz41_2, hcz41_3, hfz41_0, hfz41_1, hfz41_2, hfz41_3⟩ := cf4_ BK972.out) | ((with_reducible refine gate_store (t := 9) (p := 51) rfl ?_); refine store_event (t := 9) (p := 51) (v := ?vo_w42) (w1 := (w40.setCell ⟨gb972, 3, none⟩ (.string t973))) ?hg ?ho ?hn ?hr ?_; (case ho => rfl); (case hg => rfl); (case hn => rfl); (case hr => first | (go_simp; done) | (go_simp; rfl)); intro w42 hw; have n0_ : Aside0 (Kd.S k58 58 w42 w.heap.size (fun k_ => some k_ ≠ (.slice Ao37 t969.length co37 : Value).ownBlock ∧ k_ ≠ gb972) u6 x6_2) := ⟨(by rw [hw]; exact (by (with_reducible repeat (first | apply Kd.S_alloc | apply Kd.S_drewN | apply Kd.S_drew)); exact Kd.S_mono (Kd.S_far (p := ⟨gb972, 3, none⟩) (Kd.S_mono HO_6.out (fun k_ hk => (⟨hk, hk.2⟩ : _ ∧ k_ ≠ gb972))) (fun _ hk => hk.2) (.string t973)) (fun _ hk => ⟨hk.1.1.2, hk.1.2⟩)))⟩; have n1_ : Aside0 (Kd.R k27 27 w42 w.heap.size (fun _ => True) (.slice Ao37 t969.length co37) t969) := ⟨(by rw [hw]; exact (by (with_reducible repeat (first | apply Kd.R_alloc | apply Kd.R_drewN | apply Kd.R_drew)); exact Kd.R_mono (Kd.R_far (p := ⟨gb972, 3, none⟩) (Kd.R_types HO971.out BK972.out (by decide)) (fun _ hk => hk.2) (.string t973)) (fun _ hk => trivial)))⟩; have n2_ : Aside0 (w42.heap[gb972]? = some (.cells #[.int .i64 x8_2, .string x7_2, .slice Ao37 t969.length co37, .string t973] 58 (0, 0))) := ⟨(by rw [hw]; exact (bp0_ BK972.out))⟩; have n3_ : Aside0 (Below w.heap.size w w42) := ⟨(by rw [hw]; exact bl_)⟩; clear hw; clear HO_6; clear HO971; clear BK972; clear HB; have HO_6 := n0_; have HO971 := n1_; have BK972 := n2_; have HB := n3_; clear n0_ n1_ n2_ n3_; obtain ⟨hcz43_0, hcz43_1, hcz43_2, hcz43_3, hfz43_0, hfz43_1, hfz43_2, hfz43_3⟩ := cf4_ BK972.out) | ((with_reducible refine gate_builtin (b := .append) (xs := #[.tmp 52, .tmp 54]) rfl ?_); (try (refine gate_guard (by rfl) ?_; dsimp only)); at_builtin; refine Kd.S_append k58 (w0 := w) w.heap.size rfl (.tmp 52) (.tmp 54) 54 58 (.agg #[(.int .i64 0), (.string ⟨#[]⟩), (.slice none 0 0), (.string ⟨#[]⟩)]) 64 rfl Tryd.underlying54 info58 rfl (by decide) (by omega) u6 x6_2 (⟨x8_2, x7_2, t969, t973⟩ : S58) [.int .i64 x8_2, .string x7_2, .slice Ao37 t969.length co37, .string t973] (fun k_ => k_ ≠ gb972) (fun k_ => some k_ = (.slice Ao37 t969.length co37 : Value).ownBlock) rfl rfl ?aP (fun k_ hk_ => ((Kd.R_mono (ok' := fun k_ => ((fun k_ => k_ ≠ gb972)) k_ ∧ some k_ ≠ (u6 : Value).ownBlock) (Kd.R_types (Kd.R_apart' (HO971.out) (Kd.S_typed HO_6.out) (by decide)) BK972.out (by decide)) (fun k_ hk => ⟨hk.2, hk.1.2⟩))).1 k_ hk_.symm) ?aF ?aO ?aB ?aS ?aL ?_; (case aP => exact k58_mkM _ _ _ (⟨x8_2, x7_2, t969, t973⟩ : S58) (Kd.R_mono (Kd.R_tight rfl (Kd.R_mono (ok' := fun k_ => ((fun k_ => k_ ≠ gb972)) k_ ∧ some k_ ≠ (u6 : Value).ownBlock) (Kd.R_types (Kd.R_apart' (HO971.out) (Kd.S_typed HO_6.out) (by decide)) BK972.out (by decide)) (fun k_ hk => ⟨hk.2, hk.1.2⟩))) (fun _ h_ => h_))); (case aB => exact bl_); (case aF => exact (fun k_ hk => Kd.freshB (g := gb972) (o := .cells #[.int .i64 x8_2, .string x7_2, .slice Ao37 t969.length co37, .string t973] 58 (0, 0)) (bk_ BK972.out) k_ hk)); (case aO => exact (by (with_reducible repeat (first | apply Kd.S_alloc | apply Kd.S_drewN | apply Kd.S_drew)); exact Kd.S_mono HO_6.out (fun k_ hk => ⟨hk.2, fun e_ => hk.1 e_⟩))); (case aS => exact (below_size bl_)); (case aL => have := LMc34.out; omega); intro v975 w44 ho hb hg hat; rw [← Ny974.out] at ho; replace BK972 := Aside0.mk (blk_grown (g := gb972) (o := .cells #[.int .i64 x8_2, .string x7_2, .slice Ao37 t969.length co37, .string t973] 58 (0, 0)) (bk_ BK972.out) hg (Kd.S_away HO_6.out (fun _ hk => hk.2))); replace HB := Aside0.mk (hb); have HO976 := Aside0.mk (ho); clear HO_6 HO971; clear ho hb hg hat))
  go_roundg k2
  case measure => have := HJ2.out; have := HK2.out; omega
  case rel => exact ⟨(y974), (t973), (wrap64 (x8_2 + a1)), (sr_), (sr_), H', ⟨by have := HJ2.out; have := HK2.out; omega⟩, ⟨by (with_reducible repeat (first | apply Kd.S_alloc | apply Kd.S_drewN | apply Kd.S_drew)); exact Kd.S_mono HO976.out (fun _ hk => trivial)⟩, ⟨bl_⟩⟩
 rw [if_pos c12] at H
 have c12b0 := decide_eq_true c12
 clear c12
 by_cases c13 : 0 ≤ x8_2
 rotate_left
 ·exact nn_ c13 H
 rw [if_pos c13] at H
 have c13b0 := eq_true c13
 have c13b1 : decide (0 ≤ x8_2) = true := decide_eq_true c13
 clear c13
 by_cases c14 : x8_2 ≤ (l0.length : Int)
 rotate_left
 ·exact nn_ c14 H
 rw [if_pos c14] at H
 have c14b0 := eq_true c14
 have c14b1 : decide (x8_2 ≤ (l0.length : Int)) = true := decide_eq_true c14
 clear c14
 by_cases c15 : (l0.length : Int) ≤ (l0.length : Int)
 rotate_left
 ·exact nn_ c15 H
 rw [if_pos c15] at H
 have c15b0 := eq_true c15
 have c15b1 : decide ((l0.length : Int) ≤ (l0.length : Int)) = true := decide_eq_true c15
 clear c15
 obtain ⟨y953, hy953⟩ : ∃ y_ : List (S27), y_ = ((l0.take ((l0.length : Int) : Int).toNat).drop (x8_2 : Int).toNat) := ⟨_, rfl⟩
 replace H : ((spec_l28Entries.f y953).bind fun t957 => ((spec_HeadFrom.f k2 x7_2 t957).bind fun t961 => (if x6_2.length < 2199023255552 then (spec_CutLog.l0 k2 l0 a1 (x6_2 ++ [(⟨x8_2, x7_2, t957, t961⟩ : S58)]) t961 (wrap64 (x8_2 + a1))) else (none)))) = some (r1, r2) := rp_ H hy953
 have Ny953 := Aside0.mk hy953
 clear hy953
 replace H := bs_ H
 obtain ⟨t957, A16, H⟩ := H
 try dsimp only at H
 replace H := bs_ H
 obtain ⟨t961, A17, H⟩ := H
 try dsimp only at H
 by_cases c18 : x6_2.length < 2199023255552
 rotate_left
 ·exact nn_ c18 H
 rw [if_pos c18] at H
 have LMc18 := Aside0.mk c18
 clear c18
 obtain ⟨y962, hy962⟩ : ∃ y_ : List (S58), y_ = (x6_2 ++ [(⟨x8_2, x7_2, t957, t961⟩ : S58)]) := ⟨_, rfl⟩
 replace H : (spec_CutLog.l0 k2 l0 a1 y962 t961 (wrap64 (x8_2 + a1))) = some (r1, r2) := rp_ H hy962
 have Ny962 := Aside0.mk hy962
 clear hy962
 have H' := Aside0.mk H
 clear H
 have q19 : ((l0.length : Int) : Int) ≤ ((l0.length : Int) : Int) := of_decide_eq_true as_
 obtain ⟨i019, hi019, _, hsz19, _⟩ := info_parts info27
 have hroom19 : l0.length ≤ c0 := HC0.out
 have hC19 : Kd.C k27 _ A0 l0.length l0 := HR0.out
 have ql19 : (x8_2 : Int) ≤ ((l0.length : Int) : Int) := of_decide_eq_true as_
 have q019 : (0 : Int) ≤ (x8_2 : Int) := of_decide_eq_true as_
 have hcut19 := cut_mid (P := Tryd.prog) 31 27 .i64 .i64 Tryd.underlying31 hi019 6 hsz19 A0 l0.length c0 x8_2 (l0.length : Int) q019 ql19 q19 hroom19
 have hr19 := Kd.C_mid (lo := (x8_2 : Int).toNat) (hi := ((l0.length : Int) : Int).toNat) (c := c0) hC19 (by omega) (by omega) hroom19
 obtain ⟨A19, hA19⟩ : ∃ A1, A1 = (if c0 = (x8_2 : Int).toNat then A0 else (A0 : Option Addr).map (·.add ((x8_2 : Int).toNat * 6))) := ⟨_, rfl⟩
 obtain ⟨c19, hc19⟩ : ∃ c1, c1 = c0 - (x8_2 : Int).toNat := ⟨_, rfl⟩
 have hy19 : y953.length = ((l0.length : Int) : Int).toNat - (x8_2 : Int).toNat := (by rw [Ny953.out, List.length_drop, List.length_take] <;> omega)
 rw [show ((l0).take ((l0.length : Int) : Int).toNat).drop (x8_2 : Int).toNat = y953 from Ny953.out.symm] at hr19
 replace hr19 : Kd.C k27 _ A19 y953.length y953 := (by rw [hA19]; exact hr19)
 rw [← hy19, ← hA19, ← hc19] at hcut19
 have HR956 := Aside0.mk hr19
 have HC956 := Aside0.mk (show y953.length ≤ c19 from by rw [hy19, hc19]; exact Nat.sub_le_sub_right (Nat.le_trans (by omega) hroom19) _)
 clear hr19 hC19 hroom19 hi019 hsz19 hc19
 have KY19 := Aside0.mk hy19
 have KA19 := Aside0.mk hA19
 clear hy19 hA19
 replace q19 := eq_true q19
 go_wp2_with (first | ((with_reducible refine gate_callee (f := 82) rfl ?_); refine gs_ (some 44) Tryd.func82 #[.slice A19 y953.length c19] ?_; (with_reducible refine (spec_l28Entries.calls _ _ y953 t957 _ ?side1 ?side2 A16.out).mono ?_); (case side1 => exact cb_ HR956.out HB.out); (case side2 => exact HC956.out); rintro e w20 ⟨v958, rfl, ho0, hb⟩; refine ⟨_, rfl, ?_⟩; replace HO_6 := Aside0.mk (Kd.S_elder' (by (with_reducible repeat (first | apply Kd.S_alloc | apply Kd.S_drewN | apply Kd.S_drew)); exact HO_6.out) (Kd.R_base ho0) hb); have HO959 := Aside0.mk (Kd.R_lower ho0 (below_size bl_)); replace HB := Aside0.mk (below_step bl_ hb); (try clear hb); (try clear ho0); obtain ⟨Ao21, co21, eo21⟩ := Kd.R_slice HO959.out; subst eo21) | ((with_reducible refine gate_dst (N := 10) rfl ?_); (try (refine gate_guard (by rfl) ?_; dsimp only)); refine bx_ 10 58 #[.int .i64 0, .string (⟨#[]⟩ : ByteArray), .slice none 0 0, .string (⟨#[]⟩ : ByteArray)] ?_; intro gb960 hg w22 hbox hb; replace HO_6 := Aside0.mk (Kd.S_below (Kd.S_elderB (by (with_reducible repeat (first | apply Kd.S_alloc | apply Kd.S_drewN | apply Kd.S_drew)); exact HO_6.out) gb960 (Nat.le_of_eq hg.symm)) hb); replace HO959 := Aside0.mk (Kd.R_below (ra_ HO959.out) hb); have BK960 := Aside0.mk (hbox); have GW960 := Aside0.mk ((hz_ : w.heap.size ≤ gb960)); have GE960 := Aside0.mk ((hz_ : w.heap.size ≤ gb960)); replace HB := Aside0.mk (below_step bl_ hb); clear hb hbox hg; obtain ⟨hcz23_0, hcz23_1, hcz23_2, hcz23_3, hfz23_0, hfz23_1, hfz23_2, hfz23_3⟩ := cf4_ BK960.out) | ((with_reducible refine gate_callee (f := 52) rfl ?_); refine gs_ (some 49) Tryd.func52 #[.string x7_2, .slice Ao21 t957.length co21] ?_; (with_reducible refine (spec_HeadFrom.calls k2 x7_2 _ _ t957 t961 _ ?side1 ?side2 A17.out).mono ?_); (case side1 => refine (Kd.R_reads' (e := 27) (base := w.heap.size) (ok := fun k_ => True) (n := t957.length) (c := co21) ?_).2.2; exact (rfa_ HO959.out BK960.out)); (case side2 => exact (Kd.R_reads' HO959.out).2.1); rintro e w24 ⟨rfl, hb⟩; refine ⟨_, rfl, ?_⟩; replace HO_6 := Aside0.mk (Kd.S_below (by (with_reducible repeat (first | apply Kd.S_alloc | apply Kd.S_drewN | apply Kd.S_drew)); exact (Kd.S_mono (Kd.S_far (p := ⟨gb960, 3, none⟩) (Kd.S_far (p := ⟨gb960, 2, none⟩) (Kd.S_far (p := ⟨gb960, 1, none⟩) (Kd.S_far (p := ⟨gb960, 0, none⟩) (Kd.S_mono HO_6.out (fun k_ hk => (⟨hk, hk.2⟩ : _ ∧ k_ ≠ gb960))) (fun _ hk => hk.2) (.int .i64 x8_2)) (fun _ hk => hk.2) (.string x7_2)) (fun _ hk => hk.2) (.slice Ao21 t957.length co21)) (fun _ hk => hk.2) (.string (⟨#[]⟩ : ByteArray))) (fun _ h_ => h_.1))) hb); replace HO959 := Aside0.mk (Kd.R_below (rfa_ HO959.out BK960.out) hb); replace BK960 := Aside0.mk (blk_below (g := gb960) (o := .cells #[.int .i64 x8_2, .string x7_2, .slice Ao21 t957.length co21, .string (⟨#[]⟩ : ByteArray)] 58 (0, 0)) (bp0_ BK960.out) hb); replace HB := Aside0.mk (below_step bl_ hb); (try clear hb); obtain ⟨hcz25_0, hcz25_1, hcz25_2, hcz25_3, hfz25_0, hfz25_1, hfz25_2, hfz25_3⟩ := cf4_ BK960.out) | ((with_reducible refine gate_store (t := 9) (p := 51) rfl ?_); refine store_event (t := 9) (p := 51) (v := ?vo_w26) (w1 := (w24.setCell ⟨gb960, 3, none⟩ (.string t961))) ?hg ?ho ?hn ?hr ?_; (case ho => rfl); (case hg => rfl); (case hn => rfl); (case hr => first | (go_simp; done) | (go_simp; rfl)); intro w26 hw; have n0_ : Aside0 (Kd.S k58 58 w26 w.heap.size (fun k_ => some k_ ≠ (.slice Ao21 t957.length co21 : Value).ownBlock ∧ k_ ≠ gb960) u6 x6_2) := ⟨(by rw [hw]; exact (by (with_reducible repeat (first | apply Kd.S_alloc | apply Kd.S_drewN | apply Kd.S_drew)); exact Kd.S_mono (Kd.S_far (p := ⟨gb960, 3, none⟩) (Kd.S_mono HO_6.out (fun k_ hk => (⟨hk, hk.2⟩ : _ ∧ k_ ≠ gb960))) (fun _ hk => hk.2) (.string t961)) (fun _ hk => ⟨hk.1.1.2, hk.1.2⟩)))⟩; have n1_ : Aside0 (Kd.R k27 27 w26 w.heap.size (fun _ => True) (.slice Ao21 t957.length co21) t957) := ⟨(by rw [hw]; exact (by (with_reducible repeat (first | apply Kd.R_alloc | apply Kd.R_drewN | apply Kd.R_drew)); exact Kd.R_mono (Kd.R_far (p := ⟨gb960, 3, none⟩) (Kd.R_types HO959.out BK960.out (by decide)) (fun _ hk => hk.2) (.string t961)) (fun _ hk => trivial)))⟩; have n2_ : Aside0 (w26.heap[gb960]? = some (.cells #[.int .i64 x8_2, .string x7_2, .slice Ao21 t957.length co21, .string t961] 58 (0, 0))) := ⟨(by rw [hw]; exact (bp0_ BK960.out))⟩; have n3_ : Aside0 (Below w.heap.size w w26) := ⟨(by rw [hw]; exact bl_)⟩; clear hw; clear HO_6; clear HO959; clear BK960; clear HB; have HO_6 := n0_; have HO959 := n1_; have BK960 := n2_; have HB := n3_; clear n0_ n1_ n2_ n3_; obtain ⟨hcz27_0, hcz27_1, hcz27_2, hcz27_3, hfz27_0, hfz27_1, hfz27_2, hfz27_3⟩ := cf4_ BK960.out) | ((with_reducible refine gate_builtin (b := .append) (xs := #[.tmp 52, .tmp 54]) rfl ?_); (try (refine gate_guard (by rfl) ?_; dsimp only)); at_builtin; refine Kd.S_append k58 (w0 := w) w.heap.size rfl (.tmp 52) (.tmp 54) 54 58 (.agg #[(.int .i64 0), (.string ⟨#[]⟩), (.slice none 0 0), (.string ⟨#[]⟩)]) 64 rfl Tryd.underlying54 info58 rfl (by decide) (by omega) u6 x6_2 (⟨x8_2, x7_2, t957, t961⟩ : S58) [.int .i64 x8_2, .string x7_2, .slice Ao21 t957.length co21, .string t961] (fun k_ => k_ ≠ gb960) (fun k_ => some k_ = (.slice Ao21 t957.length co21 : Value).ownBlock) rfl rfl ?aP (fun k_ hk_ => ((Kd.R_mono (ok' := fun k_ => ((fun k_ => k_ ≠ gb960)) k_ ∧ some k_ ≠ (u6 : Value).ownBlock) (Kd.R_types (Kd.R_apart' (HO959.out) (Kd.S_typed HO_6.out) (by decide)) BK960.out (by decide)) (fun k_ hk => ⟨hk.2, hk.1.2⟩))).1 k_ hk_.symm) ?aF ?aO ?aB ?aS ?aL ?_; (case aP => exact k58_mkM _ _ _ (⟨x8_2, x7_2, t957, t961⟩ : S58) (Kd.R_mono (Kd.R_tight rfl (Kd.R_mono (ok' := fun k_ => ((fun k_ => k_ ≠ gb960)) k_ ∧ some k_ ≠ (u6 : Value).ownBlock) (Kd.R_types (Kd.R_apart' (HO959.out) (Kd.S_typed HO_6.out) (by decide)) BK960.out (by decide)) (fun k_ hk => ⟨hk.2, hk.1.2⟩))) (fun _ h_ => h_))); (case aB => exact bl_); (case aF => exact (fun k_ hk => Kd.freshB (g := gb960) (o := .cells #[.int .i64 x8_2, .string x7_2, .slice Ao21 t957.length co21, .string t961] 58 (0, 0)) (bk_ BK960.out) k_ hk)); (case aO => exact (by (with_reducible repeat (first | apply Kd.S_alloc | apply Kd.S_drewN | apply Kd.S_drew)); exact Kd.S_mono HO_6.out (fun k_ hk => ⟨hk.2, fun e_ => hk.1 e_⟩))); (case aS => exact (below_size bl_)); (case aL => have := LMc18.out; omega); intro v963 w28 ho hb hg hat; rw [← Ny962.out] at ho; replace BK960 := Aside0.mk (blk_grown (g := gb960) (o := .cells #[.int .i64 x8_2, .string x7_2, .slice Ao21 t957.length co21, .string t961] 58 (0, 0)) (bk_ BK960.out) hg (Kd.S_away HO_6.out (fun _ hk => hk.2))); replace HB := Aside0.mk (hb); have HO964 := Aside0.mk (ho); clear HO_6 HO959; clear ho hb hg hat))
 go_roundg k2
 case measure => have := HJ2.out; have := HK2.out; omega
 case rel => exact ⟨(y962), (t961), (wrap64 (x8_2 + a1)), (sr_), (sr_), H', ⟨by have := HJ2.out; have := HK2.out; omega⟩, ⟨by (with_reducible repeat (first | apply Kd.S_alloc | apply Kd.S_drewN | apply Kd.S_drew)); exact Kd.S_mono HO964.out (fun _ hk => trivial)⟩, ⟨bl_⟩⟩


def spec_l28Segments.f (k : Nat) (s0_0 : List Int) (s0_1 : Int) (s0_2 : Int) : Option ((List (S58)) × Int × Int) := (spec_l19Entries.f k s0_0 s0_1 s0_2).bind fun bt977 => ((spec_l19Entries.f k s0_0 bt977.2.1 bt977.2.2).bind fun bt982 => (if bt977.1.length + bt982.1.length < 2932031007402 then ((spec_l01Below.f s0_0 bt982.2.1 bt982.2.2 4).bind fun bt990 => ((spec_CutLog.f k (bt977.1 ++ bt982.1) (wrap64 (1 + bt990.1))).bind fun bt993 => (some (bt993.1, bt990.2.1, bt990.2.2)))) else (none)))
theorem spec_l28Segments.mono : ∀ a0 a1 a2 k, LeO (spec_l28Segments.f k a0 a1 a2) (spec_l28Segments.f (k + 1) a0 a1 a2) := by
 intro a0 a1 a2 k
 unfold spec_l28Segments.f
 have m0 := @spec_CutLog.mono
 have m1 := @spec_l19Entries.mono
 exact mo_
theorem spec_l28Segments.calls (k : Nat) (g : Nat) (s0_0 : List Int) (s0_1 : Int) (s0_2 : Int) (r1 : List (S58)) (r2 : Int) (r3 : Int) (w0 w : World) (hI : IsS100 w0 w g s0_0 s0_1 s0_2) (hB : Below w0.heap.size w0 w) (h : spec_l28Segments.f k s0_0 s0_1 s0_2 = some (r1, r2, r3)) :
 Calls Tryd.prog 113 #[.pointer (some ⟨g, 0, none⟩)] w fun e w' => ∃ v0_ : Value, e = .returned (v0_) ∧ Kd.S k58 58 w' w.heap.size (fun _ => True) v0_ r1 ∧ IsS100 w0 w' g s0_0 r2 r3 ∧ Below w0.heap.size w0 w' ∧ KeepBut w w' g none := by
 have HI0 := Aside0.mk hI
 have HK := Aside0.mk (KeepBut.refl w g none)
 have HL := Aside0.mk hB.size
 clear hI
 have HW0 := Aside0.mk hB.size
 have HB := Aside0.mk hB
 clear hB
 have H := h
 unfold spec_l28Segments.f at H
 clear h
 replace H := bs_ H
 obtain ⟨⟨t977, t980, t981⟩, A2, H⟩ := H
 try dsimp only at H
 replace H := bs_ H
 obtain ⟨⟨t982, t985, t986⟩, A3, H⟩ := H
 try dsimp only at H
 by_cases c4 : t977.length + t982.length < 2932031007402
 rotate_left
 ·exact nn_ c4 H
 rw [if_pos c4] at H
 have LMc4 := Aside0.mk c4
 clear c4
 obtain ⟨y987, hy987⟩ : ∃ y_ : List (S27), y_ = (t977 ++ t982) := ⟨_, rfl⟩
 replace H : ((spec_l01Below.f s0_0 t985 t986 4).bind fun bt990 => ((spec_CutLog.f k y987 (wrap64 (1 + bt990.1))).bind fun bt993 => (some (bt993.1, bt990.2.1, bt990.2.2)))) = some (r1, r2, r3) := rp_ H hy987
 have Ny987 := Aside0.mk hy987
 clear hy987
 replace H := bs_ H
 obtain ⟨⟨t990, t991, t992⟩, A5, H⟩ := H
 try dsimp only at H
 replace H := bs_ H
 obtain ⟨⟨t993, t994⟩, A6, H⟩ := H
 try dsimp only at H
 simp only [Option.some.injEq, Prod.mk.injEq] at H
 obtain ⟨rfl, rfl, rfl⟩ := H
 go_enter Tryd.func113, Tryd.ntmps113
 go_wp2_with (first | ((with_reducible refine gate_callee (f := 93) rfl ?_); refine gs_ (some 7) Tryd.func93 #[.pointer (some ⟨g, 0, none⟩)] ?_; (with_reducible refine (spec_l19Entries.calls k g s0_0 s0_1 s0_2 t977 t980 t981 w0 _ ?side1 ?side2 A2.out).mono ?_); (case side1 => exact is0_); (case side2 => exact bi0_); rintro e w7 ⟨v978, rfl, ho0, hi, hb, hk⟩; refine ⟨_, rfl, ?_⟩; have HO979 := Aside0.mk (Kd.R_lower ho0 (keep_size (w := w) (g := g) (row := none) hkx_)); replace HK := Aside0.mk (KeepBut.trans hkx_ hk (.inl rfl)); replace HB := Aside0.mk (hb); replace HI0 := Aside0.mk (hi); (try clear hb); (try clear hk); (try clear hi); (try clear ho0)) | ((with_reducible refine gate_callee (f := 93) rfl ?_); refine gs_ (some 9) Tryd.func93 #[.pointer (some ⟨g, 0, none⟩)] ?_; (with_reducible refine (spec_l19Entries.calls k g s0_0 t980 t981 t982 t985 t986 w0 _ ?side1 ?side2 A3.out).mono ?_); (case side1 => exact is0_); (case side2 => exact bi0_); rintro e w8 ⟨v983, rfl, ho0, hi, hb, hk⟩; refine ⟨_, rfl, ?_⟩; have HO984 := Aside0.mk (Kd.R_lower (Kd.R_new' ho0 (Kd.R_lt (ra_ HO979.out))) (keep_size (w := w) (g := g) (row := none) hkx_)); replace HO979 := Aside0.mk (Kd.R_mono (Kd.R_told (Kd.R_oldK (IsS100.apart (show IsS100 w0 _ g s0_0 t980 t981 from is0_) (ra_ HO979.out) (by decide)) hk) (Kd.R_base ho0)) (fun _ h_ => h_.1)); replace HK := Aside0.mk (KeepBut.trans hkx_ hk (.inl rfl)); replace HB := Aside0.mk (hb); replace HI0 := Aside0.mk (hi); (try clear hb); (try clear hk); (try clear hi); (try clear ho0); obtain ⟨Ao10, co10, eo10⟩ := Kd.R_slice HO984.out; subst eo10) | ((with_reducible refine gate_builtin (b := .append) (xs := #[.tmp 7, .tmp 9]) rfl ?_); at_builtin; refine Kd.R_append_rows k27 w.heap.size rfl (.tmp 7) (.tmp 9) 31 27 (.agg #[(.int .i64 0), (.int .i64 0), (.int .i64 0), (.int .i64 0), (.int .i64 0), (.int .i64 0)]) 48 rfl Tryd.underlying31 info27 rfl (by decide) (by omega) v978 t977 t982 _ _ _ (fun k_ => some k_ ≠ (.slice Ao10 t982.length co10 : Value).ownBlock) (fun _ => False) rfl rfl ?aO ?aR (fun _ _ h => h) (fun _ h => h.elim) ?aF (Below.refl _ _) ?aS ?aL ?_; (case aR => repeat (first | exact (Kd.R_reads' HO984.out).2.2 | (with_reducible refine Kd.C_alloc ?_ _) | (with_reducible refine Kd.C_drewN ?_ _) | (with_reducible refine Kd.C_drew ?_))); (case aF => exact (fun k_ hk => Kd.fresh' (Kd.R_lt (ra_ HO984.out)) k_ hk)); (case aO => exact (by (with_reducible repeat (first | apply Kd.R_alloc | apply Kd.R_drewN | apply Kd.R_drew)); exact Kd.R_mono HO979.out (fun _ hk => hk.2))); (case aS => exact (keep_size (w := w) (g := g) (row := none) hkx_)); (case aL => have := LMc4.out; omega); intro v988 w9 ho hb hg hat; rw [← Ny987.out] at ho; replace HO984 := Aside0.mk (Kd.R_after (ok := (fun _ => True)) (ra_ HO984.out) hg hat); replace HB := Aside0.mk (below_weaken bi0_ HL.out hb); replace HI0 := Aside0.mk (IsS100.grown (show IsS100 w0 _ g s0_0 t985 t986 from is0_) hg (IsS100.own_ne HI0.out HO979.out (by decide))); replace HK := Aside0.mk (KeepBut.trans hkx_ (KeepBut.of_grown hg g) (Kd.R_base2 HO979.out)); have HO989 := Aside0.mk (ho); clear HO979; clear ho hb hg hat) | ((with_reducible refine gate_callee (f := 64) rfl ?_); refine gs_ (some 14) Tryd.func64 #[.pointer (some ⟨g, 0, none⟩), .int .i64 4] ?_; (with_reducible refine (spec_l01Below.calls g s0_0 t985 t986 4 t990 t991 t992 w0 _ ?side1 ?side2 A5.out).mono ?_); (case side1 => exact is0_); (case side2 => exact bi0_); rintro e w11 ⟨rfl, hi, hb, hk⟩; refine ⟨_, rfl, ?_⟩; replace HO984 := Aside0.mk (Kd.R_mono (Kd.R_keep (IsS100.apart (show IsS100 w0 _ g s0_0 t985 t986 from is0_) (ra_ HO984.out) (by decide)) hk (fun _ h => h.2)) (fun _ h => h.1)); replace HO989 := Aside0.mk (Kd.R_mono (Kd.R_keep (IsS100.apart (show IsS100 w0 _ g s0_0 t985 t986 from is0_) (ra_ HO989.out) (by decide)) hk (fun _ h => h.2)) (fun _ h => h.1)); replace HK := Aside0.mk (KeepBut.trans hkx_ hk (.inl rfl)); replace HB := Aside0.mk (hb); replace HI0 := Aside0.mk (hi); (try clear hb); (try clear hk); (try clear hi); obtain ⟨Ao12, co12, eo12⟩ := Kd.R_slice HO989.out; subst eo12) | ((with_reducible refine gate_callee (f := 41) rfl ?_); refine gs_ (some 16) Tryd.func41 #[.slice Ao12 y987.length co12, .int .i64 (wrap64 (1 + t990))] ?_; (with_reducible refine (spec_CutLog.calls k _ _ y987 (wrap64 (1 + t990)) t993 t994 _ ?side1 ?side2 A6.out).mono ?_); (case side1 => exact cs_ ((Kd.R_reads' HO989.out).2.2)); (case side2 => exact (Kd.R_reads' HO989.out).2.1); rintro e w13 ⟨v995, rfl, ho0, hb⟩; refine ⟨_, rfl, ?_⟩; have HO996 := Aside0.mk (Kd.S_lower (Kd.S_new' (Kd.S_new' ho0 (Kd.R_lt (ra_ HO984.out))) (Kd.R_lt (ra_ HO989.out))) (keep_size (w := w) (g := g) (row := none) hkx_)); replace HO984 := Aside0.mk (Kd.R_below (ra_ HO984.out) hb); replace HO989 := Aside0.mk (Kd.R_below (ra_ HO989.out) hb); replace HK := Aside0.mk (KeepBut.trans hkx_ (KeepBut.of_below hb g none) (.inl rfl)); replace HB := Aside0.mk (below_step bi0_ hb); replace HI0 := Aside0.mk (IsS100.below is0_ hb); (try clear hb); (try clear ho0)))
 go_ret
 exact ⟨_, er_, by (with_reducible repeat (first | apply Kd.S_alloc | apply Kd.S_drewN | apply Kd.S_drew)); exact Kd.S_mono HO996.out (fun _ hk => trivial), is0_, bi0_, hkx_⟩

end Go.Proofs.YtdlapahfmfhbjaaDoor.PA
