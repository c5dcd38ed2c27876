/- Contracts of functions of the program and of the reference, and plain lemmas on what they compute: a part of the proof of the law FnLessNums. No condition. -/
import Derived.Test.YtjfmpodeenidnaaG90508x0
import Derived.Test.YtjfmpodeenidnaaG90508x1
import Derived.Test.YtjfmpodeenidnaaG90508x2
import Derived.Test.YtjfmpodeenidnaaShortV
set_option maxHeartbeats 8000000
set_option maxRecDepth 100000
namespace Go.Proofs.Ytjfmpodeenidnaa.PC
open Go.RowKit Go.Proofs.Ytjfmpodeenidnaa.Short Go.Proofs.YtjfmpodeenidnaaW.PrintWords Go.Proofs.YtjfmpodeenidnaaW.PrintLast Go.Proofs.YtjfmpodeenidnaaW.PrintMore
attribute [local go_sem] max2_int min2_int max_two min_two max_three min_three max_four min_four   -- for this text's walks alone
set_option linter.unusedVariables false
set_option linter.unusedSimpArgs false

def spec_l04Call.l0 : Nat → Int → List Int → Int → Int → Int → Int → List (S98) → Option (Int × Int × (List (S98)) × Int × Int)
 | 0, _, _, _, _, _, _, _ => none
 | k + 1, x4, x1000, x1001, x1002, x268000, x268001, x268002 => if x4 < 3 then ((spec_l04Wide.f x1000 x1001 x1002).bind fun bt268 => (if x268002.length < 8796093022208 then (spec_l04Call.l0 k (wrap64 (x4 + 1)) x1000 bt268.2.2.1 bt268.2.2.2 x268000 x268001 (x268002 ++ [(⟨bt268.1, bt268.2.1⟩ : S98)])) else (none))) else (some (x268000, x268001, x268002, x1001, x1002))
def spec_l04Call.f (k : Nat) (s0_0 : List Int) (s0_1 : Int) (s0_2 : Int) : Option (Int × Int × (List (S98)) × Int × Int) := (spec_l01PickInt.f s0_0 s0_1 s0_2 (([62, 62, 62, 62, 3] : List Int))).bind fun bt258 => ((spec_l01PickInt.f s0_0 bt258.2.1 bt258.2.2 (([0, 1, 2, 3, 4, 6, 9, 11, 4294967295, 77] : List Int))).bind fun bt264 => (spec_l04Call.l0 k 0 s0_0 bt264.2.1 bt264.2.2 bt258.1 bt264.1 ([] : List (S98))))
theorem spec_l04Call.mono_l : ∀ k, (∀ y0 y1 y2 y3 y4 y5 y6, LeO (spec_l04Call.l0 k y0 y1 y2 y3 y4 y5 y6) (spec_l04Call.l0 (k + 1) y0 y1 y2 y3 y4 y5 y6))
 | 0 => fun _ _ _ _ _ _ _ r h => by simp [spec_l04Call.l0] at h
 | k + 1 => by
  have ih0 := spec_l04Call.mono_l k
  ·intro y0 y1 y2 y3 y4 y5 y6
   unfold spec_l04Call.l0
   exact mo_
theorem spec_l04Call.mono : ∀ a0 a1 a2 k, LeO (spec_l04Call.f k a0 a1 a2) (spec_l04Call.f (k + 1) a0 a1 a2) := by
 intro a0 a1 a2 k
 have ih0 := spec_l04Call.mono_l k
 unfold spec_l04Call.f
 exact mo_
theorem spec_l04Call.calls (k : Nat) (g : Nat) (s0_0 : List Int) (s0_1 : Int) (s0_2 : Int) (r1 : Int) (r2 : Int) (r3 : List (S98)) (r4 : Int) (r5 : Int) (w0 w : World) (hI : IsS118 w0 w g s0_0 s0_1 s0_2) (hB : Below w0.heap.size w0 w) (h : spec_l04Call.f k s0_0 s0_1 s0_2 = some (r1, r2, r3, r4, r5)) :
 Calls Try.prog 61 #[.pointer (some ⟨g, 0, none⟩)] w fun e w' => ∃ v2_ : Value, e = .returned (.agg #[.int .i64 r1, .int .i64 r2, v2_]) ∧ Kd.R k98 98 w' w.heap.size (fun _ => True) v2_ r3 ∧ IsS118 w0 w' g s0_0 r4 r5 ∧ Below w0.heap.size w0 w' ∧ KeepBut w w' g none := by
 have hu47 := Try.underlying47
 have hu98 := Try.underlying98
 have HI0 := Aside0.mk hI
 have HK := Aside0.mk (KeepBut.refl w g none)
 have HL := Aside0.mk hB.size
 clear hI
 have HW0 := Aside0.mk hB.size
 have HB := Aside0.mk hB
 clear hB
 have H := h
 unfold spec_l04Call.f at H
 clear h
 obtain ⟨y255, hy255⟩ : ∃ y_ : List Int, y_ = (([62, 62, 62, 62, 3] : List Int)) := ⟨_, rfl⟩
 replace H : ((spec_l01PickInt.f s0_0 s0_1 s0_2 y255).bind fun bt258 => ((spec_l01PickInt.f s0_0 bt258.2.1 bt258.2.2 (([0, 1, 2, 3, 4, 6, 9, 11, 4294967295, 77] : List Int))).bind fun bt264 => (spec_l04Call.l0 k 0 s0_0 bt264.2.1 bt264.2.2 bt258.1 bt264.1 ([] : List (S98))))) = some (r1, r2, r3, r4, r5) := rp_ H hy255
 have Ny255 := Aside0.mk hy255
 clear hy255
 replace H := bs_ H
 obtain ⟨⟨t258, t259, t260⟩, A2, H⟩ := H
 try dsimp only at H
 obtain ⟨y261, hy261⟩ : ∃ y_ : List Int, y_ = (([0, 1, 2, 3, 4, 6, 9, 11, 4294967295, 77] : List Int)) := ⟨_, rfl⟩
 replace H : ((spec_l01PickInt.f s0_0 t259 t260 y261).bind fun bt264 => (spec_l04Call.l0 k 0 s0_0 bt264.2.1 bt264.2.2 t258 bt264.1 ([] : List (S98)))) = some (r1, r2, r3, r4, r5) := rp_ H hy261
 have Ny261 := Aside0.mk hy261
 clear hy261
 replace H := bs_ H
 obtain ⟨⟨t264, t265, t266⟩, A3, H⟩ := H
 try dsimp only at H
 have H' := Aside0.mk H
 clear H
 go_enter Try.func61, Try.ntmps61
 go_wp2_with (first | ((with_reducible refine gate_dst (N := 2) rfl ?_); refine bx_ 2 47 #[.int .i64 0, .int .i64 0, .slice none 0 0] ?_; intro gb254 hg w4 hbox hb; replace HB := Aside0.mk (below_step bi0_ hb); have BK254 := Aside0.mk (hbox); have GW254 := Aside0.mk ((by rw [hg]; exact (keep_size (w := w) (g := g) (row := none) hkx_) : w.heap.size ≤ gb254)); have GE254 := Aside0.mk ((Nat.le_trans HW0.out (by rw [hg]; exact (keep_size (w := w) (g := g) (row := none) hkx_) : w.heap.size ≤ gb254) : w0.heap.size ≤ gb254)); replace HK := Aside0.mk (KeepBut.trans hkx_ (KeepBut.of_below hb g none) (.inl rfl)); have NB0_254 := Aside0.mk ((by rw [hg]; exact Nat.ne_of_lt (IsS118.lt (show IsS118 w0 _ g s0_0 s0_1 s0_2 from is0_)) : g ≠ gb254)); have NB254_0 := Aside0.mk ((by rw [hg]; exact Nat.ne_of_gt (IsS118.lt (show IsS118 w0 _ g s0_0 s0_1 s0_2 from is0_)) : gb254 ≠ g)); replace HI0 := Aside0.mk (IsS118.below is0_ hb); clear hb hbox hg) | ((with_reducible refine gate_dst (N := 7) rfl ?_); refine Kd.R_lit (Kd.int .i64) _ 3 ?hg (N := 7) ?hd (xs := ([62, 62, 62, 62, 3] : List Int)) (inner := [.int .i64 62, .int .i64 62, .int .i64 62, .int .i64 62, .int .i64 3]) (ok := fun _ => True) (okp := fun _ => True) ?hr ?hp (fun _ hk => hk) trivial (Below.refl _ _) (Nat.le_refl _) (by simp) ?_; (case hd => rfl); (case hg => rfl); (case hr => first | (go_simp; done) | (go_simp; rfl)); (case hp => exact (Reps.one (show Kd.M (Kd.int .i64) _ _ _ 62 [.int .i64 62] from rfl) (Reps.one (show Kd.M (Kd.int .i64) _ _ _ 62 [.int .i64 62] from rfl) (Reps.one (show Kd.M (Kd.int .i64) _ _ _ 62 [.int .i64 62] from rfl) (Reps.one (show Kd.M (Kd.int .i64) _ _ _ 62 [.int .i64 62] from rfl) (Reps.one (show Kd.M (Kd.int .i64) _ _ _ 3 [.int .i64 3] from rfl) (Reps.none _ _))))))); intro v256 w5 ho6 hb hg_ hnew_; clear hg_ hnew_; (first | rw [← Ny255.out] at ho6 | (simp only [Int.reduceToNat] at ho6; rw [← Ny255.out] at ho6)); have HO257 := Aside0.mk (Kd.R_lower ho6 (keep_size (w := w) (g := g) (row := none) hkx_)); replace BK254 := Aside0.mk (blk_below (bn0_ BK254.out) hb); replace HK := Aside0.mk (KeepBut.trans (by repeat (first | (with_reducible first | exact HK.out | apply KeepBut.set_ | apply keep_drewN | apply keep_drew | apply keep_alloc | refine keep_far ?_ GW254.out _) | exact HK.out)) (KeepBut.of_below hb g none) (.inl rfl)); replace HB := Aside0.mk (below_step bi0_ hb); replace HI0 := Aside0.mk (IsS118.below is0_ hb); clear hb ho6; obtain ⟨Ao7, co7, eo7⟩ := Kd.R_slice HO257.out; subst eo7) | ((with_reducible refine gate_callee (f := 104) rfl ?_); refine gs_ (some 8) Try.func104 #[.pointer (some ⟨g, 0, none⟩), .slice Ao7 y255.length co7] ?_; (with_reducible refine (spec_l01PickInt.calls g s0_0 s0_1 s0_2 _ _ y255 t258 t259 t260 w0 _ ?side1 ?side2 ?side3 ?side4 ?side5 A2.out).mono ?_); (case side1 => exact is0_); (case side2 => exact bi0_); (case side3 => exact cs_ ((Kd.R_reads' HO257.out).2.2)); (case side4 => exact (Kd.R_reads' HO257.out).2.1); (case side5 => exact far_slice (IsS118.own_ne HI0.out HO257.out (by decide))); rintro e w8 ⟨rfl, hi, hb, hk⟩; refine ⟨_, rfl, ?_⟩; replace BK254 := Aside0.mk (KeepBut.blk hk (g' := gb254) (o := .cells #[.int .i64 0, .int .i64 0, .slice none 0 0] 47 (0, 0)) (bk_ BK254.out) NB254_0.out (by simp)); replace HO257 := Aside0.mk (Kd.R_mono (Kd.R_keep (IsS118.apart (show IsS118 w0 _ g s0_0 s0_1 s0_2 from is0_) (ra_ HO257.out) (by decide)) hk (fun _ h => h.2)) (fun _ h => h.1)); replace HK := Aside0.mk (KeepBut.trans (by repeat (first | (with_reducible first | exact HK.out | apply KeepBut.set_ | apply keep_drewN | apply keep_drew | apply keep_alloc | refine keep_far ?_ GW254.out _) | exact HK.out)) hk (.inl rfl)); replace HB := Aside0.mk (hb); replace HI0 := Aside0.mk (hi); (try clear hb); (try clear hk); (try clear hi)) | ((with_reducible refine gate_dst (N := 10) rfl ?_); refine Kd.R_lit (Kd.int .i64) _ 3 ?hg (N := 10) ?hd (xs := ([0, 1, 2, 3, 4, 6, 9, 11, 4294967295, 77] : List Int)) (inner := [.int .i64 0, .int .i64 1, .int .i64 2, .int .i64 3, .int .i64 4, .int .i64 6, .int .i64 9, .int .i64 11, .int .i64 4294967295, .int .i64 77]) (ok := fun _ => True) (okp := fun _ => True) ?hr ?hp (fun _ hk => hk) trivial (Below.refl _ _) (Nat.le_refl _) (by simp) ?_; (case hd => rfl); (case hg => rfl); (case hr => first | (go_simp; done) | (go_simp; rfl)); (case hp => exact (Reps.one (show Kd.M (Kd.int .i64) _ _ _ 0 [.int .i64 0] from rfl) (Reps.one (show Kd.M (Kd.int .i64) _ _ _ 1 [.int .i64 1] from rfl) (Reps.one (show Kd.M (Kd.int .i64) _ _ _ 2 [.int .i64 2] from rfl) (Reps.one (show Kd.M (Kd.int .i64) _ _ _ 3 [.int .i64 3] from rfl) (Reps.one (show Kd.M (Kd.int .i64) _ _ _ 4 [.int .i64 4] from rfl) (Reps.one (show Kd.M (Kd.int .i64) _ _ _ 6 [.int .i64 6] from rfl) (Reps.one (show Kd.M (Kd.int .i64) _ _ _ 9 [.int .i64 9] from rfl) (Reps.one (show Kd.M (Kd.int .i64) _ _ _ 11 [.int .i64 11] from rfl) (Reps.one (show Kd.M (Kd.int .i64) _ _ _ 4294967295 [.int .i64 4294967295] from rfl) (Reps.one (show Kd.M (Kd.int .i64) _ _ _ 77 [.int .i64 77] from rfl) (Reps.none _ _)))))))))))); intro v262 w9 ho10 hb hg_ hnew_; clear hg_ hnew_; (first | rw [← Ny261.out] at ho10 | (simp only [Int.reduceToNat] at ho10; rw [← Ny261.out] at ho10)); have HO263 := Aside0.mk (Kd.R_lower (Kd.R_new' ho10 (Kd.R_lt (ra_ HO257.out))) (keep_size (w := w) (g := g) (row := none) hkx_)); replace HO257 := Aside0.mk (Kd.R_elder' (ra_ HO257.out) (Kd.R_base ho10) hb); replace BK254 := Aside0.mk (blk_below (bn0_ BK254.out) hb); replace HK := Aside0.mk (KeepBut.trans (by repeat (first | (with_reducible first | exact HK.out | apply KeepBut.set_ | apply keep_drewN | apply keep_drew | apply keep_alloc | refine keep_far ?_ GW254.out _) | exact HK.out)) (KeepBut.of_below hb g none) (.inl rfl)); replace HB := Aside0.mk (below_step bi0_ hb); replace HI0 := Aside0.mk (IsS118.below is0_ hb); clear hb ho10; obtain ⟨Ao11, co11, eo11⟩ := Kd.R_slice HO263.out; subst eo11) | ((with_reducible refine gate_callee (f := 104) rfl ?_); refine gs_ (some 11) Try.func104 #[.pointer (some ⟨g, 0, none⟩), .slice Ao11 y261.length co11] ?_; (with_reducible refine (spec_l01PickInt.calls g s0_0 t259 t260 _ _ y261 t264 t265 t266 w0 _ ?side1 ?side2 ?side3 ?side4 ?side5 A3.out).mono ?_); (case side1 => exact is0_); (case side2 => exact bi0_); (case side3 => exact cs_ ((Kd.R_reads' HO263.out).2.2)); (case side4 => exact (Kd.R_reads' HO263.out).2.1); (case side5 => exact far_slice (IsS118.own_ne HI0.out HO263.out (by decide))); rintro e w12 ⟨rfl, hi, hb, hk⟩; refine ⟨_, rfl, ?_⟩; replace BK254 := Aside0.mk (KeepBut.blk hk (g' := gb254) (o := .cells #[.int .i64 0, .int .i64 0, .slice none 0 0] 47 (0, 0)) (bk_ BK254.out) NB254_0.out (by simp)); replace HO257 := Aside0.mk (Kd.R_mono (Kd.R_keep (IsS118.apart (show IsS118 w0 _ g s0_0 t259 t260 from is0_) (ra_ HO257.out) (by decide)) hk (fun _ h => h.2)) (fun _ h => h.1)); replace HO263 := Aside0.mk (Kd.R_mono (Kd.R_keep (IsS118.apart (show IsS118 w0 _ g s0_0 t259 t260 from is0_) (ra_ HO263.out) (by decide)) hk (fun _ h => h.2)) (fun _ h => h.1)); replace HK := Aside0.mk (KeepBut.trans (by repeat (first | (with_reducible first | exact HK.out | apply KeepBut.set_ | apply keep_drewN | apply keep_drew | apply keep_alloc | refine keep_far ?_ GW254.out _) | exact HK.out)) hk (.inl rfl)); replace HB := Aside0.mk (hb); replace HI0 := Aside0.mk (hi); (try clear hb); (try clear hk); (try clear hi)) | ((with_reducible refine gate_dst (N := 3) rfl ?_); refine bx_ 3 47 #[.int .i64 0, .int .i64 0, .slice none 0 0] ?_; intro gb267 hg w13 hbox hb; replace HO257 := Aside0.mk (Kd.R_below (ra_ HO257.out) hb); replace HO263 := Aside0.mk (Kd.R_below (ra_ HO263.out) hb); replace HB := Aside0.mk (below_step bi0_ hb); have BK267 := Aside0.mk (hbox); have GW267 := Aside0.mk ((by rw [hg]; exact (keep_size (w := w) (g := g) (row := none) hkx_) : w.heap.size ≤ gb267)); have GE267 := Aside0.mk ((Nat.le_trans HW0.out (by rw [hg]; exact (keep_size (w := w) (g := g) (row := none) hkx_) : w.heap.size ≤ gb267) : w0.heap.size ≤ gb267)); replace HK := Aside0.mk (KeepBut.trans (by repeat (first | (with_reducible first | exact HK.out | apply KeepBut.set_ | apply keep_drewN | apply keep_drew | apply keep_alloc | refine keep_far ?_ GW254.out _) | exact HK.out)) (KeepBut.of_below hb g none) (.inl rfl)); have NB254_267 := Aside0.mk ((by rw [hg]; exact Nat.ne_of_lt (blk_lt (g := gb254) (o := .cells #[.int .i64 0, .int .i64 0, .slice none 0 0] 47 (0, 0)) (bk_ BK254.out)) : gb254 ≠ gb267)); have NB267_254 := Aside0.mk ((by rw [hg]; exact Nat.ne_of_gt (blk_lt (g := gb254) (o := .cells #[.int .i64 0, .int .i64 0, .slice none 0 0] 47 (0, 0)) (bk_ BK254.out)) : gb267 ≠ gb254)); replace BK254 := Aside0.mk (blk_below (bn0_ BK254.out) hb); have NB0_267 := Aside0.mk ((by rw [hg]; exact Nat.ne_of_lt (IsS118.lt (show IsS118 w0 _ g s0_0 t265 t266 from is0_)) : g ≠ gb267)); have NB267_0 := Aside0.mk ((by rw [hg]; exact Nat.ne_of_gt (IsS118.lt (show IsS118 w0 _ g s0_0 t265 t266 from is0_)) : gb267 ≠ g)); replace HI0 := Aside0.mk (IsS118.below is0_ hb); clear hb hbox hg; have hnb14 := NB267_254.out; have hnc14 := NB254_267.out; have hnb15 := NB267_0.out; have hnc15 := NB0_267.out; obtain ⟨hcz16_0, hcz16_1, hcz16_2, hfz16_0, hfz16_1, hfz16_2⟩ := cf3_ BK267.out))
 go_loopg [4] k (fun kq v4 w' => ∃ (x4_1 : Int) (x1001_1 : Int) (x1002_1 : Int) (x268002_1 : List (S98)) (u268002 : Value), v4 = .int .i64 x4_1 ∧ Aside0 (spec_l04Call.l0 kq x4_1 s0_0 x1001_1 x1002_1 t258 t264 x268002_1 = some (r1, r2, r3, r4, r5)) ∧ Aside0 (kq ≤ k) ∧ Aside0 (Kd.R k98 98 w' w.heap.size (fun _ => True) u268002 x268002_1) ∧ Aside0 (w'.heap[gb254]? = some (.cells #[.int .i64 0, .int .i64 0, (.slice none 0 0)] 47 (0, 0))) ∧ Aside0 (w'.heap[gb267]? = some (.cells #[.int .i64 t258, .int .i64 t264, u268002] 47 (0, 0))) ∧ Aside0 (IsS118 w0 w' g s0_0 x1001_1 x1002_1) ∧ Aside0 (KeepBut w w' g none) ∧ Aside0 (Below w0.heap.size w0 w'))
 case atStart => exact ⟨(0), (t265), (t266), (([] : List (S98))), (.slice none 0 0), (sr_), H', ⟨Nat.le_refl _⟩, ⟨by first | exact Kd.R_nil _ _ _ _ _ | exact Kd.N_nil _ _ _ _ _ | exact Kd.V_nil _ _ _ _ _ | exact Kd.Q_nil _ _ _ _ _ | exact Kd.S_nil _ _ _ _ _⟩, ⟨bp1_ BK254.out NB254_267.out⟩, ⟨bp0_ BK267.out⟩, ⟨is0_⟩, ⟨hkx_⟩, ⟨bi0_⟩⟩
 clear H'
 try clear hcz16_0
 try clear hcz16_1
 try clear hcz16_2
 try clear hfz16_0
 try clear hfz16_1
 try clear hfz16_2
 obtain ⟨x4_1, x1001_1, x1002_1, x268002_1, u268002, rfl, HA, HK1, HO_268002, BK254, BK267, HI0, HK, HB⟩ := hrel
 cases gk with
 | zero => exact absurd HA.out (by simp [spec_l04Call.l0])
 | succ k1 => ?_
 have H := HA.out
 clear HA
 simp only [spec_l04Call.l0] at H
 by_cases c17 : x4_1 < 3
 rotate_left
 ·rw [if_neg c17] at H
  have c17b0 := decide_eq_false c17
  clear c17
  simp only [Option.some.injEq, Prod.mk.injEq] at H
  obtain ⟨rfl, rfl, rfl, rfl, rfl⟩ := H
  have hnb32 := NB267_254.out
  have hnc32 := NB254_267.out
  have hnb33 := NB267_0.out
  have hnc33 := NB0_267.out
  obtain ⟨hcz34_0, hcz34_1, hcz34_2, hfz34_0, hfz34_1, hfz34_2⟩ := cf3_ BK267.out
  have hnb35 := NB254_0.out
  have hnc35 := NB0_254.out
  obtain ⟨hcz36_0, hcz36_1, hcz36_2, hfz36_0, hfz36_1, hfz36_2⟩ := cf3_ BK254.out
  obtain ⟨Ao37, co37, eo37⟩ := Kd.R_slice HO_268002.out
  subst eo37
  go_wp2
  refine bodyPost_ret (results_cell_row rfl _ _ gb254 47 #[.int .i64 t258, .int .i64 t264, .slice Ao37 x268002_1.length co37] (0, 0) _ rfl (bp0_ BK254.out) Try.underlying47 rfl (by kernel_rfl)) rfl ?_
  exact ⟨_, er_, by (with_reducible repeat (first | apply Kd.R_alloc | apply Kd.R_drewN | apply Kd.R_drew)); exact Kd.R_mono (Kd.R_far (p := ⟨gb254, 2, none⟩) (Kd.R_far (p := ⟨gb254, 1, none⟩) (Kd.R_far (p := ⟨gb254, 0, none⟩) (Kd.R_types HO_268002.out BK254.out (by decide)) (fun _ hk => hk.2) (.int .i64 t258)) (fun _ hk => hk.2) (.int .i64 t264)) (fun _ hk => hk.2) (.slice Ao37 x268002_1.length co37)) (fun _ hk => trivial), is0_, bi0_, hkx_⟩
 rw [if_pos c17] at H
 have c17b0 := decide_eq_true c17
 clear c17
 replace H := bs_ H
 obtain ⟨⟨t268, t269, t270, t271⟩, A18, H⟩ := H
 try dsimp only at H
 by_cases c19 : x268002_1.length < 8796093022208
 rotate_left
 ·exact nn_ c19 H
 rw [if_pos c19] at H
 have LMc19 := Aside0.mk c19
 clear c19
 obtain ⟨y273, hy273⟩ : ∃ y_ : List (S98), y_ = (x268002_1 ++ [(⟨t268, t269⟩ : S98)]) := ⟨_, rfl⟩
 replace H : (spec_l04Call.l0 k1 (wrap64 (x4_1 + 1)) s0_0 t270 t271 t258 t264 y273) = some (r1, r2, r3, r4, r5) := rp_ H hy273
 have Ny273 := Aside0.mk hy273
 clear hy273
 have H' := Aside0.mk H
 clear H
 go_wp2_with (first | ((with_reducible refine gate_callee (f := 105) rfl ?_); refine gs_ (some 18) Try.func105 #[.pointer (some ⟨g, 0, none⟩)] ?_; (with_reducible refine (spec_l04Wide.calls g s0_0 x1001_1 x1002_1 t268 t269 t270 t271 w0 _ ?side1 ?side2 A18.out).mono ?_); (case side1 => exact is0_); (case side2 => exact bi0_); rintro e w20 ⟨rfl, hi, hb, hk⟩; refine ⟨_, rfl, ?_⟩; replace HO_268002 := Aside0.mk (Kd.R_mono (Kd.R_keep (IsS118.apart (show IsS118 w0 _ g s0_0 x1001_1 x1002_1 from is0_) (ra_ HO_268002.out) (by decide)) hk (fun _ h => h.2)) (fun _ h => h.1)); replace BK254 := Aside0.mk (KeepBut.blk hk (g' := gb254) (o := .cells #[.int .i64 0, .int .i64 0, .slice none 0 0] 47 (0, 0)) (bk_ BK254.out) NB254_0.out (by simp)); replace BK267 := Aside0.mk (KeepBut.blk hk (g' := gb267) (o := .cells #[.int .i64 t258, .int .i64 t264, u268002] 47 (0, 0)) (bk_ BK267.out) NB267_0.out (by simp)); replace HK := Aside0.mk (KeepBut.trans (by repeat (first | (with_reducible first | exact HK.out | apply KeepBut.set_ | apply keep_drewN | apply keep_drew | apply keep_alloc | refine keep_far ?_ GW254.out _ | refine keep_far ?_ GW267.out _) | exact HK.out)) hk (.inl rfl)); replace HB := Aside0.mk (hb); replace HI0 := Aside0.mk (hi); (try clear hb); (try clear hk); (try clear hi)) | ((with_reducible refine gate_dst (N := 5) rfl ?_); refine bx_ 5 98 #[.int .i64 0, .int .i64 0] ?_; intro gb272 hg w21 hbox hb; replace HO_268002 := Aside0.mk (Kd.R_below (Kd.R_elderB (ra_ HO_268002.out) gb272 (Nat.le_of_eq hg.symm)) hb); replace HB := Aside0.mk (below_step bi0_ hb); have BK272 := Aside0.mk (hbox); have GW272 := Aside0.mk ((by rw [hg]; exact (keep_size (w := w) (g := g) (row := none) hkx_) : w.heap.size ≤ gb272)); have GE272 := Aside0.mk ((Nat.le_trans HW0.out (by rw [hg]; exact (keep_size (w := w) (g := g) (row := none) hkx_) : w.heap.size ≤ gb272) : w0.heap.size ≤ gb272)); replace HK := Aside0.mk (KeepBut.trans (by repeat (first | (with_reducible first | exact HK.out | apply KeepBut.set_ | apply keep_drewN | apply keep_drew | apply keep_alloc | refine keep_far ?_ GW254.out _ | refine keep_far ?_ GW267.out _) | exact HK.out)) (KeepBut.of_below hb g none) (.inl rfl)); have NB254_272 := Aside0.mk ((by rw [hg]; exact Nat.ne_of_lt (blk_lt (g := gb254) (o := .cells #[.int .i64 0, .int .i64 0, .slice none 0 0] 47 (0, 0)) (bk_ BK254.out)) : gb254 ≠ gb272)); have NB272_254 := Aside0.mk ((by rw [hg]; exact Nat.ne_of_gt (blk_lt (g := gb254) (o := .cells #[.int .i64 0, .int .i64 0, .slice none 0 0] 47 (0, 0)) (bk_ BK254.out)) : gb272 ≠ gb254)); replace BK254 := Aside0.mk (blk_below (bn0_ BK254.out) hb); have NB267_272 := Aside0.mk ((by rw [hg]; exact Nat.ne_of_lt (blk_lt (g := gb267) (o := .cells #[.int .i64 t258, .int .i64 t264, u268002] 47 (0, 0)) (bk_ BK267.out)) : gb267 ≠ gb272)); have NB272_267 := Aside0.mk ((by rw [hg]; exact Nat.ne_of_gt (blk_lt (g := gb267) (o := .cells #[.int .i64 t258, .int .i64 t264, u268002] 47 (0, 0)) (bk_ BK267.out)) : gb272 ≠ gb267)); replace BK267 := Aside0.mk (blk_below (bn0_ BK267.out) hb); have NB0_272 := Aside0.mk ((by rw [hg]; exact Nat.ne_of_lt (IsS118.lt (show IsS118 w0 _ g s0_0 t270 t271 from is0_)) : g ≠ gb272)); have NB272_0 := Aside0.mk ((by rw [hg]; exact Nat.ne_of_gt (IsS118.lt (show IsS118 w0 _ g s0_0 t270 t271 from is0_)) : gb272 ≠ g)); replace HI0 := Aside0.mk (IsS118.below is0_ hb); clear hb hbox hg; have hnb22 := NB272_254.out; have hnc22 := NB254_272.out; have hnb23 := NB272_267.out; have hnc23 := NB267_272.out; have hnb24 := NB272_0.out; have hnc24 := NB0_272.out; obtain ⟨hcz25_0, hcz25_1, hfz25_0, hfz25_1⟩ := cf2_ BK272.out; have hnb26 := NB267_254.out; have hnc26 := NB254_267.out; have hnb27 := NB267_0.out; have hnc27 := NB0_267.out; obtain ⟨hcz28_0, hcz28_1, hcz28_2, hfz28_0, hfz28_1, hfz28_2⟩ := cf3_ BK267.out) | ((with_reducible refine gate_builtin (b := .append) (xs := #[.tmp 20, .tmp 22]) rfl ?_); at_builtin; refine Kd.R_append k98 w.heap.size rfl (.tmp 20) (.tmp 22) 45 98 (.agg #[(.int .i64 0), (.int .i64 0)]) 16 rfl Try.underlying45 info98 rfl (by decide) (by omega) u268002 x268002_1 (⟨t268, t269⟩ : S98) [.int .i64 t268, .int .i64 t269] (fun k_ => k_ ≠ gb272) (fun _ => False) rfl (by first | (go_simp; done) | (go_simp; rfl)) ?aP (fun _ hk => hk.elim) ?aF ?aO (Below.refl _ _) ?aS ?aL ?_; (case aP => exact k98_mkM _ _ _ (⟨t268, t269⟩ : S98)); (case aF => exact (fun k_ hk => Kd.freshB (g := gb272) (o := .cells #[.int .i64 t268, .int .i64 t269] 98 (0, 0)) (bp0_ BK272.out) k_ hk)); (case aO => exact (by (with_reducible repeat (first | apply Kd.R_alloc | apply Kd.R_drewN | apply Kd.R_drew)); exact Kd.R_mono (Kd.R_far (p := ⟨gb272, 1, none⟩) (Kd.R_far (p := ⟨gb272, 0, none⟩) (Kd.R_mono HO_268002.out (fun k_ hk => (⟨hk, hk.2⟩ : _ ∧ k_ ≠ gb272))) (fun _ hk => hk.2) (.int .i64 t268)) (fun _ hk => hk.2) (.int .i64 t269)) (fun _ hk => hk.1.2))); (case aS => exact (keep_size (w := w) (g := g) (row := none) hkx_)); (case aL => have := LMc19.out; omega); intro v274 w29 ho hb hg hat; rw [← Ny273.out] at ho; replace BK254 := Aside0.mk (blk_grown (g := gb254) (o := .cells #[.int .i64 0, .int .i64 0, .slice none 0 0] 47 (0, 0)) (bp1_ BK254.out NB254_272.out) hg (Kd.R_ne HO_268002.out BK254.out (by decide))); replace BK267 := Aside0.mk (blk_grown (g := gb267) (o := .cells #[.int .i64 t258, .int .i64 t264, u268002] 47 (0, 0)) (bp1_ BK267.out NB267_272.out) hg (Kd.R_ne HO_268002.out BK267.out (by decide))); replace BK272 := Aside0.mk (blk_grown (g := gb272) (o := .cells #[.int .i64 t268, .int .i64 t269] 98 (0, 0)) (bp0_ BK272.out) hg (Kd.R_away HO_268002.out (fun _ hk => hk.2))); replace HB := Aside0.mk (below_weaken bi0_ HL.out hb); replace HI0 := Aside0.mk (IsS118.grown (show IsS118 w0 _ g s0_0 t270 t271 from is0_) hg (IsS118.own_ne HI0.out HO_268002.out (by decide))); replace HK := Aside0.mk (KeepBut.trans (by repeat (first | (with_reducible first | exact HK.out | apply KeepBut.set_ | apply keep_drewN | apply keep_drew | apply keep_alloc | refine keep_far ?_ GW254.out _ | refine keep_far ?_ GW267.out _ | refine keep_far ?_ GW272.out _) | exact HK.out)) (KeepBut.of_grown hg g) (Kd.R_base2 HO_268002.out)); have HO275 := Aside0.mk (ho); clear HO_268002; clear ho hb hg hat; obtain ⟨Ao30, co30, eo30⟩ := Kd.R_slice HO275.out; subst eo30; obtain ⟨hcz31_0, hcz31_1, hcz31_2, hfz31_0, hfz31_1, hfz31_2⟩ := cf3_ BK267.out))
 go_roundg k1
 case measure => have := HK1.out; omega
 case rel => exact ⟨(wrap64 (x4_1 + 1)), (t270), (t271), (y273), (.slice Ao30 y273.length co30), (sr_), H', ⟨by have := HK1.out; omega⟩, ⟨by (with_reducible repeat (first | apply Kd.R_alloc | apply Kd.R_drewN | apply Kd.R_drew)); exact Kd.R_mono (Kd.R_far (p := ⟨gb267, 2, none⟩) (Kd.R_types HO275.out BK267.out (by decide)) (fun _ hk => hk.2) (.slice Ao30 y273.length co30)) (fun _ hk => trivial)⟩, ⟨bp1_ BK254.out NB254_267.out⟩, ⟨bp0_ BK267.out⟩, ⟨is0_⟩, ⟨hkx_⟩, ⟨bi0_⟩⟩

end Go.Proofs.Ytjfmpodeenidnaa.PC
