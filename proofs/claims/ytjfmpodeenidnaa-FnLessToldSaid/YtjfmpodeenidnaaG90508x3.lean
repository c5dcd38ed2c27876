/- Contracts of functions of the program and of the reference, and plain lemmas on what they compute. No condition. -/
import Derived.Test.YtjfmpodeenidnaaG90508x0
import Derived.Test.YtjfmpodeenidnaaG90508x1
import Derived.Test.YtjfmpodeenidnaaG90508x2
import Derived.Test.YtjfmpodeenidnaaShortV
set_option maxHeartbeats 8000000
set_option maxRecDepth 100000
namespace Go.Proofs.Ytjfmpodeenidnaa.PC
open Go.RowKit Go.Proofs.Ytjfmpodeenidnaa.Short Go.Proofs.YtjfmpodeenidnaaW.PrintWords Go.Proofs.YtjfmpodeenidnaaW.PrintLast Go.Proofs.YtjfmpodeenidnaaW.PrintMore
attribute [local go_sem] max2_int min2_int max_two min_two max_three min_three max_four min_four   -- for this text's walks alone
set_option linter.unusedVariables false
set_option linter.unusedSimpArgs false

mutual
def spec_l09Policy.j0 : Nat → List Int → Int → Int → Int → Int → Int → Option (Int × Int × Int × (List (S53)) × Int × Int)
 | 0, _, _, _, _, _, _ => none
 | k + 1, x1000, x1001, x1002, x340000, x340001, x340002 => spec_l09Policy.l0 k 0 x1000 x1001 x1002 x340000 x340001 x340002 ([] : List (S53))
def spec_l09Policy.l0 : Nat → Int → List Int → Int → Int → Int → Int → Int → List (S53) → Option (Int × Int × Int × (List (S53)) × Int × Int)
 | 0, _, _, _, _, _, _, _, _ => none
 | k + 1, x4, x1000, x1001, x1002, x340000, x340001, x340002, x340003 => (spec_l01Below.f x1000 x1001 x1002 5).bind fun bt340 => (if x4 < bt340.1 then ((spec_l09Made.f k x1000 bt340.2.1 bt340.2.2).bind fun bt343 => (if x340003.length < 2199023255552 then (spec_l09Policy.l0 k (wrap64 (x4 + 1)) x1000 bt343.2.2.2.2.1 bt343.2.2.2.2.2 x340000 x340001 x340002 (x340003 ++ [(⟨bt343.1, bt343.2.1, bt343.2.2.1, bt343.2.2.2.1⟩ : S53)])) else (none))) else (some (x340000, x340001, x340002, x340003, bt340.2.1, bt340.2.2)))
end
def spec_l09Policy.f (k : Nat) (s0_0 : List Int) (s0_1 : Int) (s0_2 : Int) : Option (Int × Int × Int × (List (S53)) × Int × Int) := (spec_l01PickInt.f s0_0 s0_1 s0_2 (([5, 4, 0, 2] : List Int))).bind fun bt336 => (if bt336.1 = 2 then (spec_l09Policy.j0 k s0_0 bt336.2.1 bt336.2.2 62 bt336.1 1) else (spec_l09Policy.j0 k s0_0 bt336.2.1 bt336.2.2 62 bt336.1 0))
theorem spec_l09Policy.mono_l : ∀ k, (∀ y0 y1 y2 y3 y4 y5, LeO (spec_l09Policy.j0 k y0 y1 y2 y3 y4 y5) (spec_l09Policy.j0 (k + 1) y0 y1 y2 y3 y4 y5)) ∧ (∀ y0 y1 y2 y3 y4 y5 y6 y7, LeO (spec_l09Policy.l0 k y0 y1 y2 y3 y4 y5 y6 y7) (spec_l09Policy.l0 (k + 1) y0 y1 y2 y3 y4 y5 y6 y7))
 | 0 => ⟨fun _ _ _ _ _ _ r h => by simp [spec_l09Policy.j0] at h, fun _ _ _ _ _ _ _ _ r h => by simp [spec_l09Policy.l0] at h⟩
 | k + 1 => by
  obtain ⟨ih0, ih1⟩ := spec_l09Policy.mono_l k
  refine ⟨?_, ?_⟩
  ·intro y0 y1 y2 y3 y4 y5
   unfold spec_l09Policy.j0
   have m0 := @spec_l09Made.mono
   exact mo_
  ·intro y0 y1 y2 y3 y4 y5 y6 y7
   unfold spec_l09Policy.l0
   have m0 := @spec_l09Made.mono
   exact mo_
theorem spec_l09Policy.mono : ∀ a0 a1 a2 k, LeO (spec_l09Policy.f k a0 a1 a2) (spec_l09Policy.f (k + 1) a0 a1 a2) := by
 intro a0 a1 a2 k
 obtain ⟨ih0, ih1⟩ := spec_l09Policy.mono_l k
 unfold spec_l09Policy.f
 have m0 := @spec_l09Made.mono
 exact mo_
def spec_l09Policy.T7 : Bool × List (List Nat × List Nat) := (true, [([], []), ([0], [0]), ([], []), ([2], [2]), ([3], [3]), ([1, 4, 3], [1, 4]), ([0, 1, 2, 3, 4, 5], []), ([6, 5, 5, 0, 1, 2, 3, 4, 5], [5, 6])])
def spec_l09Policy.B7 : List Nat := [0, 1, 0, 4, 12, 31, 63, 127]
theorem spec_l09Policy.tab7 : rtab .any (opsOf Try.f64 7) = spec_l09Policy.T7 := by kernel_rfl
theorem spec_l09Policy.bits7 : waitsOk spec_l09Policy.T7.2 spec_l09Policy.B7 = true := by kernel_rfl
theorem spec_l09Policy.calls (k : Nat) (g : Nat) (s0_0 : List Int) (s0_1 : Int) (s0_2 : Int) (r1 : Int) (r2 : Int) (r3 : Int) (r4 : List (S53)) (r5 : Int) (r6 : Int) (w0 w : World) (hI : IsS118 w0 w g s0_0 s0_1 s0_2) (hB : Below w0.heap.size w0 w) (h : spec_l09Policy.f k s0_0 s0_1 s0_2 = some (r1, r2, r3, r4, r5, r6)) :
 Calls Try.prog 64 #[.pointer (some ⟨g, 0, none⟩)] w fun e w' => ∃ v3_ : Value, e = .returned (.agg #[.int .i64 r1, .int .i64 r2, .int .i64 r3, v3_]) ∧ Kd.S k53 53 w' w.heap.size (fun _ => True) v3_ r4 ∧ IsS118 w0 w' g s0_0 r5 r6 ∧ Below w0.heap.size w0 w' ∧ KeepBut w w' g none := by
 have hu36 := Try.underlying36
 have HI0 := Aside0.mk hI
 have HK := Aside0.mk (KeepBut.refl w g none)
 have HL := Aside0.mk hB.size
 clear hI
 have HW0 := Aside0.mk hB.size
 have HB := Aside0.mk hB
 clear hB
 have H := h
 unfold spec_l09Policy.f at H
 clear h
 obtain ⟨y333, hy333⟩ : ∃ y_ : List Int, y_ = (([5, 4, 0, 2] : List Int)) := ⟨_, rfl⟩
 replace H : ((spec_l01PickInt.f s0_0 s0_1 s0_2 y333).bind fun bt336 => (if bt336.1 = 2 then (spec_l09Policy.j0 k s0_0 bt336.2.1 bt336.2.2 62 bt336.1 1) else (spec_l09Policy.j0 k s0_0 bt336.2.1 bt336.2.2 62 bt336.1 0))) = some (r1, r2, r3, r4, r5, r6) := rp_ H hy333
 have Ny333 := Aside0.mk hy333
 clear hy333
 replace H := bs_ H
 obtain ⟨⟨t336, t337, t338⟩, A2, H⟩ := H
 try dsimp only at H
 have HC3 := Aside0.mk H
 clear H
 go_enter Try.func64, Try.ntmps64
 go_upto_if 11 with (first | ((with_reducible refine gate_dst (N := 2) rfl ?_); refine bx_ 2 36 #[.int .i64 0, .int .i64 0, .int .i64 0, .slice none 0 0] ?_; intro gb332 hg w4 hbox hb; replace HB := Aside0.mk (below_step bi0_ hb); have BK332 := Aside0.mk (hbox); have GW332 := Aside0.mk ((by rw [hg]; exact (keep_size (w := w) (g := g) (row := none) hkx_) : w.heap.size ≤ gb332)); have GE332 := Aside0.mk ((Nat.le_trans HW0.out (by rw [hg]; exact (keep_size (w := w) (g := g) (row := none) hkx_) : w.heap.size ≤ gb332) : w0.heap.size ≤ gb332)); replace HK := Aside0.mk (KeepBut.trans hkx_ (KeepBut.of_below hb g none) (.inl rfl)); have NB0_332 := Aside0.mk (il_ hg (IsS118.lt (show IsS118 w0 _ g s0_0 s0_1 s0_2 from is0_))); have NB332_0 := Aside0.mk (ig_ hg (IsS118.lt (show IsS118 w0 _ g s0_0 s0_1 s0_2 from is0_))); replace HI0 := Aside0.mk (IsS118.below is0_ hb); clear hb hbox hg) | ((with_reducible refine gate_dst (N := 6) rfl ?_); refine Kd.R_lit (Kd.int .i64) _ 3 ?hg (N := 6) ?hd (xs := ([5, 4, 0, 2] : List Int)) (inner := [.int .i64 5, .int .i64 4, .int .i64 0, .int .i64 2]) (ok := fun _ => True) (okp := fun _ => True) ?hr ?hp (fun _ hk => hk) trivial (Below.refl _ _) (Nat.le_refl _) (by simp) ?_; (case hd => rfl); (case hg => rfl); (case hr => first | (go_simp; done) | (go_simp; rfl)); (case hp => exact (Reps.one (show Kd.M (Kd.int .i64) _ _ _ 5 [.int .i64 5] from rfl) (Reps.one (show Kd.M (Kd.int .i64) _ _ _ 4 [.int .i64 4] from rfl) (Reps.one (show Kd.M (Kd.int .i64) _ _ _ 0 [.int .i64 0] from rfl) (Reps.one (show Kd.M (Kd.int .i64) _ _ _ 2 [.int .i64 2] from rfl) (Reps.none _ _)))))); intro v334 w5 ho6 hb hg_ hnew_; clear hg_ hnew_; (first | rw [← Ny333.out] at ho6 | (simp only [Int.reduceToNat] at ho6; rw [← Ny333.out] at ho6)); have HO335 := Aside0.mk (Kd.R_lower ho6 (keep_size (w := w) (g := g) (row := none) hkx_)); replace BK332 := bb0_ BK332.out hb; replace HK := Aside0.mk (KeepBut.trans (by repeat (first | (with_reducible first | exact HK.out | apply KeepBut.set_ | apply keep_drewN | apply keep_drew | apply keep_alloc | refine keep_far ?_ GW332.out _) | exact HK.out)) (KeepBut.of_below hb g none) (.inl rfl)); replace HB := Aside0.mk (below_step bi0_ hb); replace HI0 := Aside0.mk (IsS118.below is0_ hb); clear hb ho6; obtain ⟨Ao7, co7, eo7⟩ := Kd.R_slice HO335.out; subst eo7) | ((with_reducible refine gate_callee (f := 104) rfl ?_); refine gs_ (some 7) Try.func104 #[.pointer (some ⟨g, 0, none⟩), .slice Ao7 y333.length co7] ?_; (with_reducible refine (spec_l01PickInt.calls g s0_0 s0_1 s0_2 _ _ y333 t336 t337 t338 w0 _ ?side1 ?side2 ?side3 ?side4 ?side5 A2.out).mono ?_); (case side1 => exact is0_); (case side2 => exact bi0_); (case side3 => exact cs_ ((Kd.R_reads' HO335.out).2.2)); (case side4 => exact (Kd.R_reads' HO335.out).2.1); (case side5 => exact far_slice (IsS118.own_ne HI0.out HO335.out (by decide))); rintro e w8 ⟨rfl, hi, hb, hk⟩; refine ⟨_, rfl, ?_⟩; replace BK332 := Aside0.mk (KeepBut.blk hk (g' := gb332) (o := .cells #[.int .i64 0, .int .i64 0, .int .i64 0, .slice none 0 0] 36 (0, 0)) (bk_ BK332.out) NB332_0.out (by simp)); replace HO335 := Aside0.mk (Kd.R_mono (Kd.R_keep (IsS118.apart (show IsS118 w0 _ g s0_0 s0_1 s0_2 from is0_) (ra_ HO335.out) (by decide)) hk (fun _ h => h.2)) (fun _ h => h.1)); replace HK := Aside0.mk (KeepBut.trans (by repeat (first | (with_reducible first | exact HK.out | apply KeepBut.set_ | apply keep_drewN | apply keep_drew | apply keep_alloc | refine keep_far ?_ GW332.out _) | exact HK.out)) hk (.inl rfl)); replace HB := Aside0.mk (hb); replace HI0 := Aside0.mk (hi); (try clear hb); (try clear hk); (try clear hi)) | ((with_reducible refine gate_dst (N := 3) rfl ?_); refine bx_ 3 36 #[.int .i64 0, .int .i64 0, .int .i64 0, .slice none 0 0] ?_; intro gb339 hg w9 hbox hb; replace HO335 := Aside0.mk (Kd.R_below (ra_ HO335.out) hb); replace HB := Aside0.mk (below_step bi0_ hb); have BK339 := Aside0.mk (hbox); have GW339 := Aside0.mk ((by rw [hg]; exact (keep_size (w := w) (g := g) (row := none) hkx_) : w.heap.size ≤ gb339)); have GE339 := Aside0.mk ((Nat.le_trans HW0.out (by rw [hg]; exact (keep_size (w := w) (g := g) (row := none) hkx_) : w.heap.size ≤ gb339) : w0.heap.size ≤ gb339)); replace HK := Aside0.mk (KeepBut.trans (by repeat (first | (with_reducible first | exact HK.out | apply KeepBut.set_ | apply keep_drewN | apply keep_drew | apply keep_alloc | refine keep_far ?_ GW332.out _) | exact HK.out)) (KeepBut.of_below hb g none) (.inl rfl)); have NB332_339 := Aside0.mk (nl_ BK332.out hg); have NB339_332 := Aside0.mk (ng_ BK332.out hg); replace BK332 := bb0_ BK332.out hb; have NB0_339 := Aside0.mk (il_ hg (IsS118.lt (show IsS118 w0 _ g s0_0 t337 t338 from is0_))); have NB339_0 := Aside0.mk (ig_ hg (IsS118.lt (show IsS118 w0 _ g s0_0 t337 t338 from is0_))); replace HI0 := Aside0.mk (IsS118.below is0_ hb); clear hb hbox hg; have hnb10 := NB339_332.out; have hnc10 := NB332_339.out; have hnb11 := NB339_0.out; have hnc11 := NB0_339.out; obtain ⟨hcz12_0, hcz12_1, hcz12_2, hcz12_3, hfz12_0, hfz12_1, hfz12_2, hfz12_3⟩ := cf4_ BK339.out))
 (try simp only [Act.put, List.setIfInBounds_toArray, List.set_cons_zero, List.set_cons_succ])
 go_cut [] (fun wc => ∃ (kq : Nat) (x340002_2 : Int), Aside0 (spec_l09Policy.j0 kq s0_0 t337 t338 62 t336 x340002_2 = some (r1, r2, r3, r4, r5, r6)) ∧ Aside0 (kq ≤ k) ∧ Aside0 (wc.heap[gb332]? = some (.cells #[.int .i64 0, .int .i64 0, .int .i64 0, (.slice none 0 0)] 36 (0, 0))) ∧ Aside0 (wc.heap[gb339]? = some (.cells #[.int .i64 62, .int .i64 t336, .int .i64 x340002_2, (.slice none 0 0)] 36 (0, 0))) ∧ Aside0 (IsS118 w0 wc g s0_0 t337 t338) ∧ Aside0 (KeepBut w wc g none) ∧ Aside0 (Below w0.heap.size w0 wc))
 case first =>
  have H := HC3.out
  clear HC3
  by_cases c13 : t336 = 2
  rotate_left
  ·rw [if_neg c13] at H
   have c13b0 : (t336 == 2) = false := beq_eq_false_iff_ne.mpr c13
   have c13b1 : (t336 != 2) = true := bne_iff_ne.mpr c13
   (first | rw [c13b0] | (simp only [i64_w, i32_w]; rw [c13b0]) | skip)
   have H' := Aside0.mk H
   clear H
   go_wp2
   go_meet
   case rel => exact ⟨_, (0), H', ⟨by first | omega | exact Nat.le_refl _⟩, ⟨bp1_ BK332.out NB332_339.out⟩, ⟨bp0_ BK339.out⟩, ⟨is0_⟩, ⟨hkx_⟩, ⟨bi0_⟩⟩
  rw [if_pos c13] at H
  have c13b0 : (t336 == 2) = true := beq_iff_eq.mpr c13
  have c13b1 : (t336 != 2) = false := bne_eq_false_iff_eq.mpr c13
  clear c13
  (first | rw [c13b0] | (simp only [i64_w, i32_w]; rw [c13b0]) | skip)
  have H' := Aside0.mk H
  clear H
  have hnb14 := NB339_332.out
  have hnc14 := NB332_339.out
  have hnb15 := NB339_0.out
  have hnc15 := NB0_339.out
  obtain ⟨hcz16_0, hcz16_1, hcz16_2, hcz16_3, hfz16_0, hfz16_1, hfz16_2, hfz16_3⟩ := cf4_ BK339.out
  go_wp2
  go_meet
  case rel => exact ⟨_, (1), H', ⟨by first | omega | exact Nat.le_refl _⟩, ⟨bp1_ BK332.out NB332_339.out⟩, ⟨bp0_ BK339.out⟩, ⟨is0_⟩, ⟨hkx_⟩, ⟨bi0_⟩⟩
 clear HC3
 try clear hcz12_0
 try clear hcz12_1
 try clear hcz12_2
 try clear hcz12_3
 try clear hfz12_0
 try clear hfz12_1
 try clear hfz12_2
 try clear hfz12_3
 obtain ⟨kq, x340002_2, HA, HJ2, BK332, BK339, HI0, HK, HB⟩ := hcut
 cases kq with
 | zero => exact absurd HA.out (by simp [spec_l09Policy.j0])
 | succ kj2 => ?_
 have H := HA.out
 clear HA
 simp only [spec_l09Policy.j0] at H
 have H' := Aside0.mk H
 clear H
 go_wp2
 go_loopg [4] kj2 (fun kq v4 w' => ∃ (x4_2 : Int) (x1001_2 : Int) (x1002_2 : Int) (x340003_2 : List (S53)) (u340003 : Value), v4 = .int .i64 x4_2 ∧ Aside0 (spec_l09Policy.l0 kq x4_2 s0_0 x1001_2 x1002_2 62 t336 x340002_2 x340003_2 = some (r1, r2, r3, r4, r5, r6)) ∧ Aside0 (kq ≤ kj2) ∧ Aside0 (Kd.S k53 53 w' w.heap.size (fun _ => True) u340003 x340003_2) ∧ Aside0 (w'.heap[gb332]? = some (.cells #[.int .i64 0, .int .i64 0, .int .i64 0, (.slice none 0 0)] 36 (0, 0))) ∧ Aside0 (w'.heap[gb339]? = some (.cells #[.int .i64 62, .int .i64 t336, .int .i64 x340002_2, u340003] 36 (0, 0))) ∧ Aside0 (IsS118 w0 w' g s0_0 x1001_2 x1002_2) ∧ Aside0 (KeepBut w w' g none) ∧ Aside0 (Below w0.heap.size w0 w'))
 case atStart => exact ⟨(0), (t337), (t338), (([] : List (S53))), (.slice none 0 0), (sr_), H', ⟨Nat.le_refl _⟩, ⟨by first | exact Kd.S_nil _ _ _ _ _ | exact Kd.N_nil _ _ _ _ _ | exact Kd.V_nil _ _ _ _ _ | exact Kd.Q_nil _ _ _ _ _ | exact Kd.R_nil _ _ _ _ _⟩, ⟨bk_ BK332.out⟩, ⟨bk_ BK339.out⟩, ⟨is0_⟩, ⟨hkx_⟩, ⟨bi0_⟩⟩
 clear H'
 try clear hcz12_0
 try clear hcz12_1
 try clear hcz12_2
 try clear hcz12_3
 try clear hfz12_0
 try clear hfz12_1
 try clear hfz12_2
 try clear hfz12_3
 obtain ⟨x4_2, x1001_2, x1002_2, x340003_2, u340003, rfl, HA, HK2, HO_340003, BK332, BK339, HI0, HK, HB⟩ := hrel
 cases gk with
 | zero => exact absurd HA.out (by simp [spec_l09Policy.l0])
 | succ k2 => ?_
 have H := HA.out
 clear HA
 simp only [spec_l09Policy.l0] at H
 replace H := bs_ H
 obtain ⟨⟨t340, t341, t342⟩, A17, H⟩ := H
 try dsimp only at H
 by_cases c18 : x4_2 < t340
 rotate_left
 ·rw [if_neg c18] at H
  have c18b0 := decide_eq_false c18
  clear c18
  simp only [Option.some.injEq, Prod.mk.injEq] at H
  obtain ⟨rfl, rfl, rfl, rfl, rfl, rfl⟩ := H
  go_wp2_with (first | ((with_reducible refine gate_callee (f := 62) rfl ?_); refine gs_ (some 15) Try.func62 #[.pointer (some ⟨g, 0, none⟩), .int .i64 5] ?_; (with_reducible refine (spec_l01Below.calls g s0_0 x1001_2 x1002_2 5 t340 t341 t342 w0 _ ?side1 ?side2 A17.out).mono ?_); (case side1 => exact is0_); (case side2 => exact bi0_); rintro e w29 ⟨rfl, hi, hb, hk⟩; refine ⟨_, rfl, ?_⟩; replace HO_340003 := Aside0.mk (Kd.S_mono (Kd.S_keep (IsS118.apartS (show IsS118 w0 _ g s0_0 x1001_2 x1002_2 from is0_) (by (with_reducible repeat (first | apply Kd.S_alloc | apply Kd.S_drewN | apply Kd.S_drew)); exact HO_340003.out) (by decide)) hk (fun _ h => h.2)) (fun _ h => h.1)); replace BK332 := Aside0.mk (KeepBut.blk hk (g' := gb332) (o := .cells #[.int .i64 0, .int .i64 0, .int .i64 0, .slice none 0 0] 36 (0, 0)) (bk_ BK332.out) NB332_0.out (by simp)); replace BK339 := Aside0.mk (KeepBut.blk hk (g' := gb339) (o := .cells #[.int .i64 62, .int .i64 t336, .int .i64 x340002_2, u340003] 36 (0, 0)) (bk_ BK339.out) NB339_0.out (by simp)); replace HK := Aside0.mk (KeepBut.trans (by repeat (first | (with_reducible first | exact HK.out | apply KeepBut.set_ | apply keep_drewN | apply keep_drew | apply keep_alloc | refine keep_far ?_ GW332.out _ | refine keep_far ?_ GW339.out _) | exact HK.out)) hk (.inl rfl)); replace HB := Aside0.mk (hb); replace HI0 := Aside0.mk (hi); (try clear hb); (try clear hk); (try clear hi); have hnb30 := NB339_332.out; have hnc30 := NB332_339.out; have hnb31 := NB339_0.out; have hnc31 := NB0_339.out; obtain ⟨hcz32_0, hcz32_1, hcz32_2, hcz32_3, hfz32_0, hfz32_1, hfz32_2, hfz32_3⟩ := cf4_ BK339.out; have hnb33 := NB332_0.out; have hnc33 := NB0_332.out; obtain ⟨hcz34_0, hcz34_1, hcz34_2, hcz34_3, hfz34_0, hfz34_1, hfz34_2, hfz34_3⟩ := cf4_ BK332.out; obtain ⟨Ao35, co35, eo35⟩ := Kd.S_slice HO_340003.out; subst eo35))
  refine bodyPost_ret (results_cell_row rfl _ _ gb332 36 #[.int .i64 62, .int .i64 t336, .int .i64 x340002_2, .slice Ao35 x340003_2.length co35] (0, 0) _ rfl (bp0_ BK332.out) Try.underlying36 rfl (by kernel_rfl)) rfl ?_
  exact ⟨_, er_, by (with_reducible repeat (first | apply Kd.S_alloc | apply Kd.S_drewN | apply Kd.S_drew)); exact Kd.S_mono (Kd.S_far (p := ⟨gb332, 3, none⟩) (Kd.S_far (p := ⟨gb332, 2, none⟩) (Kd.S_far (p := ⟨gb332, 1, none⟩) (Kd.S_far (p := ⟨gb332, 0, none⟩) (Kd.S_types HO_340003.out BK332.out (by decide)) (fun _ hk => hk.2) (.int .i64 62)) (fun _ hk => hk.2) (.int .i64 t336)) (fun _ hk => hk.2) (.int .i64 x340002_2)) (fun _ hk => hk.2) (.slice Ao35 x340003_2.length co35)) (fun _ hk => trivial), is0_, bi0_, hkx_⟩
 rw [if_pos c18] at H
 have c18b0 := decide_eq_true c18
 clear c18
 replace H := bs_ H
 obtain ⟨⟨t343, t346, t349, t350, t351, t352⟩, A19, H⟩ := H
 try dsimp only at H
 by_cases c20 : x340003_2.length < 2199023255552
 rotate_left
 ·exact nn_ c20 H
 rw [if_pos c20] at H
 have LMc20 := Aside0.mk c20
 clear c20
 obtain ⟨y353, hy353⟩ : ∃ y_ : List (S53), y_ = (x340003_2 ++ [(⟨t343, t346, t349, t350⟩ : S53)]) := ⟨_, rfl⟩
 replace H : (spec_l09Policy.l0 k2 (wrap64 (x4_2 + 1)) s0_0 t351 t352 62 t336 x340002_2 y353) = some (r1, r2, r3, r4, r5, r6) := rp_ H hy353
 have Ny353 := Aside0.mk hy353
 clear hy353
 have H' := Aside0.mk H
 clear H
 try go_wp2_with (first | ((with_reducible refine gate_callee (f := 62) rfl ?_); refine gs_ (some 15) Try.func62 #[.pointer (some ⟨g, 0, none⟩), .int .i64 5] ?_; (with_reducible refine (spec_l01Below.calls g s0_0 x1001_2 x1002_2 5 t340 t341 t342 w0 _ ?side1 ?side2 A17.out).mono ?_); (case side1 => exact is0_); (case side2 => exact bi0_); rintro e w21 ⟨rfl, hi, hb, hk⟩; refine ⟨_, rfl, ?_⟩; replace HO_340003 := Aside0.mk (Kd.S_mono (Kd.S_keep (IsS118.apartS (show IsS118 w0 _ g s0_0 x1001_2 x1002_2 from is0_) (by (with_reducible repeat (first | apply Kd.S_alloc | apply Kd.S_drewN | apply Kd.S_drew)); exact HO_340003.out) (by decide)) hk (fun _ h => h.2)) (fun _ h => h.1)); replace BK332 := Aside0.mk (KeepBut.blk hk (g' := gb332) (o := .cells #[.int .i64 0, .int .i64 0, .int .i64 0, .slice none 0 0] 36 (0, 0)) (bk_ BK332.out) NB332_0.out (by simp)); replace BK339 := Aside0.mk (KeepBut.blk hk (g' := gb339) (o := .cells #[.int .i64 62, .int .i64 t336, .int .i64 x340002_2, u340003] 36 (0, 0)) (bk_ BK339.out) NB339_0.out (by simp)); replace HK := Aside0.mk (KeepBut.trans (by repeat (first | (with_reducible first | exact HK.out | apply KeepBut.set_ | apply keep_drewN | apply keep_drew | apply keep_alloc | refine keep_far ?_ GW332.out _ | refine keep_far ?_ GW339.out _) | exact HK.out)) hk (.inl rfl)); replace HB := Aside0.mk (hb); replace HI0 := Aside0.mk (hi); (try clear hb); (try clear hk); (try clear hi)))
 have n0_ := Aside0.mk (Kd.S_drew HO_340003.out)
 have n1_ := Aside0.mk (blk_drew BK332.out)
 have n2_ := Aside0.mk (blk_drew BK339.out)
 have n3_ := Aside0.mk (IsS118.drew HI0.out)
 have n4_ := Aside0.mk (keep_drew HK.out)
 have n5_ := Aside0.mk (below_drew1 HB.out)
 clear HO_340003
 clear BK332
 clear BK339
 clear HI0
 clear HK
 clear HB
 have HO_340003 := n0_
 have BK332 := n1_
 have BK339 := n2_
 have HI0 := n3_
 have HK := n4_
 have HB := n5_
 clear n0_ n1_ n2_ n3_ n4_ n5_
 refine start_ (n := 8) (S := fun w' => w'.cell? ⟨gb339, 0, none⟩ = some (.int .i64 62) ∧ w'.cell? ⟨gb339, 1, none⟩ = some (.int .i64 t336) ∧ w'.cell? ⟨gb339, 2, none⟩ = some (.int .i64 x340002_2) ∧ w'.cell? ⟨gb339, 3, none⟩ = some (u340003)) (ds := [7]) #[false, false, false, false, false, false, false, false] (by kernel_rfl) rfl rfl ⟨(blk_cell BK339.out 0).trans rfl, (blk_cell BK339.out 1).trans rfl, (blk_cell BK339.out 2).trans rfl, (blk_cell BK339.out 3).trans rfl⟩ (fun hHeld => ?_); refine with_tabW spec_l09Policy.tab7 spec_l09Policy.bits7 (fun HT_ HW_ => ?_)
 generalize w21.drew = w22 at HO_340003 BK332 BK339 HI0 HK HB hHeld ⊢
 refine pu_ 0 19 HT_ ?_
 refine pu_ 2 21 HT_ ?_
 refine ta_ 1 20 HT_ HW_ hHeld ?_ (r := by rintro w' ⟨s0, s1, s2, s3⟩; go_simp; with_reducible rfl)
 refine on_ 3 22 HT_ (fun K hK => ?_)
 refine goes_ Try.func106 (by kernel_rfl) rfl #[.pointer (some ⟨g, 0, none⟩)] (by rfl) rfl rfl lm_ ?_
 with_reducible refine (spec_l09Made.calls k2 g s0_0 t341 t342 t343 t346 t349 t350 t351 t352 w0 _ ?side1 ?side2 A19.out).mono ?_
 (case side1 => exact is0_)
 (case side2 => exact bi0_)
 rintro e w23 ⟨v344, v347, rfl, ho0, ho1, hi, hb, hk⟩
 refine ⟨_, rfl, ?_⟩
 have n0_ := Aside0.mk (Kd.S_mono (Kd.S_told (Kd.S_told (Kd.S_oldK (IsS118.apartS (show IsS118 w0 _ g s0_0 t341 t342 from is0_) (by (with_reducible repeat (first | apply Kd.S_alloc | apply Kd.S_drewN | apply Kd.S_drew)); exact HO_340003.out) (by decide)) hk) (Kd.R_base ho0)) (Kd.R_base ho1)) (fun _ h_ => h_.1))
 have n1_ := Aside0.mk (KeepBut.blk hk (g' := gb332) (o := .cells #[.int .i64 0, .int .i64 0, .int .i64 0, .slice none 0 0] 36 (0, 0)) (bk_ BK332.out) NB332_0.out (by simp))
 have n2_ := Aside0.mk (KeepBut.blk hk (g' := gb339) (o := .cells #[.int .i64 62, .int .i64 t336, .int .i64 x340002_2, u340003] 36 (0, 0)) (bk_ BK339.out) NB339_0.out (by simp))
 have n3_ := Aside0.mk (Kd.R_lower ho0 (keep_size (w := w) (g := g) (row := none) hkx_))
 have n4_ := Aside0.mk (Kd.R_lower ho1 (keep_size (w := w) (g := g) (row := none) hkx_))
 have n5_ := Aside0.mk (KeepBut.trans (by repeat (first | (with_reducible first | exact HK.out | apply KeepBut.set_ | apply keep_drewN | apply keep_drew | apply keep_alloc | refine keep_far ?_ GW332.out _ | refine keep_far ?_ GW339.out _) | exact HK.out)) hk (.inl rfl))
 have n6_ := Aside0.mk (hb)
 have n7_ := Aside0.mk (hi)
 clear HO_340003
 clear BK332
 clear BK339
 clear HK
 clear HB
 clear HI0
 have HO_340003 := n0_
 have BK332 := n1_
 have BK339 := n2_
 have HO345 := n3_
 have HO348 := n4_
 have HK := n5_
 have HB := n6_
 have HI0 := n7_
 clear n0_ n1_ n2_ n3_ n4_ n5_ n6_ n7_
 (try clear hb)
 (try clear hb2)
 (try clear hk)
 (try clear hi)
 (try clear ho0)
 (try clear ho1)
 obtain ⟨Ao25, co25, eo25⟩ := Kd.R_slice HO345.out
 (first | subst eo25 | (injection eo25 with f1_ f2_ f3_; have f4_ := f1_.symm; have f5_ := f3_.symm; clear f1_ f2_ f3_; subst f4_; subst f5_))
 obtain ⟨Ao26, co26, eo26⟩ := Kd.R_slice HO348.out
 (first | subst eo26 | (injection eo26 with f1_ f2_ f3_; have f4_ := f1_.symm; have f5_ := f3_.symm; clear f1_ f2_ f3_; subst f4_; subst f5_))
 refine hK.out _ _ ⟨(blk_cell BK339.out 0).trans rfl, (blk_cell BK339.out 1).trans rfl, (blk_cell BK339.out 2).trans rfl, (blk_cell BK339.out 3).trans rfl⟩ (fun hHeld => ?_)
 clear hK K
 refine norm_ (a' := ?_) ?_ ?_
 rotate_left
 ·show Act.put _ (some 22) _ = _
  simp only [Act.put, List.setIfInBounds_toArray, List.set_cons_zero, List.set_cons_succ, i64_w, i32_w]
  rfl
 refine on_ 4 23 HT_ (fun K hK => ?_)
 refine value_ (w1 := ?_) (v := ?_) (by rfl) rfl ?_ ?_
 rotate_left 2
 ·go_simp
  constructor
  ·rfl
  ·rfl
 refine hK.out _ _ ⟨(blk_cell (blk_alloc BK339.out _) 0).trans rfl, (blk_cell (blk_alloc BK339.out _) 1).trans rfl, (blk_cell (blk_alloc BK339.out _) 2).trans rfl, (blk_cell (blk_alloc BK339.out _) 3).trans rfl⟩ (fun hHeld => ?_)
 clear hK K
 refine norm_ (a' := ?_) ?_ ?_
 rotate_left
 ·show Act.put _ (some 23) _ = _
  simp only [Act.put, List.setIfInBounds_toArray, List.set_cons_zero, List.set_cons_succ, i64_w, i32_w]
  rfl
 refine on_ 5 24 HT_ (fun K hK => ?_)
 refine Kd.S_append_step k53 w.heap.size (by rfl) (.tmp 20) (.tmp 23) 34 53 (.agg #[(.slice none 0 0), (.slice none 0 0), (.int .i64 0), (.int .i64 0)]) 64 rfl Try.underlying34 info53 rfl (by decide) (by omega) u340003 x340003_2 (⟨t343, t346, t349, t350⟩ : S53) [.slice Ao25 t343.length co25, .slice Ao26 t346.length co26, .int .i64 t349, .int .i64 t350] (fun _ => True) (fun k_ => some k_ = (.slice Ao25 t343.length co25 : Value).ownBlock ∨ some k_ = (.slice Ao26 t346.length co26 : Value).ownBlock) rfl rfl ?aP (fun k_ hk_ => hk_.elim (fun h_ => ((Kd.R_mono (ok' := fun k_ => ((fun _ => True)) k_ ∧ some k_ ≠ (u340003 : Value).ownBlock) (Kd.R_apart' (HO345.out) (Kd.S_typed HO_340003.out) (by decide)) (fun k_ hk => ⟨trivial, hk.2⟩))).1 k_ h_.symm) (fun h_ => ((Kd.R_mono (ok' := fun k_ => ((fun _ => True)) k_ ∧ some k_ ≠ (u340003 : Value).ownBlock) (Kd.R_apart' (HO348.out) (Kd.S_typed HO_340003.out) (by decide)) (fun k_ hk => ⟨trivial, hk.2⟩))).1 k_ h_.symm)) ?aF ?aO (Below.refl _ _) ?aS ?aL ?_
 (case aP => exact k53_mkM _ _ _ (⟨t343, t346, t349, t350⟩ : S53) (Kd.R_mono (Kd.R_tight rfl (Kd.R_mono (ok' := fun k_ => ((fun _ => True)) k_ ∧ some k_ ≠ (u340003 : Value).ownBlock) (Kd.R_apart' (HO345.out) (Kd.S_typed HO_340003.out) (by decide)) (fun k_ hk => ⟨trivial, hk.2⟩))) (fun _ h_ => Or.inl h_)) (Kd.R_mono (Kd.R_tight rfl (Kd.R_mono (ok' := fun k_ => ((fun _ => True)) k_ ∧ some k_ ≠ (u340003 : Value).ownBlock) (Kd.R_apart' (HO348.out) (Kd.S_typed HO_340003.out) (by decide)) (fun k_ hk => ⟨trivial, hk.2⟩))) (fun _ h_ => Or.inr (h_))))
 (case aF => exact (fun _ _ => trivial))
 (case aO => exact (by (with_reducible repeat (first | apply Kd.S_alloc | apply Kd.S_drewN | apply Kd.S_drew)); exact Kd.S_mono HO_340003.out (fun k_ hk => ⟨trivial, fun e_ => e_.elim (fun h_ => hk.1.2 h_) (fun h_ => hk.2 h_)⟩)))
 (case aS => exact (keep_size (w := w) (g := g) (row := none) hkx_))
 (case aL => have := LMc20.out; omega)
 intro v354 w24 ho hb hg hat
 rw [← Ny353.out] at ho
 have n0_ := Aside0.mk (blk_grown (g := gb332) (o := .cells #[.int .i64 0, .int .i64 0, .int .i64 0, .slice none 0 0] 36 (0, 0)) (bk_ BK332.out) hg (Kd.S_ne HO_340003.out BK332.out (by decide)))
 have n1_ := Aside0.mk (blk_grown (g := gb339) (o := .cells #[.int .i64 62, .int .i64 t336, .int .i64 x340002_2, u340003] 36 (0, 0)) (bk_ BK339.out) hg (Kd.S_ne HO_340003.out BK339.out (by decide)))
 have n2_ := Aside0.mk (IsS118.grown (show IsS118 w0 _ g s0_0 t351 t352 from is0_) hg (IsS118.own_neS HI0.out HO_340003.out (by decide)))
 have n3_ := Aside0.mk (below_weaken bi0_ HL.out hb)
 have n4_ := Aside0.mk (KeepBut.trans (by repeat (first | (with_reducible first | exact HK.out | apply KeepBut.set_ | apply keep_drewN | apply keep_drew | apply keep_alloc | refine keep_far ?_ GW332.out _ | refine keep_far ?_ GW339.out _) | exact HK.out)) (KeepBut.of_grown hg g) (Kd.S_base2 HO_340003.out))
 have n5_ := Aside0.mk (ho)
 clear BK332
 clear BK339
 clear HI0
 clear HB
 clear HK
 clear HO_340003
 clear HO345
 clear HO348
 have BK332 := n0_
 have BK339 := n1_
 have HI0 := n2_
 have HB := n3_
 have HK := n4_
 have HO355 := n5_
 clear n0_ n1_ n2_ n3_ n4_ n5_
 clear ho hb hg hat
 obtain ⟨Ao27, co27, eo27⟩ := Kd.S_slice HO355.out
 (first | subst eo27 | (injection eo27 with f1_ f2_ f3_; have f4_ := f1_.symm; have f5_ := f3_.symm; clear f1_ f2_ f3_; subst f4_; subst f5_))
 refine hK.out _ _ ⟨(blk_cell BK339.out 0).trans rfl, (blk_cell BK339.out 1).trans rfl, (blk_cell BK339.out 2).trans rfl, (blk_cell BK339.out 3).trans rfl⟩ (fun hHeld => ?_)
 clear hK K
 refine norm_ (a' := ?_) ?_ ?_
 rotate_left
 ·show Act.put _ (some 24) _ = _
  simp only [Act.put, List.setIfInBounds_toArray, List.set_cons_zero, List.set_cons_succ, i64_w, i32_w]
  rfl
 refine pu_ 6 25 HT_ ?_
 refine last_ (i := 7) (N := none) #[true, true, true, true, true, true, true, true] rfl rfl (one_of HT_.out (by kernel_rfl)) (by decide) (fun K hK => ?_)
 have hs28 : w24.cell? ⟨gb339, 3, none⟩ = some (u340003) := (blk_cell BK339.out 3).trans rfl
 have hfs28 := blk_frozen BK339.out 3
 have hns28_0 := NB332_339.out
 have hms28_0 := NB339_332.out
 refine skip_ (w1 := ?_) (by rfl) rfl ?_ ?_
 rotate_left
 ·go_simp
  rfl
 refine hK.out _ _ ?_
 clear hK K
 refine done_ (done_of HT_.out (by kernel_rfl)) ?_
 try go_wp2
 go_roundg k2
 case measure => have := HJ2.out; have := HK2.out; omega
 case rel => exact ⟨(wrap64 (x4_2 + 1)), (t351), (t352), (y353), (.slice Ao27 y353.length co27), (sr_), H', ⟨by have := HJ2.out; have := HK2.out; omega⟩, ⟨by (with_reducible repeat (first | apply Kd.S_alloc | apply Kd.S_drewN | apply Kd.S_drew)); exact Kd.S_mono (Kd.S_far (p := ⟨gb339, 3, none⟩) (Kd.S_types HO355.out BK339.out (by decide)) (fun _ hk => hk.2) (.slice Ao27 y353.length co27)) (fun _ hk => trivial)⟩, ⟨bp1_ BK332.out NB332_339.out⟩, ⟨bp0_ BK339.out⟩, ⟨is0_⟩, ⟨hkx_⟩, ⟨bi0_⟩⟩


def spec_l09Copy.l0 : Nat → Int → Int → Int → Int → List (S53) → Int → Int → Int → List (S53) → Option (Int × Int × Int × (List (S53)))
 | 0, _, _, _, _, _, _, _, _, _ => none
 | k + 1, x4, x357000, x357001, x357002, x357003, x359000, x359001, x359002, x359003 => if x4 < (x357003.length : Int) then (if 0 ≤ x4 then ((some (([] : List Int) : List Int)).bind fun y364 => (if y364.length + ((rd_T53 x357003 x4).f0).length < 17592186044416 then ((some (([] : List (S100)) : List (S100))).bind fun y370 => (if y370.length + ((rd_T53 x357003 x4).f1).length < 2932031007402 then (if x359003.length < 2199023255552 then (spec_l09Copy.l0 k (wrap64 (x4 + 1)) x357000 x357001 x357002 x357003 x359000 x359001 x359002 (x359003 ++ [(⟨(y364 ++ ((rd_T53 x357003 x4).f0)), (y370 ++ ((rd_T53 x357003 x4).f1)), (rd_T53 x357003 x4).f2, (rd_T53 x357003 x4).f3⟩ : S53)])) else (none)) else (none))) else (none))) else (none)) else (some (x359000, x359001, x359002, x359003))
def spec_l09Copy.f (k : Nat) (a0_0 : Int) (a0_1 : Int) (a0_2 : Int) (l0_3 : List (S53)) : Option (Int × Int × Int × (List (S53))) := spec_l09Copy.l0 k 0 a0_0 a0_1 a0_2 l0_3 a0_0 a0_1 a0_2 (([] : List (S53)))
theorem spec_l09Copy.mono_l : ∀ k, (∀ y0 y1 y2 y3 y4 y5 y6 y7 y8, LeO (spec_l09Copy.l0 k y0 y1 y2 y3 y4 y5 y6 y7 y8) (spec_l09Copy.l0 (k + 1) y0 y1 y2 y3 y4 y5 y6 y7 y8))
 | 0 => fun _ _ _ _ _ _ _ _ _ r h => by simp [spec_l09Copy.l0] at h
 | k + 1 => by
  have ih0 := spec_l09Copy.mono_l k
  ·intro y0 y1 y2 y3 y4 y5 y6 y7 y8
   unfold spec_l09Copy.l0
   exact mo_
theorem spec_l09Copy.mono : ∀ a0 a1 a2 a3 k, LeO (spec_l09Copy.f k a0 a1 a2 a3) (spec_l09Copy.f (k + 1) a0 a1 a2 a3) := by
 intro a0 a1 a2 a3 k
 have ih0 := spec_l09Copy.mono_l k
 unfold spec_l09Copy.f
 exact mo_
theorem spec_l09Copy.calls (k : Nat) (a0_0 : Int) (a0_1 : Int) (a0_2 : Int) (A0_3 : Option Addr) (c0_3 : Nat) (l0_3 : List (S53)) (r1 : Int) (r2 : Int) (r3 : Int) (r4 : List (S53)) (w : World) (hr0_3 : Kd.C k53 w A0_3 l0_3.length l0_3) (hc0_3 : l0_3.length ≤ c0_3) (h : spec_l09Copy.f k a0_0 a0_1 a0_2 l0_3 = some (r1, r2, r3, r4)) :
 Calls Try.prog 83 #[.agg #[.int .i64 a0_0, .int .i64 a0_1, .int .i64 a0_2, .slice A0_3 l0_3.length c0_3]] w fun e w' => ∃ v3_ : Value, e = .returned (.agg #[.int .i64 r1, .int .i64 r2, .int .i64 r3, v3_]) ∧ Kd.S k53 53 w' w.heap.size (fun _ => True) v3_ r4 ∧ Below w.heap.size w w' := by
 have hu36 := Try.underlying36
 have hu53 := Try.underlying53
 have HR0_3 := Aside0.mk hr0_3
 have HC0_3 := Aside0.mk hc0_3
 clear hr0_3 hc0_3
 have HB := Aside0.mk (Below.refl w.heap.size w)
 have H := h
 unfold spec_l09Copy.f at H
 clear h
 obtain ⟨y359, hy359⟩ : ∃ y_ : List (S53), y_ = (([] : List (S53))) := ⟨_, rfl⟩
 replace H : (spec_l09Copy.l0 k 0 a0_0 a0_1 a0_2 l0_3 a0_0 a0_1 a0_2 y359) = some (r1, r2, r3, r4) := rp_ H hy359
 have Ny359 := Aside0.mk hy359
 clear hy359
 have H' := Aside0.mk H
 clear H
 go_enter Try.func83, Try.ntmps83
 go_wp2_with (first | ((with_reducible refine gate_dst (N := 1) rfl ?_); refine bx_ 1 36 #[.int .i64 a0_0, .int .i64 a0_1, .int .i64 a0_2, .slice A0_3 l0_3.length c0_3] ?_; intro gb356 hg w2 hbox hb; have BK356 := Aside0.mk (hbox); have GW356 := Aside0.mk ((hz_ : w.heap.size ≤ gb356)); have GE356 := GW356; replace HB := Aside0.mk (below_step bl_ hb); clear hb hbox hg) | ((with_reducible refine gate_dst (N := 2) rfl ?_); refine bx_ 2 36 #[.int .i64 0, .int .i64 0, .int .i64 0, .slice none 0 0] ?_; intro gb357 hg w3 hbox hb; have BK357 := Aside0.mk (hbox); have GW357 := Aside0.mk ((hz_ : w.heap.size ≤ gb357)); have GE357 := GW357; replace HB := Aside0.mk (below_step bl_ hb); have NB356_357 := Aside0.mk (nl_ BK356.out hg); have NB357_356 := Aside0.mk (ng_ BK356.out hg); replace BK356 := bb0_ BK356.out hb; clear hb hbox hg; have hnb4 := NB356_357.out; have hnc4 := NB357_356.out; obtain ⟨hcz5_0, hcz5_1, hcz5_2, hcz5_3, hfz5_0, hfz5_1, hfz5_2, hfz5_3⟩ := cf4_ BK356.out) | ((with_reducible refine gate_dst (N := 3) rfl ?_); refine bx_ 3 36 #[.int .i64 0, .int .i64 0, .int .i64 0, .slice none 0 0] ?_; intro gb358 hg w6 hbox hb; have BK358 := Aside0.mk (hbox); have GW358 := Aside0.mk ((hz_ : w.heap.size ≤ gb358)); have GE358 := GW358; replace HB := Aside0.mk (below_step bl_ hb); have NB356_358 := Aside0.mk (nl_ BK356.out hg); have NB358_356 := Aside0.mk (ng_ BK356.out hg); replace BK356 := bb0_ BK356.out hb; have NB357_358 := Aside0.mk (nl_ BK357.out hg); have NB358_357 := Aside0.mk (ng_ BK357.out hg); replace BK357 := bb0_ BK357.out hb; clear hb hbox hg; have hnb7 := NB358_356.out; have hnc7 := NB356_358.out; have hnb8 := NB358_357.out; have hnc8 := NB357_358.out; obtain ⟨hcz9_0, hcz9_1, hcz9_2, hcz9_3, hfz9_0, hfz9_1, hfz9_2, hfz9_3⟩ := cf4_ BK358.out) | ((with_reducible refine gate_dst (N := 7) rfl ?_); refine Kd.S_lit k53 _ 53 ?hg (N := 7) ?hd (xs := ([] : List (S53))) (inner := []) (ok := fun _ => True) (okp := fun _ => True) ?hr ?hp (fun _ hk => hk) trivial (Below.refl _ _) (Nat.le_refl _) (by simp) ?_; (case hd => rfl); (case hg => rfl); (case hr => first | (go_simp; done) | (go_simp; rfl)); (case hp => exact (Reps.none _ _)); intro v360 w10 ho11 hb hg_ hnew_; clear hg_ hnew_; (first | rw [← Ny359.out] at ho11 | (simp only [Int.reduceToNat] at ho11; rw [← Ny359.out] at ho11)); have HO361 := Aside0.mk (Kd.S_lower ho11 (below_size bl_)); replace BK356 := bb1_ BK356.out NB356_358.out hb; replace BK357 := bb1_ BK357.out NB357_358.out hb; replace BK358 := Aside0.mk (blk_below (g := gb358) (o := .cells #[.int .i64 a0_0, .int .i64 a0_1, .int .i64 a0_2, .slice A0_3 l0_3.length c0_3] 36 (0, 0)) (bp0_ BK358.out) hb); replace HB := Aside0.mk (below_step bl_ hb); clear hb ho11; obtain ⟨Ao12, co12, eo12⟩ := Kd.S_slice HO361.out; subst eo12; obtain ⟨hcz13_0, hcz13_1, hcz13_2, hcz13_3, hfz13_0, hfz13_1, hfz13_2, hfz13_3⟩ := cf4_ BK358.out))
 go_loopg [4] k (fun kq v4 w' => ∃ (x4_1 : Int) (x359003_1 : List (S53)) (u359003 : Value), v4 = .int .i64 x4_1 ∧ Aside0 (spec_l09Copy.l0 kq x4_1 a0_0 a0_1 a0_2 l0_3 a0_0 a0_1 a0_2 x359003_1 = some (r1, r2, r3, r4)) ∧ Aside0 (kq ≤ k) ∧ Aside0 (Kd.S k53 53 w' w.heap.size (fun _ => True) u359003 x359003_1) ∧ Aside0 (w'.heap[gb356]? = some (.cells #[.int .i64 a0_0, .int .i64 a0_1, .int .i64 a0_2, (.slice A0_3 l0_3.length c0_3)] 36 (0, 0))) ∧ Aside0 (w'.heap[gb357]? = some (.cells #[.int .i64 0, .int .i64 0, .int .i64 0, (.slice none 0 0)] 36 (0, 0))) ∧ Aside0 (w'.heap[gb358]? = some (.cells #[.int .i64 a0_0, .int .i64 a0_1, .int .i64 a0_2, u359003] 36 (0, 0))) ∧ Aside0 (Below w.heap.size w w'))
 case atStart => exact ⟨(0), (y359), (.slice Ao12 y359.length co12), (sr_), H', ⟨Nat.le_refl _⟩, ⟨by (with_reducible repeat (first | apply Kd.S_alloc | apply Kd.S_drewN | apply Kd.S_drew)); exact Kd.S_mono (Kd.S_far (p := ⟨gb358, 3, none⟩) (Kd.S_types HO361.out BK358.out (by decide)) (fun _ hk => hk.2) (.slice Ao12 y359.length co12)) (fun _ hk => trivial)⟩, ⟨bp1_ BK356.out NB356_358.out⟩, ⟨bp1_ BK357.out NB357_358.out⟩, ⟨bp0_ BK358.out⟩, ⟨bl_⟩⟩
 clear H'
 try clear hcz13_0
 try clear hcz13_1
 try clear hcz13_2
 try clear hcz13_3
 try clear hcz5_0
 try clear hcz5_1
 try clear hcz5_2
 try clear hcz5_3
 try clear hcz9_0
 try clear hcz9_1
 try clear hcz9_2
 try clear hcz9_3
 try clear hfz13_0
 try clear hfz13_1
 try clear hfz13_2
 try clear hfz13_3
 try clear hfz5_0
 try clear hfz5_1
 try clear hfz5_2
 try clear hfz5_3
 try clear hfz9_0
 try clear hfz9_1
 try clear hfz9_2
 try clear hfz9_3
 try clear BK356
 try clear BK357
 try clear BK358
 obtain ⟨x4_1, x359003_1, u359003, rfl, HA, HK1, HO_359003, BK356, BK357, BK358, HB⟩ := hrel
 cases gk with
 | zero => exact absurd HA.out (by simp [spec_l09Copy.l0])
 | succ k1 => ?_
 have H := HA.out
 clear HA
 simp only [spec_l09Copy.l0] at H
 by_cases c14 : x4_1 < (l0_3.length : Int)
 rotate_left
 ·rw [if_neg c14] at H
  have c14b0 := decide_eq_false c14
  clear c14
  simp only [Option.some.injEq, Prod.mk.injEq] at H
  obtain ⟨rfl, rfl, rfl, rfl⟩ := H
  have hnb46 := NB356_357.out
  have hnc46 := NB357_356.out
  have hnb47 := NB356_358.out
  have hnc47 := NB358_356.out
  obtain ⟨hcz48_0, hcz48_1, hcz48_2, hcz48_3, hfz48_0, hfz48_1, hfz48_2, hfz48_3⟩ := cf4_ BK356.out
  have hnb49 := NB358_357.out
  have hnc49 := NB357_358.out
  obtain ⟨hcz50_0, hcz50_1, hcz50_2, hcz50_3, hfz50_0, hfz50_1, hfz50_2, hfz50_3⟩ := cf4_ BK358.out
  obtain ⟨hcz51_0, hcz51_1, hcz51_2, hcz51_3, hfz51_0, hfz51_1, hfz51_2, hfz51_3⟩ := cf4_ BK357.out
  obtain ⟨Ao52, co52, eo52⟩ := Kd.S_slice HO_359003.out
  subst eo52
  go_wp2
  refine bodyPost_ret (results_cell_row rfl _ _ gb357 36 #[.int .i64 a0_0, .int .i64 a0_1, .int .i64 a0_2, .slice Ao52 x359003_1.length co52] (0, 0) _ rfl (bp0_ BK357.out) Try.underlying36 rfl (by kernel_rfl)) rfl ?_
  exact ⟨_, er_, by (with_reducible repeat (first | apply Kd.S_alloc | apply Kd.S_drewN | apply Kd.S_drew)); exact Kd.S_mono (Kd.S_far (p := ⟨gb357, 3, none⟩) (Kd.S_far (p := ⟨gb357, 2, none⟩) (Kd.S_far (p := ⟨gb357, 1, none⟩) (Kd.S_far (p := ⟨gb357, 0, none⟩) (Kd.S_types HO_359003.out BK357.out (by decide)) (fun _ hk => hk.2) (.int .i64 a0_0)) (fun _ hk => hk.2) (.int .i64 a0_1)) (fun _ hk => hk.2) (.int .i64 a0_2)) (fun _ hk => hk.2) (.slice Ao52 x359003_1.length co52)) (fun _ hk => trivial), bl_⟩
 rw [if_pos c14] at H
 have c14b0 := decide_eq_true c14
 clear c14
 by_cases c15 : 0 ≤ x4_1
 rotate_left
 ·exact nn_ c15 H
 rw [if_pos c15] at H
 have c15b0 := decide_eq_true c15
 clear c15
 obtain ⟨y364, hy364⟩ : ∃ y_ : List Int, y_ = (([] : List Int)) := ⟨_, rfl⟩
 replace H : (if y364.length + ((rd_T53 l0_3 x4_1).f0).length < 17592186044416 then ((some (([] : List (S100)) : List (S100))).bind fun y370 => (if y370.length + ((rd_T53 l0_3 x4_1).f1).length < 2932031007402 then (if x359003_1.length < 2199023255552 then (spec_l09Copy.l0 k1 (wrap64 (x4_1 + 1)) a0_0 a0_1 a0_2 l0_3 a0_0 a0_1 a0_2 (x359003_1 ++ [(⟨(y364 ++ ((rd_T53 l0_3 x4_1).f0)), (y370 ++ ((rd_T53 l0_3 x4_1).f1)), (rd_T53 l0_3 x4_1).f2, (rd_T53 l0_3 x4_1).f3⟩ : S53)])) else (none)) else (none))) else (none)) = some (r1, r2, r3, r4) := rp_ H hy364
 have Ny364 := Aside0.mk hy364
 clear hy364
 by_cases c16 : y364.length + ((rd_T53 l0_3 x4_1).f0).length < 17592186044416
 rotate_left
 ·exact nn_ c16 H
 rw [if_pos c16] at H
 have LMc16 := Aside0.mk c16
 clear c16
 obtain ⟨y367, hy367⟩ : ∃ y_ : List Int, y_ = (y364 ++ ((rd_T53 l0_3 x4_1).f0)) := ⟨_, rfl⟩
 replace H : ((some (([] : List (S100)) : List (S100))).bind fun y370 => (if y370.length + ((rd_T53 l0_3 x4_1).f1).length < 2932031007402 then (if x359003_1.length < 2199023255552 then (spec_l09Copy.l0 k1 (wrap64 (x4_1 + 1)) a0_0 a0_1 a0_2 l0_3 a0_0 a0_1 a0_2 (x359003_1 ++ [(⟨y367, (y370 ++ ((rd_T53 l0_3 x4_1).f1)), (rd_T53 l0_3 x4_1).f2, (rd_T53 l0_3 x4_1).f3⟩ : S53)])) else (none)) else (none))) = some (r1, r2, r3, r4) := rp_ H hy367
 have Ny367 := Aside0.mk hy367
 clear hy367
 obtain ⟨y370, hy370⟩ : ∃ y_ : List (S100), y_ = (([] : List (S100))) := ⟨_, rfl⟩
 replace H : (if y370.length + ((rd_T53 l0_3 x4_1).f1).length < 2932031007402 then (if x359003_1.length < 2199023255552 then (spec_l09Copy.l0 k1 (wrap64 (x4_1 + 1)) a0_0 a0_1 a0_2 l0_3 a0_0 a0_1 a0_2 (x359003_1 ++ [(⟨y367, (y370 ++ ((rd_T53 l0_3 x4_1).f1)), (rd_T53 l0_3 x4_1).f2, (rd_T53 l0_3 x4_1).f3⟩ : S53)])) else (none)) else (none)) = some (r1, r2, r3, r4) := rp_ H hy370
 have Ny370 := Aside0.mk hy370
 clear hy370
 by_cases c17 : y370.length + ((rd_T53 l0_3 x4_1).f1).length < 2932031007402
 rotate_left
 ·exact nn_ c17 H
 rw [if_pos c17] at H
 have LMc17 := Aside0.mk c17
 clear c17
 obtain ⟨y373, hy373⟩ : ∃ y_ : List (S100), y_ = (y370 ++ ((rd_T53 l0_3 x4_1).f1)) := ⟨_, rfl⟩
 replace H : (if x359003_1.length < 2199023255552 then (spec_l09Copy.l0 k1 (wrap64 (x4_1 + 1)) a0_0 a0_1 a0_2 l0_3 a0_0 a0_1 a0_2 (x359003_1 ++ [(⟨y367, y373, (rd_T53 l0_3 x4_1).f2, (rd_T53 l0_3 x4_1).f3⟩ : S53)])) else (none)) = some (r1, r2, r3, r4) := rp_ H hy373
 have Ny373 := Aside0.mk hy373
 clear hy373
 by_cases c18 : x359003_1.length < 2199023255552
 rotate_left
 ·exact nn_ c18 H
 rw [if_pos c18] at H
 have LMc18 := Aside0.mk c18
 clear c18
 obtain ⟨y376, hy376⟩ : ∃ y_ : List (S53), y_ = (x359003_1 ++ [(⟨y367, y373, (rd_T53 l0_3 x4_1).f2, (rd_T53 l0_3 x4_1).f3⟩ : S53)]) := ⟨_, rfl⟩
 replace H : (spec_l09Copy.l0 k1 (wrap64 (x4_1 + 1)) a0_0 a0_1 a0_2 l0_3 a0_0 a0_1 a0_2 y376) = some (r1, r2, r3, r4) := rp_ H hy376
 have Ny376 := Aside0.mk hy376
 clear hy376
 have H' := Aside0.mk H
 clear H
 have hnb19 := NB356_357.out
 have hnc19 := NB357_356.out
 have hnb20 := NB356_358.out
 have hnc20 := NB358_356.out
 obtain ⟨hcz21_0, hcz21_1, hcz21_2, hcz21_3, hfz21_0, hfz21_1, hfz21_2, hfz21_3⟩ := cf4_ BK356.out
 have p362 : 0 ≤ (x4_1 : Int) := of_decide_eq_true as_
 have q362 : x4_1 < (l0_3.length : Int) := of_decide_eq_true as_
 obtain ⟨ad362, A362_0, c362_0, A362_1, c362_1, e362, hx362_0, hx362_1, hx362_2, hx362_3, hl362_0, hi362_0, hl362_1, hi362_1⟩ := at_T53 HR0_3.out x4_1 p362 q362
 cases e362
 replace hx362_0 := (HB.out.cell (World.block_lt_of_cell? w _ hx362_0)).trans hx362_0
 replace hx362_1 := (HB.out.cell (World.block_lt_of_cell? w _ hx362_1)).trans hx362_1
 replace hx362_2 := (HB.out.cell (World.block_lt_of_cell? w _ hx362_2)).trans hx362_2
 replace hx362_3 := (HB.out.cell (World.block_lt_of_cell? w _ hx362_3)).trans hx362_3
 have HR362_0 := Aside0.mk hi362_0
 have HC362_0 := Aside0.mk hl362_0
 clear hi362_0 hl362_0
 have HR362_1 := Aside0.mk hi362_1
 have HC362_1 := Aside0.mk hl362_1
 clear hi362_1 hl362_1
 replace p362 := eq_true p362
 replace q362 := eq_true q362
 go_wp2_with (first | ((with_reducible refine gate_dst (N := 5) rfl ?_); refine bx_ 5 53 #[.slice none 0 0, .slice none 0 0, .int .i64 0, .int .i64 0] ?_; intro gb363 hg w22 hbox hb; replace HO_359003 := Aside0.mk (Kd.S_below (Kd.S_elderB (by (with_reducible repeat (first | apply Kd.S_alloc | apply Kd.S_drewN | apply Kd.S_drew)); exact HO_359003.out) gb363 (Nat.le_of_eq hg.symm)) hb); have BK363 := Aside0.mk (hbox); have GW363 := Aside0.mk ((hz_ : w.heap.size ≤ gb363)); have GE363 := GW363; replace HB := Aside0.mk (below_step bl_ hb); have NB356_363 := Aside0.mk (nl_ BK356.out hg); have NB363_356 := Aside0.mk (ng_ BK356.out hg); replace BK356 := bb0_ BK356.out hb; have NB357_363 := Aside0.mk (nl_ BK357.out hg); have NB363_357 := Aside0.mk (ng_ BK357.out hg); replace BK357 := bb0_ BK357.out hb; have NB358_363 := Aside0.mk (nl_ BK358.out hg); have NB363_358 := Aside0.mk (ng_ BK358.out hg); replace BK358 := bb0_ BK358.out hb; clear hb hbox hg; have hnb23 := NB363_356.out; have hnc23 := NB356_363.out; have hnb24 := NB363_357.out; have hnc24 := NB357_363.out; have hnb25 := NB363_358.out; have hnc25 := NB358_363.out; obtain ⟨hcz26_0, hcz26_1, hcz26_2, hcz26_3, hfz26_0, hfz26_1, hfz26_2, hfz26_3⟩ := cf4_ BK363.out) | ((with_reducible refine gate_dst (N := 21) rfl ?_); refine Kd.R_lit (Kd.int .i64) _ 3 ?hg (N := 21) ?hd (xs := ([] : List Int)) (inner := []) (ok := fun _ => True) (okp := fun _ => True) ?hr ?hp (fun _ hk => hk) trivial (Below.refl _ _) (Nat.le_refl _) (by simp) ?_; (case hd => rfl); (case hg => rfl); (case hr => first | (go_simp; done) | (go_simp; rfl)); (case hp => exact (Reps.none _ _)); intro v365 w27 ho28 hb hg_ hnew_; clear hg_ hnew_; (first | rw [← Ny364.out] at ho28 | (simp only [Int.reduceToNat] at ho28; rw [← Ny364.out] at ho28)); replace HO_359003 := Aside0.mk (Kd.S_elder' (by (with_reducible repeat (first | apply Kd.S_alloc | apply Kd.S_drewN | apply Kd.S_drew)); exact (Kd.S_mono (Kd.S_far (p := ⟨gb363, 3, none⟩) (Kd.S_far (p := ⟨gb363, 2, none⟩) (Kd.S_far (p := ⟨gb363, 1, none⟩) (Kd.S_far (p := ⟨gb363, 0, none⟩) (Kd.S_mono HO_359003.out (fun k_ hk => (⟨hk, hk.2⟩ : _ ∧ k_ ≠ gb363))) (fun _ hk => hk.2) (.slice A362_0 ((rd_T53 l0_3 x4_1).f0).length c362_0)) (fun _ hk => hk.2) (.slice A362_1 ((rd_T53 l0_3 x4_1).f1).length c362_1)) (fun _ hk => hk.2) (.int .i64 ((rd_T53 l0_3 x4_1).f2))) (fun _ hk => hk.2) (.int .i64 ((rd_T53 l0_3 x4_1).f3))) (fun _ h_ => h_.1))) (Kd.R_base ho28) hb); have HO366 := Aside0.mk (Kd.R_lower ho28 (below_size bl_)); replace BK356 := bb1_ BK356.out NB356_363.out hb; replace BK357 := bb1_ BK357.out NB357_363.out hb; replace BK358 := bb1_ BK358.out NB358_363.out hb; replace BK363 := Aside0.mk (blk_below (g := gb363) (o := .cells #[.slice A362_0 ((rd_T53 l0_3 x4_1).f0).length c362_0, .slice A362_1 ((rd_T53 l0_3 x4_1).f1).length c362_1, .int .i64 ((rd_T53 l0_3 x4_1).f2), .int .i64 ((rd_T53 l0_3 x4_1).f3)] 53 (0, 0)) (bp0_ BK363.out) hb); replace HB := Aside0.mk (below_step bl_ hb); clear hb ho28; obtain ⟨hcz29_0, hcz29_1, hcz29_2, hcz29_3, hfz29_0, hfz29_1, hfz29_2, hfz29_3⟩ := cf4_ BK363.out) | ((with_reducible refine gate_builtin (b := .append) (xs := #[.tmp 21, .tmp 23]) rfl ?_); at_builtin; refine Kd.R_append_rows (Kd.int .i64) (w0 := w) w.heap.size rfl (.tmp 21) (.tmp 23) 32 3 (.int .i64 0) 8 rfl Try.underlying32 info3 rfl (by decide) (by omega) v365 y364 ((rd_T53 l0_3 x4_1).f0) _ _ _ (fun _ => True) (fun _ => False) rfl rfl ?aO ?aR (fun _ _ h => h) (fun _ h => h.elim) ?aF ?aB ?aS ?aL ?_; (case aR => repeat (first | exact (Kd.C_below HR362_0.out HB.out) | exact HR362_0.out | (with_reducible refine Kd.C_alloc ?_ _) | (with_reducible refine Kd.C_drewN ?_ _) | (with_reducible refine Kd.C_drew ?_))); (case aB => exact bl_); (case aF => exact (fun _ _ => trivial)); (case aO => exact (ra_ HO366.out)); (case aS => exact (below_size bl_)); (case aL => have := LMc16.out; omega); intro v368 w30 ho hb hg hat; rw [← Ny367.out] at ho; replace HO_359003 := Aside0.mk (Kd.S_after (ok := (fun k_ => k_ ≠ gb363)) (by (with_reducible repeat (first | apply Kd.S_alloc | apply Kd.S_drewN | apply Kd.S_drew)); exact Kd.S_mono HO_359003.out (fun _ hk => ⟨hk.1.2, hk.2⟩)) hg hat); replace BK356 := Aside0.mk (blk_grown (g := gb356) (o := .cells #[.int .i64 a0_0, .int .i64 a0_1, .int .i64 a0_2, .slice (some ad362) l0_3.length c0_3] 36 (0, 0)) (bk_ BK356.out) hg (Kd.R_ne HO366.out BK356.out (by decide))); replace BK357 := Aside0.mk (blk_grown (g := gb357) (o := .cells #[.int .i64 0, .int .i64 0, .int .i64 0, .slice none 0 0] 36 (0, 0)) (bk_ BK357.out) hg (Kd.R_ne HO366.out BK357.out (by decide))); replace BK358 := Aside0.mk (blk_grown (g := gb358) (o := .cells #[.int .i64 a0_0, .int .i64 a0_1, .int .i64 a0_2, u359003] 36 (0, 0)) (bk_ BK358.out) hg (Kd.R_ne HO366.out BK358.out (by decide))); replace BK363 := Aside0.mk (blk_grown (g := gb363) (o := .cells #[.slice A362_0 ((rd_T53 l0_3 x4_1).f0).length c362_0, .slice A362_1 ((rd_T53 l0_3 x4_1).f1).length c362_1, .int .i64 ((rd_T53 l0_3 x4_1).f2), .int .i64 ((rd_T53 l0_3 x4_1).f3)] 53 (0, 0)) (bk_ BK363.out) hg (Kd.R_ne HO366.out BK363.out (by decide))); replace HB := Aside0.mk (hb); have HO369 := Aside0.mk (ho); clear HO366; clear ho hb hg hat; obtain ⟨Ao31, co31, eo31⟩ := Kd.R_slice HO369.out; subst eo31; obtain ⟨hcz32_0, hcz32_1, hcz32_2, hcz32_3, hfz32_0, hfz32_1, hfz32_2, hfz32_3⟩ := cf4_ BK363.out) | ((with_reducible refine gate_dst (N := 26) rfl ?_); refine Kd.R_lit k100 _ 100 ?hg (N := 26) ?hd (xs := ([] : List (S100))) (inner := []) (ok := fun _ => True) (okp := fun _ => True) ?hr ?hp (fun _ hk => hk) trivial (Below.refl _ _) (Nat.le_refl _) (by simp) ?_; (case hd => rfl); (case hg => rfl); (case hr => first | (go_simp; done) | (go_simp; rfl)); (case hp => exact (Reps.none _ _)); intro v371 w33 ho34 hb hg_ hnew_; clear hg_ hnew_; (first | rw [← Ny370.out] at ho34 | (simp only [Int.reduceToNat] at ho34; rw [← Ny370.out] at ho34)); replace HO_359003 := Aside0.mk (Kd.S_elder' (by (with_reducible repeat (first | apply Kd.S_alloc | apply Kd.S_drewN | apply Kd.S_drew)); exact (Kd.S_mono (Kd.S_far (p := ⟨gb363, 0, none⟩) (Kd.S_mono HO_359003.out (fun k_ hk => (⟨hk, hk.1⟩ : _ ∧ k_ ≠ gb363))) (fun _ hk => hk.2) (.slice Ao31 y367.length co31)) (fun _ h_ => h_.1))) (Kd.R_base ho34) hb); replace HO369 := Aside0.mk (Kd.R_below (rfa_ HO369.out BK363.out) hb); have HO372 := Aside0.mk (Kd.R_lower ho34 (below_size bl_)); replace BK356 := bb1_ BK356.out NB356_363.out hb; replace BK357 := bb1_ BK357.out NB357_363.out hb; replace BK358 := bb1_ BK358.out NB358_363.out hb; replace BK363 := Aside0.mk (blk_below (g := gb363) (o := .cells #[.slice Ao31 y367.length co31, .slice A362_1 ((rd_T53 l0_3 x4_1).f1).length c362_1, .int .i64 ((rd_T53 l0_3 x4_1).f2), .int .i64 ((rd_T53 l0_3 x4_1).f3)] 53 (0, 0)) (bp0_ BK363.out) hb); replace HB := Aside0.mk (below_step bl_ hb); clear hb ho34; obtain ⟨hcz35_0, hcz35_1, hcz35_2, hcz35_3, hfz35_0, hfz35_1, hfz35_2, hfz35_3⟩ := cf4_ BK363.out) | ((with_reducible refine gate_builtin (b := .append) (xs := #[.tmp 26, .tmp 28]) rfl ?_); at_builtin; refine Kd.R_append_rows k100 (w0 := w) w.heap.size rfl (.tmp 26) (.tmp 28) 51 100 (.agg #[(.int .i64 0), (.int .i64 0), (.int .i64 0), (.int .i64 0), (.int .i64 0), (.int .i64 0)]) 48 rfl Try.underlying51 info100 rfl (by decide) (by omega) v371 y370 ((rd_T53 l0_3 x4_1).f1) _ _ _ (fun _ => True) (fun _ => False) rfl rfl ?aO ?aR (fun _ _ h => h) (fun _ h => h.elim) ?aF ?aB ?aS ?aL ?_; (case aR => repeat (first | exact (Kd.C_below HR362_1.out HB.out) | exact HR362_1.out | (with_reducible refine Kd.C_alloc ?_ _) | (with_reducible refine Kd.C_drewN ?_ _) | (with_reducible refine Kd.C_drew ?_))); (case aB => exact bl_); (case aF => exact (fun _ _ => trivial)); (case aO => exact (ra_ HO372.out)); (case aS => exact (below_size bl_)); (case aL => have := LMc17.out; omega); intro v374 w36 ho hb hg hat; rw [← Ny373.out] at ho; replace HO_359003 := Aside0.mk (Kd.S_after (ok := (fun k_ => some k_ ≠ (.slice Ao31 y367.length co31 : Value).ownBlock ∧ k_ ≠ gb363)) (by (with_reducible repeat (first | apply Kd.S_alloc | apply Kd.S_drewN | apply Kd.S_drew)); exact Kd.S_mono HO_359003.out (fun _ hk => ⟨⟨hk.1.2, hk.1.1⟩, hk.2⟩)) hg hat); replace BK356 := Aside0.mk (blk_grown (g := gb356) (o := .cells #[.int .i64 a0_0, .int .i64 a0_1, .int .i64 a0_2, .slice (some ad362) l0_3.length c0_3] 36 (0, 0)) (bk_ BK356.out) hg (Kd.R_ne HO372.out BK356.out (by decide))); replace BK357 := Aside0.mk (blk_grown (g := gb357) (o := .cells #[.int .i64 0, .int .i64 0, .int .i64 0, .slice none 0 0] 36 (0, 0)) (bk_ BK357.out) hg (Kd.R_ne HO372.out BK357.out (by decide))); replace BK358 := Aside0.mk (blk_grown (g := gb358) (o := .cells #[.int .i64 a0_0, .int .i64 a0_1, .int .i64 a0_2, u359003] 36 (0, 0)) (bk_ BK358.out) hg (Kd.R_ne HO372.out BK358.out (by decide))); replace BK363 := Aside0.mk (blk_grown (g := gb363) (o := .cells #[.slice Ao31 y367.length co31, .slice A362_1 ((rd_T53 l0_3 x4_1).f1).length c362_1, .int .i64 ((rd_T53 l0_3 x4_1).f2), .int .i64 ((rd_T53 l0_3 x4_1).f3)] 53 (0, 0)) (bk_ BK363.out) hg (Kd.R_ne HO372.out BK363.out (by decide))); replace HO369 := Aside0.mk (Kd.R_over' (ra_ HO369.out) (Kd.R_typed (ra_ HO372.out)) (by decide) hg); replace HB := Aside0.mk (hb); have HO375 := Aside0.mk (ho); clear HO372; clear ho hb hg hat; obtain ⟨Ao37, co37, eo37⟩ := Kd.R_slice HO375.out; subst eo37; obtain ⟨hcz38_0, hcz38_1, hcz38_2, hcz38_3, hfz38_0, hfz38_1, hfz38_2, hfz38_3⟩ := cf4_ BK363.out) | ((with_reducible refine gate_store (t := 51) (p := 30) rfl ?_); refine store_event (t := 51) (p := 30) (v := ?vo_w39) (w1 := (w36.setCell ⟨gb363, 1, none⟩ (.slice Ao37 y373.length co37))) ?hg ?ho ?hn ?hr ?_; (case ho => rfl); (case hg => rfl); (case hn => rfl); (case hr => first | (go_simp; done) | (go_simp; rfl)); intro w39 hw; have n0_ : Aside0 (Kd.S k53 53 w39 w.heap.size (fun k_ => some k_ ≠ (.slice Ao31 y367.length co31 : Value).ownBlock ∧ some k_ ≠ (.slice Ao37 y373.length co37 : Value).ownBlock ∧ k_ ≠ gb363) u359003 x359003_1) := ⟨(by rw [hw]; exact (by (with_reducible repeat (first | apply Kd.S_alloc | apply Kd.S_drewN | apply Kd.S_drew)); exact Kd.S_mono (Kd.S_far (p := ⟨gb363, 1, none⟩) (Kd.S_mono HO_359003.out (fun k_ hk => (⟨hk, hk.1.2⟩ : _ ∧ k_ ≠ gb363))) (fun _ hk => hk.2) (.slice Ao37 y373.length co37)) (fun _ hk => ⟨hk.1.1.1, ⟨hk.1.2, hk.1.1.2⟩⟩)))⟩; have n1_ : Aside0 (Kd.R (Kd.int .i64) 3 w39 w.heap.size (fun _ => True) (.slice Ao31 y367.length co31) y367) := ⟨(by rw [hw]; exact (by (with_reducible repeat (first | apply Kd.R_alloc | apply Kd.R_drewN | apply Kd.R_drew)); exact Kd.R_mono (Kd.R_far (p := ⟨gb363, 1, none⟩) (Kd.R_types HO369.out BK363.out (by decide)) (fun _ hk => hk.2) (.slice Ao37 y373.length co37)) (fun _ hk => trivial)))⟩; have n2_ : Aside0 (Kd.R k100 100 w39 w.heap.size (fun _ => True) (.slice Ao37 y373.length co37) y373) := ⟨(by rw [hw]; exact (by (with_reducible repeat (first | apply Kd.R_alloc | apply Kd.R_drewN | apply Kd.R_drew)); exact Kd.R_mono (Kd.R_far (p := ⟨gb363, 1, none⟩) (Kd.R_types HO375.out BK363.out (by decide)) (fun _ hk => hk.2) (.slice Ao37 y373.length co37)) (fun _ hk => trivial)))⟩; have n3_ : Aside0 (w39.heap[gb356]? = some (.cells #[.int .i64 a0_0, .int .i64 a0_1, .int .i64 a0_2, .slice (some ad362) l0_3.length c0_3] 36 (0, 0))) := ⟨(by rw [hw]; exact (bp1_ BK356.out NB356_363.out))⟩; have n4_ : Aside0 (w39.heap[gb357]? = some (.cells #[.int .i64 0, .int .i64 0, .int .i64 0, .slice none 0 0] 36 (0, 0))) := ⟨(by rw [hw]; exact (bp1_ BK357.out NB357_363.out))⟩; have n5_ : Aside0 (w39.heap[gb358]? = some (.cells #[.int .i64 a0_0, .int .i64 a0_1, .int .i64 a0_2, u359003] 36 (0, 0))) := ⟨(by rw [hw]; exact (bp1_ BK358.out NB358_363.out))⟩; have n6_ : Aside0 (w39.heap[gb363]? = some (.cells #[.slice Ao31 y367.length co31, .slice Ao37 y373.length co37, .int .i64 ((rd_T53 l0_3 x4_1).f2), .int .i64 ((rd_T53 l0_3 x4_1).f3)] 53 (0, 0))) := ⟨(by rw [hw]; exact (bp0_ BK363.out))⟩; have n7_ : Aside0 (Below w.heap.size w w39) := ⟨(by rw [hw]; exact bl_)⟩; clear hw; clear HO_359003; clear HO369; clear HO375; clear BK356; clear BK357; clear BK358; clear BK363; clear HB; have HO_359003 := n0_; have HO369 := n1_; have HO375 := n2_; have BK356 := n3_; have BK357 := n4_; have BK358 := n5_; have BK363 := n6_; have HB := n7_; clear n0_ n1_ n2_ n3_ n4_ n5_ n6_ n7_; have hnb40 := NB358_357.out; have hnc40 := NB357_358.out; obtain ⟨hcz41_0, hcz41_1, hcz41_2, hcz41_3, hfz41_0, hfz41_1, hfz41_2, hfz41_3⟩ := cf4_ BK358.out; obtain ⟨hcz42_0, hcz42_1, hcz42_2, hcz42_3, hfz42_0, hfz42_1, hfz42_2, hfz42_3⟩ := cf4_ BK363.out) | ((with_reducible refine gate_builtin (b := .append) (xs := #[.tmp 32, .tmp 34]) rfl ?_); at_builtin; refine Kd.S_append k53 (w0 := w) w.heap.size rfl (.tmp 32) (.tmp 34) 34 53 (.agg #[(.slice none 0 0), (.slice none 0 0), (.int .i64 0), (.int .i64 0)]) 64 rfl Try.underlying34 info53 rfl (by decide) (by omega) u359003 x359003_1 (⟨y367, y373, (rd_T53 l0_3 x4_1).f2, (rd_T53 l0_3 x4_1).f3⟩ : S53) [.slice Ao31 y367.length co31, .slice Ao37 y373.length co37, .int .i64 ((rd_T53 l0_3 x4_1).f2), .int .i64 ((rd_T53 l0_3 x4_1).f3)] (fun k_ => k_ ≠ gb363) (fun k_ => some k_ = (.slice Ao31 y367.length co31 : Value).ownBlock ∨ some k_ = (.slice Ao37 y373.length co37 : Value).ownBlock) rfl rfl ?aP (fun k_ hk_ => hk_.elim (fun h_ => ((Kd.R_mono (ok' := fun k_ => ((fun k_ => k_ ≠ gb363)) k_ ∧ some k_ ≠ (u359003 : Value).ownBlock) (Kd.R_types (Kd.R_apart' (HO369.out) (Kd.S_typed HO_359003.out) (by decide)) BK363.out (by decide)) (fun k_ hk => ⟨hk.2, hk.1.2⟩))).1 k_ h_.symm) (fun h_ => ((Kd.R_mono (ok' := fun k_ => ((fun k_ => k_ ≠ gb363)) k_ ∧ some k_ ≠ (u359003 : Value).ownBlock) (Kd.R_types (Kd.R_apart' (HO375.out) (Kd.S_typed HO_359003.out) (by decide)) BK363.out (by decide)) (fun k_ hk => ⟨hk.2, hk.1.2⟩))).1 k_ h_.symm)) ?aF ?aO ?aB ?aS ?aL ?_; (case aP => exact k53_mkM _ _ _ (⟨y367, y373, (rd_T53 l0_3 x4_1).f2, (rd_T53 l0_3 x4_1).f3⟩ : S53) (Kd.R_mono (Kd.R_tight rfl (Kd.R_mono (ok' := fun k_ => ((fun k_ => k_ ≠ gb363)) k_ ∧ some k_ ≠ (u359003 : Value).ownBlock) (Kd.R_types (Kd.R_apart' (HO369.out) (Kd.S_typed HO_359003.out) (by decide)) BK363.out (by decide)) (fun k_ hk => ⟨hk.2, hk.1.2⟩))) (fun _ h_ => Or.inl h_)) (Kd.R_mono (Kd.R_tight rfl (Kd.R_mono (ok' := fun k_ => ((fun k_ => k_ ≠ gb363)) k_ ∧ some k_ ≠ (u359003 : Value).ownBlock) (Kd.R_types (Kd.R_apart' (HO375.out) (Kd.S_typed HO_359003.out) (by decide)) BK363.out (by decide)) (fun k_ hk => ⟨hk.2, hk.1.2⟩))) (fun _ h_ => Or.inr (h_)))); (case aB => exact bl_); (case aF => exact (fun k_ hk => fb_ BK363.out k_ hk)); (case aO => exact (by (with_reducible repeat (first | apply Kd.S_alloc | apply Kd.S_drewN | apply Kd.S_drew)); exact Kd.S_mono HO_359003.out (fun k_ hk => ⟨hk.2.2, fun e_ => e_.elim (fun h_ => hk.1 h_) (fun h_ => hk.2.1 h_)⟩))); (case aS => exact (below_size bl_)); (case aL => have := LMc18.out; omega); intro v377 w43 ho hb hg hat; rw [← Ny376.out] at ho; replace BK356 := Aside0.mk (blk_grown (g := gb356) (o := .cells #[.int .i64 a0_0, .int .i64 a0_1, .int .i64 a0_2, .slice (some ad362) l0_3.length c0_3] 36 (0, 0)) (bk_ BK356.out) hg (Kd.S_ne HO_359003.out BK356.out (by decide))); replace BK357 := Aside0.mk (blk_grown (g := gb357) (o := .cells #[.int .i64 0, .int .i64 0, .int .i64 0, .slice none 0 0] 36 (0, 0)) (bk_ BK357.out) hg (Kd.S_ne HO_359003.out BK357.out (by decide))); replace BK358 := Aside0.mk (blk_grown (g := gb358) (o := .cells #[.int .i64 a0_0, .int .i64 a0_1, .int .i64 a0_2, u359003] 36 (0, 0)) (bk_ BK358.out) hg (Kd.S_ne HO_359003.out BK358.out (by decide))); replace BK363 := Aside0.mk (blk_grown (g := gb363) (o := .cells #[.slice Ao31 y367.length co31, .slice Ao37 y373.length co37, .int .i64 ((rd_T53 l0_3 x4_1).f2), .int .i64 ((rd_T53 l0_3 x4_1).f3)] 53 (0, 0)) (bk_ BK363.out) hg (Kd.S_away HO_359003.out (fun _ hk => hk.2.2))); replace HB := Aside0.mk (hb); have HO378 := Aside0.mk (ho); clear HO_359003 HO369 HO375; clear ho hb hg hat; obtain ⟨Ao44, co44, eo44⟩ := Kd.S_slice HO378.out; subst eo44; obtain ⟨hcz45_0, hcz45_1, hcz45_2, hcz45_3, hfz45_0, hfz45_1, hfz45_2, hfz45_3⟩ := cf4_ BK358.out))
 go_roundg k1
 case measure => have := HK1.out; omega
 case rel => exact ⟨(wrap64 (x4_1 + 1)), (y376), (.slice Ao44 y376.length co44), (sr_), H', ⟨by have := HK1.out; omega⟩, ⟨by (with_reducible repeat (first | apply Kd.S_alloc | apply Kd.S_drewN | apply Kd.S_drew)); exact Kd.S_mono (Kd.S_far (p := ⟨gb358, 3, none⟩) (Kd.S_types HO378.out BK358.out (by decide)) (fun _ hk => hk.2) (.slice Ao44 y376.length co44)) (fun _ hk => trivial)⟩, ⟨bp1_ BK356.out NB356_358.out⟩, ⟨bp1_ BK357.out NB357_358.out⟩, ⟨bp0_ BK358.out⟩, ⟨bl_⟩⟩

end Go.Proofs.Ytjfmpodeenidnaa.PC
