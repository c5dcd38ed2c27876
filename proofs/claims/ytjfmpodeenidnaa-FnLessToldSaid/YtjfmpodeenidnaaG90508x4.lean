/- Contracts of functions of the program and of the reference, and plain lemmas on what they compute. No condition. -/
import Derived.Test.YtjfmpodeenidnaaG90508x0
import Derived.Test.YtjfmpodeenidnaaG90508x1
import Derived.Test.YtjfmpodeenidnaaG90508x3
import Derived.Test.YtjfmpodeenidnaaShortV
set_option maxHeartbeats 8000000
set_option maxRecDepth 100000
namespace Go.Proofs.Ytjfmpodeenidnaa.PC
open Go.RowKit Go.Proofs.Ytjfmpodeenidnaa.Short Go.Proofs.YtjfmpodeenidnaaW.PrintWords Go.Proofs.YtjfmpodeenidnaaW.PrintLast Go.Proofs.YtjfmpodeenidnaaW.PrintMore
attribute [local go_sem] max2_int min2_int max_two min_two max_three min_three max_four min_four   -- for this text's walks alone
set_option linter.unusedVariables false
set_option linter.unusedSimpArgs false

structure L24 (w0 w : World) (g p q : Nat) (s : List Int) (a b d : Int) (v : Value) (l : List S53) (nb : Nat → Prop) (x y : Int) (W : World) : Prop where
 ho : Kd.N k53 53 W w.heap.size (fun k_ => ((w.heap.size ≤ k_) ∧ (k_ ≠ p ∧ (k_ ≠ q ∧ k_ ≠ g))) ∧ nb k_) v l
 b1 : W.heap[p]? = some (.cells #[.int .i64 0, .int .i64 0, .int .i64 0, .slice none 0 0] 36 (0, 0))
 b2 : W.heap[q]? = some (.cells #[.int .i64 a, .int .i64 b, .int .i64 d, v] 36 (0, 0))
 hi : IsS118 w0 W g s x y
 hk : KeepBut w W g none
 hb : Below w0.heap.size w0 W
 n1 : p ≠ g
 n2 : q ≠ g
structure L25 (w0 w : World) (g p q : Nat) (s : List Int) (a b d : Int) (v : Value) (l : List S53) (u : Value) (lc : List S53) (nb : Nat → Prop) (x y : Int) (W : World) : Prop where
 ho : Kd.N k53 53 W w.heap.size (fun k_ => (((w.heap.size ≤ k_) ∧ (k_ ≠ p ∧ (k_ ≠ q ∧ k_ ≠ g))) ∧ some k_ ≠ u.ownBlock) ∧ nb k_) v l
 hc : Kd.N k53 53 W w.heap.size (fun k_ => ((w.heap.size ≤ k_) ∧ (some k_ ≠ v.ownBlock ∧ (k_ ≠ p ∧ (k_ ≠ q ∧ k_ ≠ g)))) ∧ nb k_) u lc
 b1 : W.heap[p]? = some (.cells #[.int .i64 0, .int .i64 0, .int .i64 0, .slice none 0 0] 36 (0, 0))
 b2 : W.heap[q]? = some (.cells #[.int .i64 a, .int .i64 b, .int .i64 d, v] 36 (0, 0))
 hi : IsS118 w0 W g s x y
 hk : KeepBut w W g none
 hb : Below w0.heap.size w0 W
 n1 : p ≠ g
 n2 : q ≠ g
section
variable {w0 w : World} {g p q : Nat} {s : List Int} {a b d x y x1 y1 : Int} {v u : Value} {l lc : List S53} {nb : Nat → Prop} {W W1 : World}
theorem L24.below (h : L24 w0 w g p q s a b d v l nb x y W) (hb : Below W.heap.size W W1) : L24 w0 w g p q s a b d v l nb x y W1 :=
 ⟨Kd.N_below h.ho hb, blk_below h.b1 hb, blk_below h.b2 hb, h.hi.below hb, h.hk.trans (KeepBut.of_below hb g none) (.inl rfl), below_then h.hb h.hb.size hb, h.n1, h.n2⟩
theorem L25.below (h : L25 w0 w g p q s a b d v l u lc nb x y W) (hb : Below W.heap.size W W1) : L25 w0 w g p q s a b d v l u lc nb x y W1 :=
 ⟨Kd.N_below h.ho hb, Kd.N_below h.hc hb, blk_below h.b1 hb, blk_below h.b2 hb, h.hi.below hb, h.hk.trans (KeepBut.of_below hb g none) (.inl rfl), below_then h.hb h.hb.size hb, h.n1, h.n2⟩
theorem L25.draw (h : L25 w0 w g p q s a b d v l u lc nb x y W) (hi : IsS118 w0 W1 g s x1 y1) (hb : Below w0.heap.size w0 W1) (hk : KeepBut W W1 g none) : L25 w0 w g p q s a b d v l u lc nb x1 y1 W1 :=
 ⟨Kd.N_keep h.ho hk (fun _ hk_ => hk_.1.1.2.2.2), Kd.N_keep h.hc hk (fun _ hk_ => hk_.1.2.2.2.2), hk.blk h.b1 h.n1 (by simp), hk.blk h.b2 h.n2 (by simp), hi, h.hk.trans hk (.inl rfl), hb, h.n1, h.n2⟩
theorem L24.copy (h : L24 w0 w g p q s a b d v l nb x y W) (hs : Kd.S k53 53 W1 W.heap.size (fun _ => True) u lc) (hb : Below W.heap.size W W1) (hn : ∀ k, W.heap.size ≤ k → nb k) : L25 w0 w g p q s a b d v l u lc nb x y W1 := by
 have h1 := h.below hb
 have hp := blk_lt h.b1
 have hq := blk_lt h.b2
 have hg := IsS118.lt h.hi
 have hw := h.hk.1
 refine ⟨?_, ?_, h1.b1, h1.b2, h1.hi, h1.hk, h1.hb, h.n1, h.n2⟩
 ·exact Kd.N_mono (Kd.N_below (Kd.N_bound h.ho) hb) (fun k_ hk_ => ⟨⟨hk_.1.1, fun e => by have := Kd.S_base hs k_ e.symm; have := hk_.2; omega⟩, hk_.1.2⟩)
 ·refine Kd.N_lower (Kd.N_mono (Kd.S_N (Kd.S_bound hs)) (fun k_ hk_ => ?_)) hw
  have hk2 := hk_.2.1
  exact ⟨⟨by omega, fun e => by have := Kd.N_lt h.ho k_ e.symm; omega, by omega, by omega, by omega⟩, hn k_ hk2⟩
theorem L24.box (h : L24 w0 w g p q s a b d v l (fun _ => True) x y W) (hb : Below W.heap.size W W1) (r : Nat) (hr : r = W.heap.size) : L24 w0 w g p q s a b d v l (fun k_ => k_ ≠ r) x y W1 :=
 ⟨Kd.N_mono (Kd.N_below (Kd.N_bound h.ho) hb) (fun k_ hk_ => ⟨hk_.1.1, by have := hk_.2; omega⟩), (h.below hb).b1, (h.below hb).b2, (h.below hb).hi, (h.below hb).hk, (h.below hb).hb, h.n1, h.n2⟩
theorem L25.box (h : L25 w0 w g p q s a b d v l u lc (fun _ => True) x y W) (hb : Below W.heap.size W W1) (r : Nat) (hr : r = W.heap.size) : L25 w0 w g p q s a b d v l u lc (fun k_ => k_ ≠ r) x y W1 :=
 ⟨Kd.N_mono (Kd.N_below (Kd.N_bound h.ho) hb) (fun k_ hk_ => ⟨hk_.1.1, by have := hk_.2; omega⟩), Kd.N_mono (Kd.N_below (Kd.N_bound h.hc) hb) (fun k_ hk_ => ⟨hk_.1.1, by have := hk_.2; omega⟩), (h.below hb).b1, (h.below hb).b2, (h.below hb).hi, (h.below hb).hk, (h.below hb).hb, h.n1, h.n2⟩
theorem L25.elem (h : L25 w0 w g p q s a b d v l u lc nb x y W) (i : Int) (h0 : 0 ≤ i) (h1 : i < (lc.length : Int)) :
 ∃ ad co A0 c0 A1 c1, u = .slice (some ad) lc.length co ∧ W.cell? (ad.add (i.toNat * 4)) = some (.slice A0 (rd_T53 lc i).f0.length c0) ∧ W.cell? ⟨(ad.add (i.toNat * 4)).block, (ad.add (i.toNat * 4)).off + 1, none⟩ = some (.slice A1 (rd_T53 lc i).f1.length c1) ∧ W.cell? ⟨(ad.add (i.toNat * 4)).block, (ad.add (i.toNat * 4)).off + 2, none⟩ = some (.int .i64 (rd_T53 lc i).f2) ∧ W.cell? ⟨(ad.add (i.toNat * 4)).block, (ad.add (i.toNat * 4)).off + 3, none⟩ = some (.int .i64 (rd_T53 lc i).f3) := by
 obtain ⟨A, co, rfl⟩ := Kd.N_slice h.hc
 obtain ⟨ad, A0, c0, A1, c1, e, h2, h3, h4, h5, _⟩ := at_T53 (Kd.N_reads' h.hc).2.2 i h0 h1
 subst e
 exact ⟨ad, co, A0, c0, A1, c1, rfl, h2, h3, h4, h5⟩
theorem L25.elemV {ad : Addr} {co c0 c1 : Nat} {A0 A1 : Option Addr} (h : L25 w0 w g p q s a b d v l (.slice (some ad) lc.length co) lc nb x y W) (i : Int) (h0 : 0 ≤ i) (h1 : i < (lc.length : Int))
 (hx0 : W.cell? (ad.add (i.toNat * 4)) = some (.slice A0 (rd_T53 lc i).f0.length c0)) (hx1 : W.cell? ⟨(ad.add (i.toNat * 4)).block, (ad.add (i.toNat * 4)).off + 1, none⟩ = some (.slice A1 (rd_T53 lc i).f1.length c1)) :
 Kd.V (Kd.int .i64) 3 W w.heap.size (fun k_ => (((w.heap.size ≤ k_) ∧ (some k_ ≠ v.ownBlock ∧ (k_ ≠ p ∧ (k_ ≠ q ∧ k_ ≠ g)))) ∧ nb k_) ∧ some k_ ≠ (Value.slice (some ad) lc.length co).ownBlock) (.slice A0 (rd_T53 lc i).f0.length c0) (rd_T53 lc i).f0 ∧
 Kd.V k100 100 W w.heap.size (fun k_ => (((w.heap.size ≤ k_) ∧ (some k_ ≠ v.ownBlock ∧ (k_ ≠ p ∧ (k_ ≠ q ∧ k_ ≠ g)))) ∧ nb k_) ∧ some k_ ≠ (Value.slice (some ad) lc.length co).ownBlock) (.slice A1 (rd_T53 lc i).f1.length c1) (rd_T53 lc i).f1 := by
 obtain ⟨ce, hce, hMe, hcc⟩ := Kd.N_get h.hc z53 i h0 h1
 obtain ⟨ua0, uc0, ua1, uc1, rfl, ul0, ge0, ul1, ge1⟩ := k53_openF hMe
 have hv0 := hcc 0 _ rfl
 rw [Nat.add_zero] at hv0
 replace hv0 := Option.some.inj (hv0.symm.trans hx0)
 injection hv0 with e1 _ e2
 rw [e1] at ge0
 rw [e2] at ul0
 have hv1 := hcc 1 _ rfl
 rw [add_field _ _ 1 (by omega)] at hv1
 replace hv1 := Option.some.inj (hv1.symm.trans hx1)
 injection hv1 with e3 _ e4
 rw [e3] at ge1
 rw [e4] at ul1
 exact ⟨Kd.V_mk ul0 ge0, Kd.V_mk ul1 ge1⟩
end
mutual
def spec_l24Policy.l0 : Nat → Int → List Int → Int → Int → Int → Int → Int → List (S53) → Option (Int × Int × Int × (List (S53)) × Int × Int)
 | 0, _, _, _, _, _, _, _, _ => none
 | k + 1, x4, x1000, x1001, x1002, x395000, x395001, x395002, x395003 => (spec_l01Below.f x1000 x1001 x1002 4).bind fun bt395 => (if x4 < bt395.1 then (if (x395003.length : Int) > 0 then (spec_l24Policy.j1 k x4 (decide ((x395003.length : Int) < 10)) x1000 bt395.2.1 bt395.2.2 x395000 x395001 x395002 x395003) else (spec_l24Policy.j1 k x4 false x1000 bt395.2.1 bt395.2.2 x395000 x395001 x395002 x395003)) else (spec_l24Policy.j1 k x4 false x1000 bt395.2.1 bt395.2.2 x395000 x395001 x395002 x395003))
def spec_l24Policy.j1 : Nat → Int → Bool → List Int → Int → Int → Int → Int → Int → List (S53) → Option (Int × Int × Int × (List (S53)) × Int × Int)
 | 0, _, _, _, _, _, _, _, _, _ => none
 | k + 1, x4, x24, x1000, x1001, x1002, x395000, x395001, x395002, x395003 => if x24 = true then ((spec_l09Copy.f k x395000 x395001 x395002 x395003).bind fun bt398 => ((spec_l01Below.f x1000 x1001 x1002 (x395003.length : Int)).bind fun bt404 => (if 0 ≤ bt404.1 then (if bt404.1 < (bt398.2.2.2.length : Int) then ((spec_l01Below.f x1000 bt404.2.1 bt404.2.2 4).bind fun bt409 => (if bt409.1 = 0 then ((some (([] : List (S100)) : List (S100))).bind fun y412 => (if 0 ≤ (wrap64 ((((rd_T53 bt398.2.2.2 bt404.1).f1).length : Int) / 2)) then (if (wrap64 ((((rd_T53 bt398.2.2.2 bt404.1).f1).length : Int) / 2)) ≤ (((rd_T53 bt398.2.2.2 bt404.1).f1).length : Int) then ((some (((rd_T53 bt398.2.2.2 bt404.1).f1).take ((wrap64 ((((rd_T53 bt398.2.2.2 bt404.1).f1).length : Int) / 2)) : Int).toNat : List (S100))).bind fun y415 => (if y412.length + y415.length < 2932031007402 then (if x395003.length < 2199023255552 then (spec_l24Policy.l0 k (wrap64 (x4 + 1)) x1000 bt409.2.1 bt409.2.2 x395000 x395001 x395002 (x395003 ++ [(⟨(rd_T53 bt398.2.2.2 bt404.1).f0, (y412 ++ y415), (rd_T53 bt398.2.2.2 bt404.1).f2, (rd_T53 bt398.2.2.2 bt404.1).f3⟩ : S53)])) else (none)) else (none))) else (none)) else (none))) else (if bt409.1 = 1 then (if x395003.length < 2199023255552 then (spec_l24Policy.l0 k (wrap64 (x4 + 1)) x1000 bt409.2.1 bt409.2.2 x395000 x395001 x395002 (x395003 ++ [(⟨(([] : List Int)), (rd_T53 bt398.2.2.2 bt404.1).f1, (rd_T53 bt398.2.2.2 bt404.1).f2, (rd_T53 bt398.2.2.2 bt404.1).f3⟩ : S53)])) else (none)) else (if bt409.1 = 2 then (if x395003.length < 2199023255552 then (spec_l24Policy.l0 k (wrap64 (x4 + 1)) x1000 bt409.2.1 bt409.2.2 x395000 x395001 x395002 (x395003 ++ [(⟨(rd_T53 bt398.2.2.2 bt404.1).f0, (rd_T53 bt398.2.2.2 bt404.1).f1, x395001, x395002⟩ : S53)])) else (none)) else (if x395003.length < 2199023255552 then (spec_l24Policy.l0 k (wrap64 (x4 + 1)) x1000 bt409.2.1 bt409.2.2 x395000 x395001 x395002 (x395003 ++ [(⟨(rd_T53 bt398.2.2.2 bt404.1).f0, (rd_T53 bt398.2.2.2 bt404.1).f1, (rd_T53 bt398.2.2.2 bt404.1).f2, (rd_T53 bt398.2.2.2 bt404.1).f3⟩ : S53)])) else (none)))))) else (none)) else (none)))) else (some (x395000, x395001, x395002, x395003, x1001, x1002))
end
def spec_l24Policy.f (k : Nat) (s0_0 : List Int) (s0_1 : Int) (s0_2 : Int) : Option (Int × Int × Int × (List (S53)) × Int × Int) := (spec_l09Policy.f k s0_0 s0_1 s0_2).bind fun bt380 => ((spec_l09Copy.f k bt380.1 bt380.2.1 bt380.2.2.1 bt380.2.2.2.1).bind fun bt388 => (spec_l24Policy.l0 k 0 s0_0 bt380.2.2.2.2.1 bt380.2.2.2.2.2 bt388.1 bt388.2.1 bt388.2.2.1 bt388.2.2.2))
theorem spec_l24Policy.mono_l : ∀ k, (∀ y0 y1 y2 y3 y4 y5 y6 y7, LeO (spec_l24Policy.l0 k y0 y1 y2 y3 y4 y5 y6 y7) (spec_l24Policy.l0 (k + 1) y0 y1 y2 y3 y4 y5 y6 y7)) ∧ (∀ y0 y1 y2 y3 y4 y5 y6 y7 y8, LeO (spec_l24Policy.j1 k y0 y1 y2 y3 y4 y5 y6 y7 y8) (spec_l24Policy.j1 (k + 1) y0 y1 y2 y3 y4 y5 y6 y7 y8))
 | 0 => ⟨fun _ _ _ _ _ _ _ _ r h => by simp [spec_l24Policy.l0] at h, fun _ _ _ _ _ _ _ _ _ r h => by simp [spec_l24Policy.j1] at h⟩
 | k + 1 => by
  obtain ⟨ih0, ih1⟩ := spec_l24Policy.mono_l k
  refine ⟨?_, ?_⟩
  ·intro y0 y1 y2 y3 y4 y5 y6 y7
   unfold spec_l24Policy.l0
   have m0 := @spec_l09Copy.mono
   have m1 := @spec_l09Policy.mono
   exact mo_
  ·intro y0 y1 y2 y3 y4 y5 y6 y7 y8
   unfold spec_l24Policy.j1
   have m0 := @spec_l09Copy.mono
   have m1 := @spec_l09Policy.mono
   exact mo_
theorem spec_l24Policy.mono : ∀ a0 a1 a2 k, LeO (spec_l24Policy.f k a0 a1 a2) (spec_l24Policy.f (k + 1) a0 a1 a2) := by
 intro a0 a1 a2 k
 obtain ⟨ih0, ih1⟩ := spec_l24Policy.mono_l k
 unfold spec_l24Policy.f
 have m0 := @spec_l09Copy.mono
 have m1 := @spec_l09Policy.mono
 exact mo_
theorem spec_l24Policy.calls (k : Nat) (g : Nat) (s0_0 : List Int) (s0_1 : Int) (s0_2 : Int) (r1 : Int) (r2 : Int) (r3 : Int) (r4 : List (S53)) (r5 : Int) (r6 : Int) (w0 w : World) (hI : IsS118 w0 w g s0_0 s0_1 s0_2) (hB : Below w0.heap.size w0 w) (h : spec_l24Policy.f k s0_0 s0_1 s0_2 = some (r1, r2, r3, r4, r5, r6)) :
 Calls Try.prog 63 #[.pointer (some ⟨g, 0, none⟩)] w fun e w' => ∃ v3_ : Value, e = .returned (.agg #[.int .i64 r1, .int .i64 r2, .int .i64 r3, v3_]) ∧ Kd.N k53 53 w' w.heap.size (fun k_ => (w.heap.size ≤ k_)) v3_ r4 ∧ IsS118 w0 w' g s0_0 r5 r6 ∧ Below w0.heap.size w0 w' ∧ KeepBut w w' g none := by
 have hu36 := Try.underlying36
 have hu53 := Try.underlying53
 have HI0 := Aside0.mk hI
 have HK := Aside0.mk (KeepBut.refl w g none)
 have HL := Aside0.mk hB.size
 clear hI
 have HW0 := Aside0.mk hB.size
 have HB := Aside0.mk hB
 clear hB
 have H := h
 unfold spec_l24Policy.f at H
 clear h
 replace H := bs_ H
 obtain ⟨⟨t380, t381, t382, t383, t386, t387⟩, A2, H⟩ := H
 try dsimp only at H
 replace H := bs_ H
 obtain ⟨⟨t388, t389, t390, t391⟩, A3, H⟩ := H
 try dsimp only at H
 have H' := Aside0.mk H
 clear H
 go_enter Try.func63, Try.ntmps63
 go_wp2_with (first | ((with_reducible refine gate_dst (N := 2) rfl ?_); (try (refine gate_guard (by rfl) ?_; dsimp only)); refine bx_ 2 36 #[.int .i64 0, .int .i64 0, .int .i64 0, .slice none 0 0] ?_; intro gb379 hg w4 hbox hb; replace HB := Aside0.mk (below_step bi0_ hb); have BK379 := Aside0.mk (hbox); have GW379 := Aside0.mk ((by rw [hg]; exact (keep_size (w := w) (g := g) (row := none) hkx_) : w.heap.size ≤ gb379)); have GE379 := Aside0.mk ((Nat.le_trans HW0.out (by rw [hg]; exact (keep_size (w := w) (g := g) (row := none) hkx_) : w.heap.size ≤ gb379) : w0.heap.size ≤ gb379)); replace HK := Aside0.mk (KeepBut.trans hkx_ (KeepBut.of_below hb g none) (.inl rfl)); have NB0_379 := Aside0.mk (il_ hg (IsS118.lt (show IsS118 w0 _ g s0_0 s0_1 s0_2 from is0_))); have NB379_0 := Aside0.mk (ig_ hg (IsS118.lt (show IsS118 w0 _ g s0_0 s0_1 s0_2 from is0_))); replace HI0 := Aside0.mk (IsS118.below is0_ hb); clear hb hbox hg) | ((with_reducible refine gate_callee (f := 64) rfl ?_); refine gs_ (some 7) Try.func64 #[.pointer (some ⟨g, 0, none⟩)] ?_; (with_reducible refine (spec_l09Policy.calls k g s0_0 s0_1 s0_2 t380 t381 t382 t383 t386 t387 w0 _ ?side1 ?side2 A2.out).mono ?_); (case side1 => exact is0_); (case side2 => exact bi0_); rintro e w5 ⟨v384, rfl, ho0, hi, hb, hk⟩; refine ⟨_, rfl, ?_⟩; have HO385 := Aside0.mk (Kd.N_lower (Kd.N_mono (ok' := fun k_ => (w.heap.size ≤ k_) ∧ k_ ≠ gb379 ∧ k_ ≠ g) (Kd.S_N (Kd.S_bound ho0)) (fun k_ hk_ => ⟨(Nat.le_trans (keep_size (w := w) (g := g) (row := none) hkx_) hk_.2.1), (fb_ BK379.out k_ hk_.2.1), (IsS118.fresh is0_ k_ hk_.2.1)⟩)) (keep_size (w := w) (g := g) (row := none) hkx_)); replace BK379 := Aside0.mk (KeepBut.blk hk (g' := gb379) (o := .cells #[.int .i64 0, .int .i64 0, .int .i64 0, .slice none 0 0] 36 (0, 0)) (bk_ BK379.out) NB379_0.out (by simp)); replace HK := Aside0.mk (KeepBut.trans (by repeat (first | (with_reducible first | exact HK.out | apply KeepBut.set_ | apply keep_drewN | apply keep_drew | apply keep_alloc | refine keep_far ?_ GW379.out _) | exact HK.out)) hk (.inl rfl)); replace HB := Aside0.mk (hb); replace HI0 := Aside0.mk (hi); (try clear hb); (try clear hk); (try clear hi); (try clear ho0); obtain ⟨Ao6, co6, eo6⟩ := Kd.N_slice HO385.out; subst eo6) | ((with_reducible refine gate_callee (f := 83) rfl ?_); refine gs_ (some 8) Try.func83 #[.agg #[.int .i64 t380, .int .i64 t381, .int .i64 t382, .slice Ao6 t383.length co6]] ?_; (with_reducible refine (spec_l09Copy.calls k t380 t381 t382 _ _ t383 t388 t389 t390 t391 _ ?side1 ?side2 A3.out).mono ?_); (case side1 => exact cs_ ((Kd.N_reads' HO385.out).2.2)); (case side2 => exact (Kd.N_reads' HO385.out).2.1); rintro e w7 ⟨v392, rfl, ho0, hb⟩; refine ⟨_, rfl, ?_⟩; have HO393 := Aside0.mk (Kd.N_lower (Kd.N_mono (ok' := fun k_ => (w.heap.size ≤ k_) ∧ some k_ ≠ (.slice Ao6 t383.length co6 : Value).ownBlock ∧ k_ ≠ gb379 ∧ k_ ≠ g) (Kd.S_N (Kd.S_bound ho0)) (fun k_ hk_ => ⟨(Nat.le_trans (keep_size (w := w) (g := g) (row := none) hkx_) hk_.2.1), (Kd.fresh' (Kd.N_lt (na_ HO385.out)) k_ hk_.2.1), (fb_ BK379.out k_ hk_.2.1), (IsS118.fresh is0_ k_ hk_.2.1)⟩)) (keep_size (w := w) (g := g) (row := none) hkx_)); replace HO385 := Aside0.mk (Kd.N_elder' (na_ HO385.out) (Kd.S_base ho0) hb); replace BK379 := bb0_ BK379.out hb; replace HK := Aside0.mk (KeepBut.trans (by repeat (first | (with_reducible first | exact HK.out | apply KeepBut.set_ | apply keep_drewN | apply keep_drew | apply keep_alloc | refine keep_far ?_ GW379.out _) | exact HK.out)) (KeepBut.of_below hb g none) (.inl rfl)); replace HB := Aside0.mk (below_step bi0_ hb); replace HI0 := Aside0.mk (IsS118.below is0_ hb); (try clear hb); (try clear ho0)) | ((with_reducible refine gate_dst (N := 3) rfl ?_); (try (refine gate_guard (by rfl) ?_; dsimp only)); refine bx_ 3 36 #[.int .i64 0, .int .i64 0, .int .i64 0, .slice none 0 0] ?_; intro gb394 hg w8 hbox hb; replace HO385 := Aside0.mk (Kd.N_below (Kd.N_elderB (na_ HO385.out) gb394 (Nat.le_of_eq hg.symm)) hb); replace HO393 := Aside0.mk (Kd.N_below (Kd.N_elderB (na_ HO393.out) gb394 (Nat.le_of_eq hg.symm)) hb); replace HB := Aside0.mk (below_step bi0_ hb); have BK394 := Aside0.mk (hbox); have GW394 := Aside0.mk ((by rw [hg]; exact (keep_size (w := w) (g := g) (row := none) hkx_) : w.heap.size ≤ gb394)); have GE394 := Aside0.mk ((Nat.le_trans HW0.out (by rw [hg]; exact (keep_size (w := w) (g := g) (row := none) hkx_) : w.heap.size ≤ gb394) : w0.heap.size ≤ gb394)); replace HK := Aside0.mk (KeepBut.trans (by repeat (first | (with_reducible first | exact HK.out | apply KeepBut.set_ | apply keep_drewN | apply keep_drew | apply keep_alloc | refine keep_far ?_ GW379.out _) | exact HK.out)) (KeepBut.of_below hb g none) (.inl rfl)); have NB379_394 := Aside0.mk (nl_ BK379.out hg); have NB394_379 := Aside0.mk (ng_ BK379.out hg); replace BK379 := bb0_ BK379.out hb; have NB0_394 := Aside0.mk (il_ hg (IsS118.lt (show IsS118 w0 _ g s0_0 t386 t387 from is0_))); have NB394_0 := Aside0.mk (ig_ hg (IsS118.lt (show IsS118 w0 _ g s0_0 t386 t387 from is0_))); replace HI0 := Aside0.mk (IsS118.below is0_ hb); clear hb hbox hg; have hnb9 := NB394_379.out; have hnc9 := NB379_394.out; have hnb10 := NB394_0.out; have hnc10 := NB0_394.out; obtain ⟨hcz11_0, hcz11_1, hcz11_2, hcz11_3, hfz11_0, hfz11_1, hfz11_2, hfz11_3⟩ := cf4_ BK394.out; obtain ⟨Ao12, co12, eo12⟩ := Kd.N_slice HO393.out; subst eo12))
 go_loopg [4] k (fun kq v4 w' => ∃ (x4_1 : Int) (x1001_1 : Int) (x1002_1 : Int) (x395003_1 : List (S53)) (u395003 : Value), v4 = .int .i64 x4_1 ∧ Aside0 (spec_l24Policy.l0 kq x4_1 s0_0 x1001_1 x1002_1 t388 t389 t390 x395003_1 = some (r1, r2, r3, r4, r5, r6)) ∧ Aside0 (kq ≤ k) ∧ Aside0 (Kd.N k53 53 w' w.heap.size (fun k_ => (w.heap.size ≤ k_) ∧ k_ ≠ gb379 ∧ k_ ≠ gb394 ∧ k_ ≠ g) u395003 x395003_1) ∧ Aside0 (w'.heap[gb379]? = some (.cells #[.int .i64 0, .int .i64 0, .int .i64 0, (.slice none 0 0)] 36 (0, 0))) ∧ Aside0 (w'.heap[gb394]? = some (.cells #[.int .i64 t388, .int .i64 t389, .int .i64 t390, u395003] 36 (0, 0))) ∧ Aside0 (IsS118 w0 w' g s0_0 x1001_1 x1002_1) ∧ Aside0 (KeepBut w w' g none) ∧ Aside0 (Below w0.heap.size w0 w'))
 case atStart => exact ⟨(0), (t386), (t387), (t391), (.slice Ao12 t391.length co12), (sr_), H', ⟨Nat.le_refl _⟩, ⟨by (with_reducible repeat (first | apply Kd.N_alloc | apply Kd.N_drewN | apply Kd.N_drew)); exact Kd.N_mono (Kd.N_far (p := ⟨gb394, 3, none⟩) (Kd.N_far (p := ⟨gb394, 2, none⟩) (Kd.N_far (p := ⟨gb394, 1, none⟩) (Kd.N_far (p := ⟨gb394, 0, none⟩) (Kd.N_mono HO393.out (fun k_ hk => (⟨hk, hk.2⟩ : _ ∧ k_ ≠ gb394))) (fun _ hk => hk.2) (.int .i64 t388)) (fun _ hk => hk.2) (.int .i64 t389)) (fun _ hk => hk.2) (.int .i64 t390)) (fun _ hk => hk.2) (.slice Ao12 t391.length co12)) (fun _ hk => ⟨hk.1.1.1, ⟨hk.1.1.2.2.1, ⟨hk.1.2, hk.1.1.2.2.2⟩⟩⟩)⟩, ⟨bp1_ BK379.out NB379_394.out⟩, ⟨bp0_ BK394.out⟩, ⟨is0_⟩, ⟨hkx_⟩, ⟨bi0_⟩⟩
 clear H'
 try clear hcz11_0
 try clear hcz11_1
 try clear hcz11_2
 try clear hcz11_3
 try clear hfz11_0
 try clear hfz11_1
 try clear hfz11_2
 try clear hfz11_3
 obtain ⟨x4_1, x1001_1, x1002_1, x395003_1, u395003, rfl, HA, HK1, HO_395003, BK379, BK394, HI0, HK, HB⟩ := hrel
 cases gk with
 | zero => exact absurd HA.out (by simp [spec_l24Policy.l0])
 | succ k1 => ?_
 have H := HA.out
 clear HA
 simp only [spec_l24Policy.l0] at H
 have HC13 := Aside0.mk H
 clear H
 go_upto_region 3 with (fail)
 go_cut [24] (fun v24 wc => ∃ (kq : Nat) (x24_12 : Bool) (x1001_12 : Int) (x1002_12 : Int), v24 = .bool x24_12 ∧ Aside0 (spec_l24Policy.j1 kq x4_1 x24_12 s0_0 x1001_12 x1002_12 t388 t389 t390 x395003_1 = some (r1, r2, r3, r4, r5, r6)) ∧ Aside0 (kq ≤ k1) ∧ Aside0 (Kd.N k53 53 wc w.heap.size (fun k_ => (w.heap.size ≤ k_) ∧ k_ ≠ gb379 ∧ k_ ≠ gb394 ∧ k_ ≠ g) u395003 x395003_1) ∧ Aside0 (wc.heap[gb379]? = some (.cells #[.int .i64 0, .int .i64 0, .int .i64 0, (.slice none 0 0)] 36 (0, 0))) ∧ Aside0 (wc.heap[gb394]? = some (.cells #[.int .i64 t388, .int .i64 t389, .int .i64 t390, u395003] 36 (0, 0))) ∧ Aside0 (IsS118 w0 wc g s0_0 x1001_12 x1002_12) ∧ Aside0 (KeepBut w wc g none) ∧ Aside0 (Below w0.heap.size w0 wc))
 case first =>
  have H := HC13.out
  clear HC13
  replace H := bs_ H
  obtain ⟨⟨t395, t396, t397⟩, A14, H⟩ := H
  try dsimp only at H
  by_cases c15 : x4_1 < t395
  rotate_left
  ·rw [if_neg c15] at H
   have c15b0 := decide_eq_false c15
   clear c15
   (first | rw [c15b0] | (simp only [i64_w, i32_w]; rw [c15b0]) | skip)
   have H' := Aside0.mk H
   clear H
   go_wp2_with (first | ((with_reducible refine gate_callee (f := 62) rfl ?_); refine gs_ (some 11) Try.func62 #[.pointer (some ⟨g, 0, none⟩), .int .i64 4] ?_; (with_reducible refine (spec_l01Below.calls g s0_0 x1001_1 x1002_1 4 t395 t396 t397 w0 _ ?side1 ?side2 A14.out).mono ?_); (case side1 => exact is0_); (case side2 => exact bi0_); rintro e w27 ⟨rfl, hi, hb, hk⟩; refine ⟨_, rfl, ?_⟩; replace HO_395003 := Aside0.mk (Kd.N_mono (Kd.N_keep (Kd.N_mono (ok := fun k_ => (((w.heap.size ≤ k_)) ∧ (k_ ≠ gb379 ∧ (k_ ≠ gb394 ∧ k_ ≠ g)))) (na_ HO_395003.out) (fun k_ hk_ => (⟨hk_, hk_.2.2.2⟩ : _ ∧ k_ ≠ g))) hk (fun _ h => h.2)) (fun _ h => h.1)); replace BK379 := Aside0.mk (KeepBut.blk hk (g' := gb379) (o := .cells #[.int .i64 0, .int .i64 0, .int .i64 0, .slice none 0 0] 36 (0, 0)) (bk_ BK379.out) NB379_0.out (by simp)); replace BK394 := Aside0.mk (KeepBut.blk hk (g' := gb394) (o := .cells #[.int .i64 t388, .int .i64 t389, .int .i64 t390, u395003] 36 (0, 0)) (bk_ BK394.out) NB394_0.out (by simp)); replace HK := Aside0.mk (KeepBut.trans (by repeat (first | (with_reducible first | exact HK.out | apply KeepBut.set_ | apply keep_drewN | apply keep_drew | apply keep_alloc | refine keep_far ?_ GW379.out _ | refine keep_far ?_ GW394.out _) | exact HK.out)) hk (.inl rfl)); replace HB := Aside0.mk (hb); replace HI0 := Aside0.mk (hi); (try clear hb); (try clear hk); (try clear hi)))
   go_meet
   case rel => exact ⟨_, (false), (t396), (t397), (sr_), H', ⟨by have := HK1.out; first | omega | exact Nat.le_refl _⟩, ⟨by (with_reducible repeat (first | apply Kd.N_alloc | apply Kd.N_drewN | apply Kd.N_drew)); exact HO_395003.out⟩, ⟨bk_ BK379.out⟩, ⟨bk_ BK394.out⟩, ⟨is0_⟩, ⟨hkx_⟩, ⟨bi0_⟩⟩
  rw [if_pos c15] at H
  have c15b0 := decide_eq_true c15
  clear c15
  (first | rw [c15b0] | (simp only [i64_w, i32_w]; rw [c15b0]) | skip)
  by_cases c16 : (x395003_1.length : Int) > 0
  rotate_left
  ·rw [if_neg c16] at H
   have c16b0 := decide_eq_false c16
   have c16b1 : decide (0 < x395003_1.length) = false := decide_eq_false (by omega)
   clear c16
   have H' := Aside0.mk H
   clear H
   go_wp2_with (first | ((with_reducible refine gate_callee (f := 62) rfl ?_); refine gs_ (some 11) Try.func62 #[.pointer (some ⟨g, 0, none⟩), .int .i64 4] ?_; (with_reducible refine (spec_l01Below.calls g s0_0 x1001_1 x1002_1 4 t395 t396 t397 w0 _ ?side1 ?side2 A14.out).mono ?_); (case side1 => exact is0_); (case side2 => exact bi0_); rintro e w22 ⟨rfl, hi, hb, hk⟩; refine ⟨_, rfl, ?_⟩; replace HO_395003 := Aside0.mk (Kd.N_mono (Kd.N_keep (Kd.N_mono (ok := fun k_ => (((w.heap.size ≤ k_)) ∧ (k_ ≠ gb379 ∧ (k_ ≠ gb394 ∧ k_ ≠ g)))) (na_ HO_395003.out) (fun k_ hk_ => (⟨hk_, hk_.2.2.2⟩ : _ ∧ k_ ≠ g))) hk (fun _ h => h.2)) (fun _ h => h.1)); replace BK379 := Aside0.mk (KeepBut.blk hk (g' := gb379) (o := .cells #[.int .i64 0, .int .i64 0, .int .i64 0, .slice none 0 0] 36 (0, 0)) (bk_ BK379.out) NB379_0.out (by simp)); replace BK394 := Aside0.mk (KeepBut.blk hk (g' := gb394) (o := .cells #[.int .i64 t388, .int .i64 t389, .int .i64 t390, u395003] 36 (0, 0)) (bk_ BK394.out) NB394_0.out (by simp)); replace HK := Aside0.mk (KeepBut.trans (by repeat (first | (with_reducible first | exact HK.out | apply KeepBut.set_ | apply keep_drewN | apply keep_drew | apply keep_alloc | refine keep_far ?_ GW379.out _ | refine keep_far ?_ GW394.out _) | exact HK.out)) hk (.inl rfl)); replace HB := Aside0.mk (hb); replace HI0 := Aside0.mk (hi); (try clear hb); (try clear hk); (try clear hi); have hnb23 := NB394_379.out; have hnc23 := NB379_394.out; have hnb24 := NB394_0.out; have hnc24 := NB0_394.out; obtain ⟨hcz25_0, hcz25_1, hcz25_2, hcz25_3, hfz25_0, hfz25_1, hfz25_2, hfz25_3⟩ := cf4_ BK394.out; obtain ⟨Ao26, co26, eo26⟩ := Kd.N_slice HO_395003.out; subst eo26))
   go_meet
   case rel => exact ⟨_, (false), (t396), (t397), (sr_), H', ⟨by have := HK1.out; first | omega | exact Nat.le_refl _⟩, ⟨by (with_reducible repeat (first | apply Kd.N_alloc | apply Kd.N_drewN | apply Kd.N_drew)); exact HO_395003.out⟩, ⟨bk_ BK379.out⟩, ⟨bk_ BK394.out⟩, ⟨is0_⟩, ⟨hkx_⟩, ⟨bi0_⟩⟩
  rw [if_pos c16] at H
  have c16b0 := decide_eq_true c16
  have c16b1 : decide (0 < x395003_1.length) = true := decide_eq_true (by omega)
  clear c16
  have H' := Aside0.mk H
  clear H
  go_wp2_with (first | ((with_reducible refine gate_callee (f := 62) rfl ?_); refine gs_ (some 11) Try.func62 #[.pointer (some ⟨g, 0, none⟩), .int .i64 4] ?_; (with_reducible refine (spec_l01Below.calls g s0_0 x1001_1 x1002_1 4 t395 t396 t397 w0 _ ?side1 ?side2 A14.out).mono ?_); (case side1 => exact is0_); (case side2 => exact bi0_); rintro e w17 ⟨rfl, hi, hb, hk⟩; refine ⟨_, rfl, ?_⟩; replace HO_395003 := Aside0.mk (Kd.N_mono (Kd.N_keep (Kd.N_mono (ok := fun k_ => (((w.heap.size ≤ k_)) ∧ (k_ ≠ gb379 ∧ (k_ ≠ gb394 ∧ k_ ≠ g)))) (na_ HO_395003.out) (fun k_ hk_ => (⟨hk_, hk_.2.2.2⟩ : _ ∧ k_ ≠ g))) hk (fun _ h => h.2)) (fun _ h => h.1)); replace BK379 := Aside0.mk (KeepBut.blk hk (g' := gb379) (o := .cells #[.int .i64 0, .int .i64 0, .int .i64 0, .slice none 0 0] 36 (0, 0)) (bk_ BK379.out) NB379_0.out (by simp)); replace BK394 := Aside0.mk (KeepBut.blk hk (g' := gb394) (o := .cells #[.int .i64 t388, .int .i64 t389, .int .i64 t390, u395003] 36 (0, 0)) (bk_ BK394.out) NB394_0.out (by simp)); replace HK := Aside0.mk (KeepBut.trans (by repeat (first | (with_reducible first | exact HK.out | apply KeepBut.set_ | apply keep_drewN | apply keep_drew | apply keep_alloc | refine keep_far ?_ GW379.out _ | refine keep_far ?_ GW394.out _) | exact HK.out)) hk (.inl rfl)); replace HB := Aside0.mk (hb); replace HI0 := Aside0.mk (hi); (try clear hb); (try clear hk); (try clear hi); have hnb18 := NB394_379.out; have hnc18 := NB379_394.out; have hnb19 := NB394_0.out; have hnc19 := NB0_394.out; obtain ⟨hcz20_0, hcz20_1, hcz20_2, hcz20_3, hfz20_0, hfz20_1, hfz20_2, hfz20_3⟩ := cf4_ BK394.out; obtain ⟨Ao21, co21, eo21⟩ := Kd.N_slice HO_395003.out; subst eo21))
  go_meet
  case rel => exact ⟨_, (decide ((x395003_1.length : Int) < 10)), (t396), (t397), (sr_), H', ⟨by have := HK1.out; first | omega | exact Nat.le_refl _⟩, ⟨by (with_reducible repeat (first | apply Kd.N_alloc | apply Kd.N_drewN | apply Kd.N_drew)); exact HO_395003.out⟩, ⟨bk_ BK379.out⟩, ⟨bk_ BK394.out⟩, ⟨is0_⟩, ⟨hkx_⟩, ⟨bi0_⟩⟩
 clear HC13
 try clear hcz11_0
 try clear hcz11_1
 try clear hcz11_2
 try clear hcz11_3
 try clear hfz11_0
 try clear hfz11_1
 try clear hfz11_2
 try clear hfz11_3
 obtain ⟨kq, x24_12, x1001_12, x1002_12, rfl, HA, HJ12, HO_395003, BK379, BK394, HI0, HK, HB⟩ := hcut
 cases kq with
 | zero => exact absurd HA.out (by simp [spec_l24Policy.j1])
 | succ kj12 => ?_
 have H := HA.out
 clear HA
 simp only [spec_l24Policy.j1] at H
 by_cases c28 : x24_12 = true
 rotate_left
 ·replace c28 := Bool.eq_false_iff.mpr c28
  subst c28
  rw [nf_] at H
  simp only [Option.some.injEq, Prod.mk.injEq] at H
  obtain ⟨rfl, rfl, rfl, rfl, rfl, rfl⟩ := H
  have hnb140 := NB394_379.out
  have hnc140 := NB379_394.out
  have hnb141 := NB394_0.out
  have hnc141 := NB0_394.out
  obtain ⟨hcz142_0, hcz142_1, hcz142_2, hcz142_3, hfz142_0, hfz142_1, hfz142_2, hfz142_3⟩ := cf4_ BK394.out
  have hnb143 := NB379_0.out
  have hnc143 := NB0_379.out
  obtain ⟨hcz144_0, hcz144_1, hcz144_2, hcz144_3, hfz144_0, hfz144_1, hfz144_2, hfz144_3⟩ := cf4_ BK379.out
  obtain ⟨Ao145, co145, eo145⟩ := Kd.N_slice HO_395003.out
  subst eo145
  go_wp2
  refine bodyPost_ret (results_cell_row rfl _ _ gb379 36 #[.int .i64 t388, .int .i64 t389, .int .i64 t390, .slice Ao145 x395003_1.length co145] (0, 0) _ rfl (bp0_ BK379.out) Try.underlying36 rfl (by kernel_rfl)) rfl ?_
  exact ⟨_, er_, by (with_reducible repeat (first | apply Kd.N_alloc | apply Kd.N_drewN | apply Kd.N_drew)); exact Kd.N_mono (Kd.N_far (p := ⟨gb379, 3, none⟩) (Kd.N_far (p := ⟨gb379, 2, none⟩) (Kd.N_far (p := ⟨gb379, 1, none⟩) (Kd.N_far (p := ⟨gb379, 0, none⟩) (Kd.N_mono HO_395003.out (fun k_ hk => (⟨hk, hk.2.1⟩ : _ ∧ k_ ≠ gb379))) (fun _ hk => hk.2) (.int .i64 t388)) (fun _ hk => hk.2) (.int .i64 t389)) (fun _ hk => hk.2) (.int .i64 t390)) (fun _ hk => hk.2) (.slice Ao145 x395003_1.length co145)) (fun _ hk => hk.1.1), is0_, bi0_, hkx_⟩
 subst c28
 rw [if_pos rfl] at H
 replace H := bs_ H
 obtain ⟨⟨t398, t399, t400, t401⟩, A29, H⟩ := H
 try dsimp only at H
 replace H := bs_ H
 obtain ⟨⟨t404, t405, t406⟩, A30, H⟩ := H
 try dsimp only at H
 by_cases c31 : 0 ≤ t404
 rotate_left
 ·exact nn_ c31 H
 rw [if_pos c31] at H
 have c31b0 := decide_eq_true c31
 clear c31
 by_cases c32 : t404 < (t401.length : Int)
 rotate_left
 ·exact nn_ c32 H
 rw [if_pos c32] at H
 have c32b0 := decide_eq_true c32
 clear c32
 replace H := bs_ H
 obtain ⟨⟨t409, t410, t411⟩, A33, H⟩ := H
 try dsimp only at H
 obtain ⟨Ao43, co43, eo43⟩ := Kd.N_slice HO_395003.out
 subst eo43
 have I := Aside0.mk (show L24 w0 w g gb379 gb394 s0_0 t388 t389 t390 (.slice Ao43 x395003_1.length co43) x395003_1 (fun _ => True) x1001_12 x1002_12 wc from ⟨Kd.N_mono HO_395003.out (fun _ hk => ⟨⟨hk.1, hk.2.1, hk.2.2.1, hk.2.2.2⟩, trivial⟩), BK379.out, BK394.out, HI0.out, HK.out, HB.out, NB379_0.out, NB394_0.out⟩)
 clear HO_395003 BK379 BK394 HI0 HK HB
 have P4 := Aside0.mk (of_decide_eq_true c31b0)
 have Q4 := Aside0.mk (of_decide_eq_true c32b0)
 try go_wp2
 have I_ := Aside0.mk (show L24 w0 w g gb379 gb394 s0_0 t388 t389 t390 (.slice Ao43 x395003_1.length co43) x395003_1 (fun _ => True) x1001_12 x1002_12 wc.drew from ⟨Kd.N_drew I.out.ho, blk_drew I.out.b1, blk_drew I.out.b2, IsS118.drew I.out.hi, keep_drew I.out.hk, below_drew1 I.out.hb, I.out.n1, I.out.n2⟩)
 clear I
 have I := I_
 clear I_
 refine start_ (n := 12) (S := fun w' => (w'.cell? ⟨gb394, 0, none⟩ = some (.int .i64 t388) ∧ w'.cell? ⟨gb394, 1, none⟩ = some (.int .i64 t389) ∧ w'.cell? ⟨gb394, 2, none⟩ = some (.int .i64 t390) ∧ w'.cell? ⟨gb394, 3, none⟩ = some (.slice Ao43 x395003_1.length co43))) (ds := [11]) #[false, false, false, false, false, false, false, false, false, false, false, false] (by kernel_rfl) rfl rfl ⟨(blk_cell I.out.b2 0).trans rfl, (blk_cell I.out.b2 1).trans rfl, (blk_cell I.out.b2 2).trans rfl, (blk_cell I.out.b2 3).trans rfl⟩ (fun hHeld => ?_)
 generalize wc.drew = w43 at I hHeld ⊢
 refine pure_ (i := 3) (N := some 30) (v := ?_) (a' := ?_) #[false, false, false, true, false, false, false, false, false, false, false, false] rfl rfl (by kernel_rfl) (fun _ _ _ h => h) (Or.inl ⟨by rfl, ?_⟩) ?_ ?_
 rotate_left
 ·intro w'
  go_simp
  with_reducible rfl
 rotate_left
 ·simp only [Act.put, List.setIfInBounds_toArray, List.set_cons_zero, List.set_cons_succ, i64_w, i32_w]
  rfl
 refine pure_ (i := 4) (N := some 31) (v := ?_) (a' := ?_) #[false, false, false, true, true, false, false, false, false, false, false, false] rfl rfl (by kernel_rfl) (fun _ _ _ h => h) (Or.inl ⟨by rfl, ?_⟩) ?_ ?_
 rotate_left
 ·intro w'
  go_simp
  with_reducible rfl
 rotate_left
 ·simp only [Act.put, List.setIfInBounds_toArray, List.set_cons_zero, List.set_cons_succ, i64_w, i32_w]
  rfl
 refine take_ (i := 0) (N := some 27) (v := ?_) (a' := ?_) #[true, false, false, true, true, false, false, false, false, false, false, false] rfl rfl (by kernel_rfl) (fun _ _ _ h => h) (Or.inl ⟨by rfl, ?_⟩) hHeld ?_ ?_
 rotate_left
 ·rintro w' ⟨s0, s1, s2, s3⟩
  go_simp
  with_reducible rfl
 rotate_left
 ·simp only [Act.put, List.setIfInBounds_toArray, List.set_cons_zero, List.set_cons_succ, i64_w, i32_w]
  rfl
 refine take_ (i := 5) (N := some 32) (v := ?_) (a' := ?_) #[true, false, false, true, true, true, false, false, false, false, false, false] rfl rfl (by kernel_rfl) (fun _ _ _ h => h) (Or.inl ⟨by rfl, ?_⟩) hHeld ?_ ?_
 rotate_left
 ·rintro w' ⟨s0, s1, s2, s3⟩
  go_simp
  with_reducible rfl
 rotate_left
 ·simp only [Act.put, List.setIfInBounds_toArray, List.set_cons_zero, List.set_cons_succ, i64_w, i32_w]
  rfl
 refine pure_ (i := 6) (N := some 33) (v := ?_) (a' := ?_) #[true, false, false, true, true, true, true, false, false, false, false, false] rfl rfl (by kernel_rfl) (fun _ _ _ h => h) (Or.inl ⟨by rfl, ?_⟩) ?_ ?_
 rotate_left
 ·intro w'
  go_simp
  with_reducible rfl
 rotate_left
 ·simp only [Act.put, List.setIfInBounds_toArray, List.set_cons_zero, List.set_cons_succ, i64_w, i32_w]
  rfl
 refine join_ (σ := Nat × Addr × Nat × Option Addr × Nat × Option Addr × Nat) 1 #[true, true, true, true, true, true, true, true, true, true, true, false] (fun s_ => [(28, .agg #[.int .i64 t398, .int .i64 t399, .int .i64 t400, .slice (some s_.2.1) t401.length s_.2.2.1]), (29, (.slice (some s_.2.1) t401.length s_.2.2.1)), (34, .int .i64 t404), (35, .pointer (some (s_.2.1.add (t404.toNat * 4)))), (36, .agg #[.slice s_.2.2.2.1 ((rd_T53 t401 t404).f0).length s_.2.2.2.2.1, .slice s_.2.2.2.2.2.1 ((rd_T53 t401 t404).f1).length s_.2.2.2.2.2.2, .int .i64 ((rd_T53 t401 t404).f2), .int .i64 ((rd_T53 t401 t404).f3)]), (5, .pointer (some ⟨s_.1, 0, none⟩))]) (fun s_ w' => (L25 w0 w g gb379 gb394 s0_0 t388 t389 t390 (.slice Ao43 x395003_1.length co43) x395003_1 (.slice (some s_.2.1) t401.length s_.2.2.1) t401 (fun k_ => k_ ≠ s_.1) t405 t406 w') ∧ w'.cell? (s_.2.1.add (t404.toNat * 4)) = some (.slice s_.2.2.2.1 ((rd_T53 t401 t404).f0).length s_.2.2.2.2.1) ∧ w'.cell? ⟨(s_.2.1.add (t404.toNat * 4)).block, (s_.2.1.add (t404.toNat * 4)).off + 1, none⟩ = some (.slice s_.2.2.2.2.2.1 ((rd_T53 t401 t404).f1).length s_.2.2.2.2.2.2) ∧ w'.heap[s_.1]? = some (.cells #[.slice none 0 0, .slice none 0 0, .int .i64 0, .int .i64 0] 53 (0, 0)) ∧ w.heap.size ≤ s_.1 ∧ w0.heap.size ≤ s_.1 ∧ gb379 ≠ s_.1 ∧ gb394 ≠ s_.1 ∧ s_.1 ≠ g) ?_ ?_
 rotate_left
 ·intro hCont
  refine two_ (i := 1) (j := 10) (Ni := some 28) (Nj := some 5) #[true, true, false, true, true, true, true, false, false, false, false, false] #[true, false, false, true, true, true, true, false, false, false, true, false] rfl rfl rfl rfl (by kernel_rfl) (by decide) (by decide) (fun K hK => ?_) (fun K hK => ?_)
  ·skip
   refine goes_ Try.func83 (by kernel_rfl) rfl #[.agg #[.int .i64 t388, .int .i64 t389, .int .i64 t390, .slice Ao43 x395003_1.length co43]] (by rfl) rfl rfl lm_ ?_
   with_reducible refine (spec_l09Copy.calls kj12 t388 t389 t390 _ _ x395003_1 t398 t399 t400 t401 _ (Kd.N_reads' I.out.ho).2.2 (Kd.N_reads' I.out.ho).2.1 A29.out).mono ?_
   rintro e w44 ⟨u402, rfl, ho0, hb⟩
   refine ⟨_, rfl, ?_⟩
   have I_ := Aside0.mk (I.out.copy ho0 hb (fun _ _ => trivial))
   clear ho0 hb I
   have I := I_
   clear I_
   obtain ⟨Aq, cq, eq⟩ := Kd.N_slice I.out.hc
   subst eq
   refine hK.out _ _ ⟨(blk_cell I.out.b2 0).trans rfl, (blk_cell I.out.b2 1).trans rfl, (blk_cell I.out.b2 2).trans rfl, (blk_cell I.out.b2 3).trans rfl⟩ (fun hHeld => ?_)
   clear hK K
   refine norm_ (a' := ?_) ?_ ?_
   rotate_left
   ·show Act.put _ (some 28) _ = _
    simp only [Act.put, List.setIfInBounds_toArray, List.set_cons_zero, List.set_cons_succ, i64_w, i32_w]
    rfl
   have hfd : ∀ w' : World, (Instr.field 36 (.agg #[.int .i64 t398, .int .i64 t399, .int .i64 t400, .slice Aq t401.length cq]) 3).run Try.prog w' = .ok (.slice Aq t401.length cq) w' := fun _ => by kernel_rfl
   refine pure_ (i := 2) (N := some 29) (v := ?_) (a' := ?_) #[true, true, true, true, true, true, true, false, false, false, false, false] rfl rfl (by kernel_rfl) (fun _ _ _ h => h) (Or.inl ⟨by rfl, ?_⟩) ?_ ?_
   rotate_left
   ·intro w'
    go_simp
    with_reducible rfl
   rotate_left
   ·simp only [Act.put, List.setIfInBounds_toArray, List.set_cons_zero, List.set_cons_succ, i64_w, i32_w]
    rfl
   refine two_ (i := 7) (j := 10) (Ni := some 34) (Nj := some 5) #[true, true, true, true, true, true, true, true, false, false, false, false] #[true, true, true, true, true, true, true, false, false, false, true, false] rfl rfl rfl rfl (by kernel_rfl) (by decide) (by decide) (fun K hK => ?_) (fun K hK => ?_)
   ·skip
    refine goes_ Try.func62 (by kernel_rfl) rfl #[.pointer (some ⟨g, 0, none⟩), .int .i64 (x395003_1.length : Int)] (by rfl) rfl rfl lm_ ?_
    with_reducible refine (spec_l01Below.calls g s0_0 x1001_12 x1002_12 (x395003_1.length : Int) t404 t405 t406 w0 _ I.out.hi I.out.hb A30.out).mono ?_
    rintro e w45 ⟨rfl, hi, hb, hk⟩
    refine ⟨_, rfl, ?_⟩
    have I_ := Aside0.mk (I.out.draw hi hb hk)
    clear hi hb hk I
    have I := I_
    clear I_
    refine hK.out _ _ ⟨(blk_cell I.out.b2 0).trans rfl, (blk_cell I.out.b2 1).trans rfl, (blk_cell I.out.b2 2).trans rfl, (blk_cell I.out.b2 3).trans rfl⟩ (fun hHeld => ?_)
    clear hK K
    refine norm_ (a' := ?_) ?_ ?_
    rotate_left
    ·show Act.put _ (some 34) _ = _
     simp only [Act.put, List.setIfInBounds_toArray, List.set_cons_zero, List.set_cons_succ, i64_w, i32_w]
     rfl
    obtain ⟨ad407, co47, A407_0, c407_0, A407_1, c407_1, eu_, hy0, hy1, hy2, hy3⟩ := I.out.elem t404 P4.out Q4.out
    injection eu_ with eu1 _ eu3
    subst eu1
    subst eu3
    have pe := eq_true P4.out
    have qe := eq_true Q4.out
    refine pure_ (i := 8) (N := some 35) (v := ?_) (a' := ?_) #[true, true, true, true, true, true, true, true, true, false, false, false] rfl rfl (by kernel_rfl) (fun _ _ _ h => h) (Or.inl ⟨by rfl, ?_⟩) ?_ ?_
    rotate_left
    ·intro w'
     go_simp
     with_reducible rfl
    rotate_left
    ·simp only [Act.put, List.setIfInBounds_toArray, List.set_cons_zero, List.set_cons_succ, i64_w, i32_w]
     rfl
    refine two_ (i := 9) (j := 10) (Ni := some 36) (Nj := some 5) #[true, true, true, true, true, true, true, true, true, true, false, false] #[true, true, true, true, true, true, true, true, true, false, true, false] rfl rfl rfl rfl (by kernel_rfl) (by decide) (by decide) (fun K hK => ?_) (fun K hK => ?_)
    ·skip
     refine value_ (w1 := ?_) (v := ?_) (by rfl) rfl ?_ ?_
     rotate_left 2
     ·go_simp
      constructor
      ·rfl
      ·rfl
     have hx0 := Aside0.mk hy0
     have hx1 := Aside0.mk hy1
     clear hy0 hy1 hy2 hy3
     refine hK.out _ _ ⟨(blk_cell I.out.b2 0).trans rfl, (blk_cell I.out.b2 1).trans rfl, (blk_cell I.out.b2 2).trans rfl, (blk_cell I.out.b2 3).trans rfl⟩ (fun hHeld => ?_)
     clear hK K
     refine norm_ (a' := ?_) ?_ ?_
     rotate_left
     ·show Act.put _ (some 36) _ = _
      simp only [Act.put, List.setIfInBounds_toArray, List.set_cons_zero, List.set_cons_succ, i64_w, i32_w]
      rfl
     refine one_ (i := 10) (N := some 5) #[true, true, true, true, true, true, true, true, true, true, true, false] rfl rfl (by kernel_rfl) (by decide) (fun K hK => ?_)
     refine box_step ?hg (N := 5) ?hd (cs := #[.slice none 0 0, .slice none 0 0, .int .i64 0, .int .i64 0]) (t := 53) ?hr ?_; (case hd => rfl); (case hg => rfl); (case hr => first | (go_simp; done) | (go_simp; rfl))
     intro gb408 hg w46 hbox hb
     have G1 := Aside0.mk (show w.heap.size ≤ gb408 by rw [hg]; exact I.out.hk.1)
     have G2 := Aside0.mk (show w0.heap.size ≤ gb408 by rw [hg]; exact I.out.hb.size)
     have NX1 := Aside0.mk (show gb379 ≠ gb408 by rw [hg]; exact Nat.ne_of_lt (blk_lt I.out.b1))
     have NX2 := Aside0.mk (show gb394 ≠ gb408 by rw [hg]; exact Nat.ne_of_lt (blk_lt I.out.b2))
     have NX := Aside0.mk (show gb408 ≠ g by rw [hg]; exact Nat.ne_of_gt (IsS118.lt I.out.hi))
     have BX := Aside0.mk hbox
     have hx0_ := Aside0.mk ((hb.cell (World.block_lt_of_cell? _ _ hx0.out)).trans hx0.out)
     clear hx0
     have hx0 := hx0_
     clear hx0_
     have hx1_ := Aside0.mk ((hb.cell (World.block_lt_of_cell? _ _ hx1.out)).trans hx1.out)
     clear hx1
     have hx1 := hx1_
     clear hx1_
     have I_ := Aside0.mk (I.out.box hb gb408 hg)
     clear hg hbox hb I
     have I := I_
     clear I_
     refine hK.out _ _ ⟨(blk_cell I.out.b2 0).trans rfl, (blk_cell I.out.b2 1).trans rfl, (blk_cell I.out.b2 2).trans rfl, (blk_cell I.out.b2 3).trans rfl⟩ (fun hHeld => ?_)
     clear hK K
     refine norm_ (a' := ?_) ?_ ?_
     rotate_left
     ·show Act.put _ (some 5) _ = _
      simp only [Act.put, List.setIfInBounds_toArray, List.set_cons_zero, List.set_cons_succ, i64_w, i32_w]
      rfl
     exact norm_ (by simp only [putAll, Act.put, List.setIfInBounds_toArray, List.set_cons_zero, List.set_cons_succ]) (hCont (gb408, ad407, cq, A407_0, c407_0, A407_1, c407_1) _ ⟨I.out, hx0.out, hx1.out, BX.out, G1.out, G2.out, NX1.out, NX2.out, NX.out⟩)
    ·skip
     have hx0 := Aside0.mk hy0
     have hx1 := Aside0.mk hy1
     have hx2 := Aside0.mk hy2
     have hx3 := Aside0.mk hy3
     clear hy0 hy1 hy2 hy3
     refine box_step ?hg (N := 5) ?hd (cs := #[.slice none 0 0, .slice none 0 0, .int .i64 0, .int .i64 0]) (t := 53) ?hr ?_; (case hd => rfl); (case hg => rfl); (case hr => first | (go_simp; done) | (go_simp; rfl))
     intro gb408 hg w46 hbox hb
     have G1 := Aside0.mk (show w.heap.size ≤ gb408 by rw [hg]; exact I.out.hk.1)
     have G2 := Aside0.mk (show w0.heap.size ≤ gb408 by rw [hg]; exact I.out.hb.size)
     have NX1 := Aside0.mk (show gb379 ≠ gb408 by rw [hg]; exact Nat.ne_of_lt (blk_lt I.out.b1))
     have NX2 := Aside0.mk (show gb394 ≠ gb408 by rw [hg]; exact Nat.ne_of_lt (blk_lt I.out.b2))
     have NX := Aside0.mk (show gb408 ≠ g by rw [hg]; exact Nat.ne_of_gt (IsS118.lt I.out.hi))
     have BX := Aside0.mk hbox
     have hx0_ := Aside0.mk ((hb.cell (World.block_lt_of_cell? _ _ hx0.out)).trans hx0.out)
     clear hx0
     have hx0 := hx0_
     clear hx0_
     have hx1_ := Aside0.mk ((hb.cell (World.block_lt_of_cell? _ _ hx1.out)).trans hx1.out)
     clear hx1
     have hx1 := hx1_
     clear hx1_
     have hx2_ := Aside0.mk ((hb.cell (World.block_lt_of_cell? _ _ hx2.out)).trans hx2.out)
     clear hx2
     have hx2 := hx2_
     clear hx2_
     have hx3_ := Aside0.mk ((hb.cell (World.block_lt_of_cell? _ _ hx3.out)).trans hx3.out)
     clear hx3
     have hx3 := hx3_
     clear hx3_
     have I_ := Aside0.mk (I.out.box hb gb408 hg)
     clear hg hbox hb I
     have I := I_
     clear I_
     refine hK.out _ _ ⟨(blk_cell I.out.b2 0).trans rfl, (blk_cell I.out.b2 1).trans rfl, (blk_cell I.out.b2 2).trans rfl, (blk_cell I.out.b2 3).trans rfl⟩ (fun hHeld => ?_)
     clear hK K
     refine norm_ (a' := ?_) ?_ ?_
     rotate_left
     ·show Act.put _ (some 5) _ = _
      simp only [Act.put, List.setIfInBounds_toArray, List.set_cons_zero, List.set_cons_succ, i64_w, i32_w]
      rfl
     refine one_ (i := 9) (N := some 36) #[true, true, true, true, true, true, true, true, true, true, true, false] rfl rfl (by kernel_rfl) (by decide) (fun K hK => ?_)
     have hy0 := hx0.out
     have hy1 := hx1.out
     have hy2 := hx2.out
     have hy3 := hx3.out
     clear hx0 hx1 hx2 hx3
     refine value_ (w1 := ?_) (v := ?_) (by rfl) rfl ?_ ?_
     rotate_left 2
     ·go_simp
      constructor
      ·rfl
      ·rfl
     have hx0 := Aside0.mk hy0
     have hx1 := Aside0.mk hy1
     clear hy0 hy1 hy2 hy3
     refine hK.out _ _ ⟨(blk_cell I.out.b2 0).trans rfl, (blk_cell I.out.b2 1).trans rfl, (blk_cell I.out.b2 2).trans rfl, (blk_cell I.out.b2 3).trans rfl⟩ (fun hHeld => ?_)
     clear hK K
     refine norm_ (a' := ?_) ?_ ?_
     rotate_left
     ·show Act.put _ (some 36) _ = _
      simp only [Act.put, List.setIfInBounds_toArray, List.set_cons_zero, List.set_cons_succ, i64_w, i32_w]
      rfl
     exact norm_ (by simp only [putAll, Act.put, List.setIfInBounds_toArray, List.set_cons_zero, List.set_cons_succ]) (hCont (gb408, ad407, cq, A407_0, c407_0, A407_1, c407_1) _ ⟨I.out, hx0.out, hx1.out, BX.out, G1.out, G2.out, NX1.out, NX2.out, NX.out⟩)
   ·skip
    refine box_step ?hg (N := 5) ?hd (cs := #[.slice none 0 0, .slice none 0 0, .int .i64 0, .int .i64 0]) (t := 53) ?hr ?_; (case hd => rfl); (case hg => rfl); (case hr => first | (go_simp; done) | (go_simp; rfl))
    intro gb408 hg w45 hbox hb
    have G1 := Aside0.mk (show w.heap.size ≤ gb408 by rw [hg]; exact I.out.hk.1)
    have G2 := Aside0.mk (show w0.heap.size ≤ gb408 by rw [hg]; exact I.out.hb.size)
    have NX1 := Aside0.mk (show gb379 ≠ gb408 by rw [hg]; exact Nat.ne_of_lt (blk_lt I.out.b1))
    have NX2 := Aside0.mk (show gb394 ≠ gb408 by rw [hg]; exact Nat.ne_of_lt (blk_lt I.out.b2))
    have NX := Aside0.mk (show gb408 ≠ g by rw [hg]; exact Nat.ne_of_gt (IsS118.lt I.out.hi))
    have BX := Aside0.mk hbox
    have I_ := Aside0.mk (I.out.box hb gb408 hg)
    clear hg hbox hb I
    have I := I_
    clear I_
    refine hK.out _ _ ⟨(blk_cell I.out.b2 0).trans rfl, (blk_cell I.out.b2 1).trans rfl, (blk_cell I.out.b2 2).trans rfl, (blk_cell I.out.b2 3).trans rfl⟩ (fun hHeld => ?_)
    clear hK K
    refine norm_ (a' := ?_) ?_ ?_
    rotate_left
    ·show Act.put _ (some 5) _ = _
     simp only [Act.put, List.setIfInBounds_toArray, List.set_cons_zero, List.set_cons_succ, i64_w, i32_w]
     rfl
    refine one_ (i := 7) (N := some 34) #[true, true, true, true, true, true, true, true, false, false, true, false] rfl rfl (by kernel_rfl) (by decide) (fun K hK => ?_)
    refine goes_ Try.func62 (by kernel_rfl) rfl #[.pointer (some ⟨g, 0, none⟩), .int .i64 (x395003_1.length : Int)] (by rfl) rfl rfl lm_ ?_
    with_reducible refine (spec_l01Below.calls g s0_0 x1001_12 x1002_12 (x395003_1.length : Int) t404 t405 t406 w0 _ I.out.hi I.out.hb A30.out).mono ?_
    rintro e w46 ⟨rfl, hi, hb, hk⟩
    refine ⟨_, rfl, ?_⟩
    have I_ := Aside0.mk (I.out.draw hi hb hk)
    have BX_ := Aside0.mk (hk.blk BX.out NX.out (by simp)); clear hi hb hk I
    have I := I_
    clear I_
    clear BX
    have BX := BX_
    clear BX_
    refine hK.out _ _ ⟨(blk_cell I.out.b2 0).trans rfl, (blk_cell I.out.b2 1).trans rfl, (blk_cell I.out.b2 2).trans rfl, (blk_cell I.out.b2 3).trans rfl⟩ (fun hHeld => ?_)
    clear hK K
    refine norm_ (a' := ?_) ?_ ?_
    rotate_left
    ·show Act.put _ (some 34) _ = _
     simp only [Act.put, List.setIfInBounds_toArray, List.set_cons_zero, List.set_cons_succ, i64_w, i32_w]
     rfl
    obtain ⟨ad407, co47, A407_0, c407_0, A407_1, c407_1, eu_, hy0, hy1, hy2, hy3⟩ := I.out.elem t404 P4.out Q4.out
    injection eu_ with eu1 _ eu3
    subst eu1
    subst eu3
    have pe := eq_true P4.out
    have qe := eq_true Q4.out
    refine pure_ (i := 8) (N := some 35) (v := ?_) (a' := ?_) #[true, true, true, true, true, true, true, true, true, false, true, false] rfl rfl (by kernel_rfl) (fun _ _ _ h => h) (Or.inl ⟨by rfl, ?_⟩) ?_ ?_
    rotate_left
    ·intro w'
     go_simp
     with_reducible rfl
    rotate_left
    ·simp only [Act.put, List.setIfInBounds_toArray, List.set_cons_zero, List.set_cons_succ, i64_w, i32_w]
     rfl
    refine one_ (i := 9) (N := some 36) #[true, true, true, true, true, true, true, true, true, true, true, false] rfl rfl (by kernel_rfl) (by decide) (fun K hK => ?_)
    refine value_ (w1 := ?_) (v := ?_) (by rfl) rfl ?_ ?_
    rotate_left 2
    ·go_simp
     constructor
     ·rfl
     ·rfl
    have hx0 := Aside0.mk hy0
    have hx1 := Aside0.mk hy1
    clear hy0 hy1 hy2 hy3
    refine hK.out _ _ ⟨(blk_cell I.out.b2 0).trans rfl, (blk_cell I.out.b2 1).trans rfl, (blk_cell I.out.b2 2).trans rfl, (blk_cell I.out.b2 3).trans rfl⟩ (fun hHeld => ?_)
    clear hK K
    refine norm_ (a' := ?_) ?_ ?_
    rotate_left
    ·show Act.put _ (some 36) _ = _
     simp only [Act.put, List.setIfInBounds_toArray, List.set_cons_zero, List.set_cons_succ, i64_w, i32_w]
     rfl
    exact norm_ (by simp only [putAll, Act.put, List.setIfInBounds_toArray, List.set_cons_zero, List.set_cons_succ]) (hCont (gb408, ad407, cq, A407_0, c407_0, A407_1, c407_1) _ ⟨I.out, hx0.out, hx1.out, BX.out, G1.out, G2.out, NX1.out, NX2.out, NX.out⟩)
  ·skip
   refine box_step ?hg (N := 5) ?hd (cs := #[.slice none 0 0, .slice none 0 0, .int .i64 0, .int .i64 0]) (t := 53) ?hr ?_; (case hd => rfl); (case hg => rfl); (case hr => first | (go_simp; done) | (go_simp; rfl))
   intro gb408 hg w44 hbox hb
   have G1 := Aside0.mk (show w.heap.size ≤ gb408 by rw [hg]; exact I.out.hk.1)
   have G2 := Aside0.mk (show w0.heap.size ≤ gb408 by rw [hg]; exact I.out.hb.size)
   have NX1 := Aside0.mk (show gb379 ≠ gb408 by rw [hg]; exact Nat.ne_of_lt (blk_lt I.out.b1))
   have NX2 := Aside0.mk (show gb394 ≠ gb408 by rw [hg]; exact Nat.ne_of_lt (blk_lt I.out.b2))
   have NX := Aside0.mk (show gb408 ≠ g by rw [hg]; exact Nat.ne_of_gt (IsS118.lt I.out.hi))
   have BX := Aside0.mk hbox
   have LT := Aside0.mk (blk_lt hbox)
   have I_ := Aside0.mk (I.out.box hb gb408 hg)
   clear hg hbox hb I
   have I := I_
   clear I_
   refine hK.out _ _ ⟨(blk_cell I.out.b2 0).trans rfl, (blk_cell I.out.b2 1).trans rfl, (blk_cell I.out.b2 2).trans rfl, (blk_cell I.out.b2 3).trans rfl⟩ (fun hHeld => ?_)
   clear hK K
   refine norm_ (a' := ?_) ?_ ?_
   rotate_left
   ·show Act.put _ (some 5) _ = _
    simp only [Act.put, List.setIfInBounds_toArray, List.set_cons_zero, List.set_cons_succ, i64_w, i32_w]
    rfl
   refine one_ (i := 1) (N := some 28) #[true, true, false, true, true, true, true, false, false, false, true, false] rfl rfl (by kernel_rfl) (by decide) (fun K hK => ?_)
   refine goes_ Try.func83 (by kernel_rfl) rfl #[.agg #[.int .i64 t388, .int .i64 t389, .int .i64 t390, .slice Ao43 x395003_1.length co43]] (by rfl) rfl rfl lm_ ?_
   with_reducible refine (spec_l09Copy.calls kj12 t388 t389 t390 _ _ x395003_1 t398 t399 t400 t401 _ (Kd.N_reads' I.out.ho).2.2 (Kd.N_reads' I.out.ho).2.1 A29.out).mono ?_
   rintro e w45 ⟨u402, rfl, ho0, hb⟩
   refine ⟨_, rfl, ?_⟩
   have I_ := Aside0.mk (I.out.copy ho0 hb (fun k hk => by have := LT.out; have := blk_lt BX.out; omega))
   have BX_ := Aside0.mk (blk_below BX.out hb)
   clear BX
   have BX := BX_
   clear BX_
   clear ho0 hb I
   have I := I_
   clear I_
   obtain ⟨Aq, cq, eq⟩ := Kd.N_slice I.out.hc
   subst eq
   refine hK.out _ _ ⟨(blk_cell I.out.b2 0).trans rfl, (blk_cell I.out.b2 1).trans rfl, (blk_cell I.out.b2 2).trans rfl, (blk_cell I.out.b2 3).trans rfl⟩ (fun hHeld => ?_)
   clear hK K
   refine norm_ (a' := ?_) ?_ ?_
   rotate_left
   ·show Act.put _ (some 28) _ = _
    simp only [Act.put, List.setIfInBounds_toArray, List.set_cons_zero, List.set_cons_succ, i64_w, i32_w]
    rfl
   have hfd : ∀ w' : World, (Instr.field 36 (.agg #[.int .i64 t398, .int .i64 t399, .int .i64 t400, .slice Aq t401.length cq]) 3).run Try.prog w' = .ok (.slice Aq t401.length cq) w' := fun _ => by kernel_rfl
   refine pure_ (i := 2) (N := some 29) (v := ?_) (a' := ?_) #[true, true, true, true, true, true, true, false, false, false, true, false] rfl rfl (by kernel_rfl) (fun _ _ _ h => h) (Or.inl ⟨by rfl, ?_⟩) ?_ ?_
   rotate_left
   ·intro w'
    go_simp
    with_reducible rfl
   rotate_left
   ·simp only [Act.put, List.setIfInBounds_toArray, List.set_cons_zero, List.set_cons_succ, i64_w, i32_w]
    rfl
   refine one_ (i := 7) (N := some 34) #[true, true, true, true, true, true, true, true, false, false, true, false] rfl rfl (by kernel_rfl) (by decide) (fun K hK => ?_)
   refine goes_ Try.func62 (by kernel_rfl) rfl #[.pointer (some ⟨g, 0, none⟩), .int .i64 (x395003_1.length : Int)] (by rfl) rfl rfl lm_ ?_
   with_reducible refine (spec_l01Below.calls g s0_0 x1001_12 x1002_12 (x395003_1.length : Int) t404 t405 t406 w0 _ I.out.hi I.out.hb A30.out).mono ?_
   rintro e w46 ⟨rfl, hi, hb, hk⟩
   refine ⟨_, rfl, ?_⟩
   have I_ := Aside0.mk (I.out.draw hi hb hk)
   have BX_ := Aside0.mk (hk.blk BX.out NX.out (by simp)); clear hi hb hk I
   have I := I_
   clear I_
   clear BX
   have BX := BX_
   clear BX_
   refine hK.out _ _ ⟨(blk_cell I.out.b2 0).trans rfl, (blk_cell I.out.b2 1).trans rfl, (blk_cell I.out.b2 2).trans rfl, (blk_cell I.out.b2 3).trans rfl⟩ (fun hHeld => ?_)
   clear hK K
   refine norm_ (a' := ?_) ?_ ?_
   rotate_left
   ·show Act.put _ (some 34) _ = _
    simp only [Act.put, List.setIfInBounds_toArray, List.set_cons_zero, List.set_cons_succ, i64_w, i32_w]
    rfl
   obtain ⟨ad407, co47, A407_0, c407_0, A407_1, c407_1, eu_, hy0, hy1, hy2, hy3⟩ := I.out.elem t404 P4.out Q4.out
   injection eu_ with eu1 _ eu3
   subst eu1
   subst eu3
   have pe := eq_true P4.out
   have qe := eq_true Q4.out
   refine pure_ (i := 8) (N := some 35) (v := ?_) (a' := ?_) #[true, true, true, true, true, true, true, true, true, false, true, false] rfl rfl (by kernel_rfl) (fun _ _ _ h => h) (Or.inl ⟨by rfl, ?_⟩) ?_ ?_
   rotate_left
   ·intro w'
    go_simp
    with_reducible rfl
   rotate_left
   ·simp only [Act.put, List.setIfInBounds_toArray, List.set_cons_zero, List.set_cons_succ, i64_w, i32_w]
    rfl
   refine one_ (i := 9) (N := some 36) #[true, true, true, true, true, true, true, true, true, true, true, false] rfl rfl (by kernel_rfl) (by decide) (fun K hK => ?_)
   refine value_ (w1 := ?_) (v := ?_) (by rfl) rfl ?_ ?_
   rotate_left 2
   ·go_simp
    constructor
    ·rfl
    ·rfl
   have hx0 := Aside0.mk hy0
   have hx1 := Aside0.mk hy1
   clear hy0 hy1 hy2 hy3
   refine hK.out _ _ ⟨(blk_cell I.out.b2 0).trans rfl, (blk_cell I.out.b2 1).trans rfl, (blk_cell I.out.b2 2).trans rfl, (blk_cell I.out.b2 3).trans rfl⟩ (fun hHeld => ?_)
   clear hK K
   refine norm_ (a' := ?_) ?_ ?_
   rotate_left
   ·show Act.put _ (some 36) _ = _
    simp only [Act.put, List.setIfInBounds_toArray, List.set_cons_zero, List.set_cons_succ, i64_w, i32_w]
    rfl
   exact norm_ (by simp only [putAll, Act.put, List.setIfInBounds_toArray, List.set_cons_zero, List.set_cons_succ]) (hCont (gb408, ad407, cq, A407_0, c407_0, A407_1, c407_1) _ ⟨I.out, hx0.out, hx1.out, BX.out, G1.out, G2.out, NX1.out, NX2.out, NX.out⟩)
 rintro ⟨gb408, ad407, co47, A407_0, c407_0, A407_1, c407_1⟩ w48 ⟨I, hx0, hx1, hbx, hg1, hg2, hn1, hn2, hn3⟩
 have HV := I.elemV t404 P4.out Q4.out hx0 hx1
 have HO_395003 := Aside0.mk I.ho
 have HO403 := Aside0.mk I.hc
 have HL407_0 := Aside0.mk (Kd.V_mono HV.1 (ok' := fun k_ => ((((w.heap.size ≤ k_)) ∧ (some k_ ≠ (.slice Ao43 x395003_1.length co43 : Value).ownBlock ∧ (k_ ≠ gb379 ∧ (k_ ≠ gb394 ∧ k_ ≠ g)))) ∧ some k_ ≠ (.slice (some ad407) t401.length co47 : Value).ownBlock) ∧ k_ ≠ gb408) (fun _ hk => ⟨⟨hk.1.1, hk.2⟩, hk.1.2⟩))
 have HL407_1 := Aside0.mk (Kd.V_mono HV.2 (ok' := fun k_ => ((((w.heap.size ≤ k_)) ∧ (some k_ ≠ (.slice Ao43 x395003_1.length co43 : Value).ownBlock ∧ (k_ ≠ gb379 ∧ (k_ ≠ gb394 ∧ k_ ≠ g)))) ∧ some k_ ≠ (.slice (some ad407) t401.length co47 : Value).ownBlock) ∧ k_ ≠ gb408) (fun _ hk => ⟨⟨hk.1.1, hk.2⟩, hk.1.2⟩))
 have HR407_0 := Aside0.mk (Kd.V_reads' HV.1).2.2
 have HC407_0 := Aside0.mk (Kd.V_reads' HV.1).2.1
 have HR407_1 := Aside0.mk (Kd.V_reads' HV.2).2.2
 have HC407_1 := Aside0.mk (Kd.V_reads' HV.2).2.1
 have BK379 := Aside0.mk I.b1
 have BK394 := Aside0.mk I.b2
 have HI0 := Aside0.mk I.hi
 have HK := Aside0.mk I.hk
 have HB := Aside0.mk I.hb
 have BK408 := Aside0.mk hbx
 have GW408 := Aside0.mk hg1
 have GE408 := Aside0.mk hg2
 have NB379_408 := Aside0.mk hn1
 have NB408_379 := Aside0.mk (Ne.symm hn1)
 have NB394_408 := Aside0.mk hn2
 have NB408_394 := Aside0.mk (Ne.symm hn2)
 have NB408_0 := Aside0.mk hn3
 have NB0_408 := Aside0.mk (Ne.symm hn3)
 clear I hx0 hx1 hbx hg1 hg2 hn1 hn2 hn3 HV
 have hnb49 := NB408_379.out
 have hnc49 := NB379_408.out
 have hnb50 := NB408_394.out
 have hnc50 := NB394_408.out
 have hnb51 := NB408_0.out
 have hnc51 := NB0_408.out
 obtain ⟨hcz52_0, hcz52_1, hcz52_2, hcz52_3, hfz52_0, hfz52_1, hfz52_2, hfz52_3⟩ := cf4_ BK408.out
 refine norm_ (a' := ?_) ?_ ?_
 rotate_left
 ·show putAll _ _ = _
  simp only [putAll, Act.put, List.setIfInBounds_toArray, List.set_cons_zero, List.set_cons_succ, i64_w, i32_w]
  rfl
 refine last_ (i := 11) (N := none) #[true, true, true, true, true, true, true, true, true, true, true, true] rfl rfl (by kernel_rfl) (by decide) (fun K hK => ?_)
 refine skip_ (w1 := ?_) (by rfl) rfl ?_ ?_
 rotate_left
 ·go_simp
  rfl
 refine hK.out _ _ ?_
 clear hK K
 refine done_ (by kernel_rfl) ?_
 by_cases c34 : t409 = 0
 ·rw [if_pos c34] at H
  have c34b0 : (t409 == 0) = true := beq_iff_eq.mpr c34
  have c34b1 : (t409 != 0) = false := bne_eq_false_iff_eq.mpr c34
  clear c34
  obtain ⟨y412, hy412⟩ : ∃ y_ : List (S100), y_ = (([] : List (S100))) := ⟨_, rfl⟩
  replace H : (if 0 ≤ (wrap64 ((((rd_T53 t401 t404).f1).length : Int) / 2)) then (if (wrap64 ((((rd_T53 t401 t404).f1).length : Int) / 2)) ≤ (((rd_T53 t401 t404).f1).length : Int) then ((some (((rd_T53 t401 t404).f1).take ((wrap64 ((((rd_T53 t401 t404).f1).length : Int) / 2)) : Int).toNat : List (S100))).bind fun y415 => (if y412.length + y415.length < 2932031007402 then (if x395003_1.length < 2199023255552 then (spec_l24Policy.l0 kj12 (wrap64 (x4_1 + 1)) s0_0 t410 t411 t388 t389 t390 (x395003_1 ++ [(⟨(rd_T53 t401 t404).f0, (y412 ++ y415), (rd_T53 t401 t404).f2, (rd_T53 t401 t404).f3⟩ : S53)])) else (none)) else (none))) else (none)) else (none)) = some (r1, r2, r3, r4, r5, r6) := rp_ H hy412
  have Ny412 := Aside0.mk hy412
  clear hy412
  obtain ⟨ji35, hji35⟩ : ∃ j_ : Int, (wrap64 ((((rd_T53 t401 t404).f1).length : Int) / 2)) = j_ := ⟨_, rfl⟩
  replace H : (if 0 ≤ (ji35) then (if (ji35) ≤ (((rd_T53 t401 t404).f1).length : Int) then ((some (((rd_T53 t401 t404).f1).take ((ji35) : Int).toNat : List (S100))).bind fun y415 => (if y412.length + y415.length < 2932031007402 then (if x395003_1.length < 2199023255552 then (spec_l24Policy.l0 kj12 (wrap64 (x4_1 + 1)) s0_0 t410 t411 t388 t389 t390 (x395003_1 ++ [(⟨(rd_T53 t401 t404).f0, (y412 ++ y415), (rd_T53 t401 t404).f2, (rd_T53 t401 t404).f3⟩ : S53)])) else (none)) else (none))) else (none)) else (none)) = some (r1, r2, r3, r4, r5, r6) := by first | (rw [hji35] at H; exact H) | (simp only [hji35] at H ⊢; exact H)
  (try rw [hji35] at A29)
  (try rw [hji35] at A30)
  (try rw [hji35] at A33)
  have hji35w : (IntKind.i64.wrap ((((rd_T53 t401 t404).f1).length : Int) / 2)) = ji35 := (i64_w _).trans hji35
  by_cases c36 : 0 ≤ (ji35)
  rotate_left
  ·exact nn_ c36 H
  rw [if_pos c36] at H
  have c36b0 := eq_true c36
  have c36b1 : decide (0 ≤ (ji35)) = true := decide_eq_true c36
  clear c36
  by_cases c37 : (ji35) ≤ (((rd_T53 t401 t404).f1).length : Int)
  rotate_left
  ·exact nn_ c37 H
  rw [if_pos c37] at H
  have c37b0 := eq_true c37
  have c37b1 : decide ((ji35) ≤ (((rd_T53 t401 t404).f1).length : Int)) = true := decide_eq_true c37
  clear c37
  obtain ⟨y415, hy415⟩ : ∃ y_ : List (S100), y_ = (((rd_T53 t401 t404).f1).take ((ji35) : Int).toNat) := ⟨_, rfl⟩
  replace H : (if y412.length + y415.length < 2932031007402 then (if x395003_1.length < 2199023255552 then (spec_l24Policy.l0 kj12 (wrap64 (x4_1 + 1)) s0_0 t410 t411 t388 t389 t390 (x395003_1 ++ [(⟨(rd_T53 t401 t404).f0, (y412 ++ y415), (rd_T53 t401 t404).f2, (rd_T53 t401 t404).f3⟩ : S53)])) else (none)) else (none)) = some (r1, r2, r3, r4, r5, r6) := rp_ H hy415
  have Ny415 := Aside0.mk hy415
  clear hy415
  by_cases c38 : y412.length + y415.length < 2932031007402
  rotate_left
  ·exact nn_ c38 H
  rw [if_pos c38] at H
  have LMc38 := Aside0.mk c38
  clear c38
  obtain ⟨y420, hy420⟩ : ∃ y_ : List (S100), y_ = (y412 ++ y415) := ⟨_, rfl⟩
  replace H : (if x395003_1.length < 2199023255552 then (spec_l24Policy.l0 kj12 (wrap64 (x4_1 + 1)) s0_0 t410 t411 t388 t389 t390 (x395003_1 ++ [(⟨(rd_T53 t401 t404).f0, y420, (rd_T53 t401 t404).f2, (rd_T53 t401 t404).f3⟩ : S53)])) else (none)) = some (r1, r2, r3, r4, r5, r6) := rp_ H hy420
  have Ny420 := Aside0.mk hy420
  clear hy420
  by_cases c39 : x395003_1.length < 2199023255552
  rotate_left
  ·exact nn_ c39 H
  rw [if_pos c39] at H
  have LMc39 := Aside0.mk c39
  clear c39
  obtain ⟨y423, hy423⟩ : ∃ y_ : List (S53), y_ = (x395003_1 ++ [(⟨(rd_T53 t401 t404).f0, y420, (rd_T53 t401 t404).f2, (rd_T53 t401 t404).f3⟩ : S53)]) := ⟨_, rfl⟩
  replace H : (spec_l24Policy.l0 kj12 (wrap64 (x4_1 + 1)) s0_0 t410 t411 t388 t389 t390 y423) = some (r1, r2, r3, r4, r5, r6) := rp_ H hy423
  have Ny423 := Aside0.mk hy423
  clear hy423
  have H' := Aside0.mk H
  clear H
  go_wp2_with (first | ((with_reducible refine gate_callee (f := 62) rfl ?_); refine gs_ (some 38) Try.func62 #[.pointer (some ⟨g, 0, none⟩), .int .i64 4] ?_; (with_reducible refine (spec_l01Below.calls g s0_0 t405 t406 4 t409 t410 t411 w0 _ ?side1 ?side2 A33.out).mono ?_); (case side1 => exact is0_); (case side2 => exact bi0_); rintro e w53 ⟨rfl, hi, hb, hk⟩; refine ⟨_, rfl, ?_⟩; replace HO_395003 := Aside0.mk (Kd.N_mono (Kd.N_keep (Kd.N_mono (ok := fun k_ => (((((w.heap.size ≤ k_)) ∧ (k_ ≠ gb379 ∧ (k_ ≠ gb394 ∧ k_ ≠ g))) ∧ some k_ ≠ (.slice (some ad407) t401.length co47 : Value).ownBlock) ∧ k_ ≠ gb408)) (by (with_reducible repeat (first | apply Kd.N_alloc | apply Kd.N_drewN | apply Kd.N_drew)); exact (Kd.N_mono (Kd.N_far (p := ⟨gb408, 3, none⟩) (Kd.N_far (p := ⟨gb408, 2, none⟩) (Kd.N_far (p := ⟨gb408, 1, none⟩) (Kd.N_far (p := ⟨gb408, 0, none⟩) (Kd.N_mono HO_395003.out (fun k_ hk => (⟨hk, hk.2⟩ : _ ∧ k_ ≠ gb408))) (fun _ hk => hk.2) (.slice A407_0 ((rd_T53 t401 t404).f0).length c407_0)) (fun _ hk => hk.2) (.slice A407_1 ((rd_T53 t401 t404).f1).length c407_1)) (fun _ hk => hk.2) (.int .i64 ((rd_T53 t401 t404).f2))) (fun _ hk => hk.2) (.int .i64 ((rd_T53 t401 t404).f3))) (fun _ h_ => h_.1))) (fun k_ hk_ => (⟨hk_, hk_.1.1.2.2.2⟩ : _ ∧ k_ ≠ g))) hk (fun _ h => h.2)) (fun _ h => h.1)); replace BK379 := Aside0.mk (KeepBut.blk hk (g' := gb379) (o := .cells #[.int .i64 0, .int .i64 0, .int .i64 0, .slice none 0 0] 36 (0, 0)) (bp1_ BK379.out NB379_408.out) NB379_0.out (by simp)); replace BK394 := Aside0.mk (KeepBut.blk hk (g' := gb394) (o := .cells #[.int .i64 t388, .int .i64 t389, .int .i64 t390, .slice Ao43 x395003_1.length co43] 36 (0, 0)) (bp1_ BK394.out NB394_408.out) NB394_0.out (by simp)); replace HO403 := Aside0.mk (Kd.N_mono (Kd.N_keep (Kd.N_mono (ok := fun k_ => ((((w.heap.size ≤ k_)) ∧ (some k_ ≠ (.slice Ao43 x395003_1.length co43 : Value).ownBlock ∧ (k_ ≠ gb379 ∧ (k_ ≠ gb394 ∧ k_ ≠ g)))) ∧ k_ ≠ gb408)) (by (with_reducible repeat (first | apply Kd.N_alloc | apply Kd.N_drewN | apply Kd.N_drew)); exact (Kd.N_mono (Kd.N_far (p := ⟨gb408, 3, none⟩) (Kd.N_far (p := ⟨gb408, 2, none⟩) (Kd.N_far (p := ⟨gb408, 1, none⟩) (Kd.N_far (p := ⟨gb408, 0, none⟩) (Kd.N_mono HO403.out (fun k_ hk => (⟨hk, hk.2⟩ : _ ∧ k_ ≠ gb408))) (fun _ hk => hk.2) (.slice A407_0 ((rd_T53 t401 t404).f0).length c407_0)) (fun _ hk => hk.2) (.slice A407_1 ((rd_T53 t401 t404).f1).length c407_1)) (fun _ hk => hk.2) (.int .i64 ((rd_T53 t401 t404).f2))) (fun _ hk => hk.2) (.int .i64 ((rd_T53 t401 t404).f3))) (fun _ h_ => h_.1))) (fun k_ hk_ => (⟨hk_, hk_.1.2.2.2.2⟩ : _ ∧ k_ ≠ g))) hk (fun _ h => h.2)) (fun _ h => h.1)); replace HL407_0 := Aside0.mk (Kd.V_mono (Kd.V_keep (Kd.V_mono (ok := fun k_ => (((((w.heap.size ≤ k_)) ∧ (some k_ ≠ (.slice Ao43 x395003_1.length co43 : Value).ownBlock ∧ (k_ ≠ gb379 ∧ (k_ ≠ gb394 ∧ k_ ≠ g)))) ∧ some k_ ≠ (.slice (some ad407) t401.length co47 : Value).ownBlock) ∧ k_ ≠ gb408)) (by (with_reducible repeat (first | apply Kd.V_alloc | apply Kd.V_drewN | apply Kd.V_drew)); exact (Kd.V_mono (Kd.V_far (p := ⟨gb408, 3, none⟩) (Kd.V_far (p := ⟨gb408, 2, none⟩) (Kd.V_far (p := ⟨gb408, 1, none⟩) (Kd.V_far (p := ⟨gb408, 0, none⟩) (Kd.V_mono HL407_0.out (fun k_ hk => (⟨hk, hk.2⟩ : _ ∧ k_ ≠ gb408))) (fun _ hk => hk.2) (.slice A407_0 ((rd_T53 t401 t404).f0).length c407_0)) (fun _ hk => hk.2) (.slice A407_1 ((rd_T53 t401 t404).f1).length c407_1)) (fun _ hk => hk.2) (.int .i64 ((rd_T53 t401 t404).f2))) (fun _ hk => hk.2) (.int .i64 ((rd_T53 t401 t404).f3))) (fun _ h_ => h_.1))) (fun k_ hk_ => (⟨hk_, hk_.1.1.2.2.2.2⟩ : _ ∧ k_ ≠ g))) hk (fun _ h => h.2)) (fun _ h => h.1)); replace HL407_1 := Aside0.mk (Kd.V_mono (Kd.V_keep (Kd.V_mono (ok := fun k_ => (((((w.heap.size ≤ k_)) ∧ (some k_ ≠ (.slice Ao43 x395003_1.length co43 : Value).ownBlock ∧ (k_ ≠ gb379 ∧ (k_ ≠ gb394 ∧ k_ ≠ g)))) ∧ some k_ ≠ (.slice (some ad407) t401.length co47 : Value).ownBlock) ∧ k_ ≠ gb408)) (by (with_reducible repeat (first | apply Kd.V_alloc | apply Kd.V_drewN | apply Kd.V_drew)); exact (Kd.V_mono (Kd.V_far (p := ⟨gb408, 3, none⟩) (Kd.V_far (p := ⟨gb408, 2, none⟩) (Kd.V_far (p := ⟨gb408, 1, none⟩) (Kd.V_far (p := ⟨gb408, 0, none⟩) (Kd.V_mono HL407_1.out (fun k_ hk => (⟨hk, hk.2⟩ : _ ∧ k_ ≠ gb408))) (fun _ hk => hk.2) (.slice A407_0 ((rd_T53 t401 t404).f0).length c407_0)) (fun _ hk => hk.2) (.slice A407_1 ((rd_T53 t401 t404).f1).length c407_1)) (fun _ hk => hk.2) (.int .i64 ((rd_T53 t401 t404).f2))) (fun _ hk => hk.2) (.int .i64 ((rd_T53 t401 t404).f3))) (fun _ h_ => h_.1))) (fun k_ hk_ => (⟨hk_, hk_.1.1.2.2.2.2⟩ : _ ∧ k_ ≠ g))) hk (fun _ h => h.2)) (fun _ h => h.1)); replace BK408 := Aside0.mk (KeepBut.blk hk (g' := gb408) (o := .cells #[.slice A407_0 ((rd_T53 t401 t404).f0).length c407_0, .slice A407_1 ((rd_T53 t401 t404).f1).length c407_1, .int .i64 ((rd_T53 t401 t404).f2), .int .i64 ((rd_T53 t401 t404).f3)] 53 (0, 0)) (bp0_ BK408.out) NB408_0.out (by simp)); replace HK := Aside0.mk (KeepBut.trans (by repeat (first | (with_reducible first | exact HK.out | apply KeepBut.set_ | apply keep_drewN | apply keep_drew | apply keep_alloc | refine keep_far ?_ GW379.out _ | refine keep_far ?_ GW394.out _ | refine keep_far ?_ GW408.out _) | exact HK.out)) hk (.inl rfl)); replace HB := Aside0.mk (hb); replace HI0 := Aside0.mk (hi); (try clear hb); (try clear hk); (try clear hi)) | ((with_reducible refine gate_dst (N := 41) rfl ?_); (try (refine gate_guard (by rfl) ?_; dsimp only)); refine Kd.R_lit k100 _ 100 ?hg (N := 41) ?hd (xs := ([] : List (S100))) (inner := []) (ok := fun _ => True) (okp := fun _ => True) ?hr ?hp (fun _ hk => hk) trivial (Below.refl _ _) (Nat.le_refl _) (by simp) ?_; (case hd => rfl); (case hg => rfl); (case hr => first | (go_simp; done) | (go_simp; rfl)); (case hp => exact (Reps.none _ _)); intro v413 w54 ho55 hb hg_ hnew_; clear hg_ hnew_; (first | rw [← Ny412.out] at ho55 | (simp only [Int.reduceToNat] at ho55; rw [← Ny412.out] at ho55)); replace HO_395003 := Aside0.mk (Kd.N_elder' (na_ HO_395003.out) (Kd.R_base ho55) hb); replace HO403 := Aside0.mk (Kd.N_elder' (na_ HO403.out) (Kd.R_base ho55) hb); replace HL407_0 := Aside0.mk (Kd.V_elder' (by (with_reducible repeat (first | apply Kd.V_alloc | apply Kd.V_drewN | apply Kd.V_drew)); exact HL407_0.out) (Kd.R_base ho55) hb); replace HL407_1 := Aside0.mk (Kd.V_elder' (by (with_reducible repeat (first | apply Kd.V_alloc | apply Kd.V_drewN | apply Kd.V_drew)); exact HL407_1.out) (Kd.R_base ho55) hb); have HO414 := Aside0.mk (Kd.R_lower (Kd.R_newM (M := fun k_ => (w.heap.size ≤ k_)) ho55 (keep_size (w := w) (g := g) (row := none) hkx_) (fun k_ h_ => h_)) (keep_size (w := w) (g := g) (row := none) hkx_)); replace BK379 := bb0_ BK379.out hb; replace BK394 := bb0_ BK394.out hb; replace BK408 := bb0_ BK408.out hb; replace HK := Aside0.mk (KeepBut.trans (by repeat (first | (with_reducible first | exact HK.out | apply KeepBut.set_ | apply keep_drewN | apply keep_drew | apply keep_alloc | refine keep_far ?_ GW379.out _ | refine keep_far ?_ GW394.out _ | refine keep_far ?_ GW408.out _) | exact HK.out)) (KeepBut.of_below hb g none) (.inl rfl)); replace HB := Aside0.mk (below_step bi0_ hb); replace HI0 := Aside0.mk (IsS118.below is0_ hb); clear hb ho55; obtain ⟨hcz56_0, hcz56_1, hcz56_2, hcz56_3, hfz56_0, hfz56_1, hfz56_2, hfz56_3⟩ := cf4_ BK408.out; have q57 : ((ji35) : Int) ≤ ((((rd_T53 t401 t404).f1).length : Int) : Int) := of_decide_eq_true as_; obtain ⟨i057, hi057, _, hsz57, _⟩ := info_parts info100; have hroom57 : ((rd_T53 t401 t404).f1).length ≤ c407_1 := HC407_1.out; have hC57 : Kd.F k100 _ _ A407_1 ((rd_T53 t401 t404).f1).length ((rd_T53 t401 t404).f1) := (Kd.V_at (base := w.heap.size) HL407_1.out).2.2; have hcut57 := cut_to (P := Try.prog) 51 100 .i64 Try.underlying51 hi057 A407_1 ((rd_T53 t401 t404).f1).length c407_1 (ji35) (of_decide_eq_true as_) q57 hroom57; have hr57 := Kd.F_take (m := ((ji35) : Int).toNat) hC57 (by omega); have hy57 : y415.length = ((ji35) : Int).toNat := (by rw [Ny415.out, List.length_take]; omega); rw [← Ny415.out] at hr57; rw [← hy57] at hcut57; have HO419 := Aside0.mk (show Kd.V k100 100 _ w.heap.size _ (.slice A407_1 y415.length c407_1) y415 from Kd.V_mk (by omega) hr57); have HC419 := Aside0.mk (show y415.length ≤ c407_1 from by omega); clear hr57 hC57 hroom57 hi057 hsz57; have KY57 := Aside0.mk hy57; clear hy57; replace q57 := eq_true q57) | ((with_reducible refine gate_builtin (b := .append) (xs := #[.tmp 41, .tmp 48]) rfl ?_); (try (refine gate_guard (by rfl) ?_; dsimp only)); at_builtin; refine Kd.R_append_rows k100 w.heap.size rfl (.tmp 41) (.tmp 48) 51 100 (.agg #[(.int .i64 0), (.int .i64 0), (.int .i64 0), (.int .i64 0), (.int .i64 0), (.int .i64 0)]) 48 rfl Try.underlying51 info100 rfl (by decide) (by omega) v413 y412 y415 _ _ _ (fun k_ => (w.heap.size ≤ k_)) (fun _ => False) rfl rfl ?aO ?aR (fun _ _ h => h) (fun _ h => h.elim) ?aF (Below.refl _ _) ?aS ?aL ?_; (case aR => repeat (first | exact (Kd.V_reads' HO419.out).2.2 | (with_reducible refine Kd.C_alloc ?_ _) | (with_reducible refine Kd.C_drewN ?_ _) | (with_reducible refine Kd.C_drew ?_))); (case aF => exact (fun k_ hk => (Nat.le_trans (keep_size (w := w) (g := g) (row := none) hkx_) hk))); (case aO => exact (by (with_reducible repeat (first | apply Kd.R_alloc | apply Kd.R_drewN | apply Kd.R_drew)); exact Kd.R_mono HO414.out (fun _ hk => hk.1))); (case aS => exact (keep_size (w := w) (g := g) (row := none) hkx_)); (case aL => have := LMc38.out; omega); intro v421 w58 ho hb hg hat; rw [← Ny420.out] at ho; replace HO_395003 := Aside0.mk (Kd.N_afterv (ok := (fun k_ => (w.heap.size ≤ k_) ∧ some k_ ≠ (.slice (some ad407) t401.length co47 : Value).ownBlock ∧ k_ ≠ gb379 ∧ k_ ≠ gb394 ∧ k_ ≠ g ∧ k_ ≠ gb408)) (by (with_reducible repeat (first | apply Kd.N_alloc | apply Kd.N_drewN | apply Kd.N_drew)); exact Kd.N_mono HO_395003.out (fun _ hk => ⟨⟨hk.1.1.1.1, ⟨hk.1.1.2, ⟨hk.1.1.1.2.1, ⟨hk.1.1.1.2.2.1, ⟨hk.1.1.1.2.2.2, hk.1.2⟩⟩⟩⟩⟩, hk.2⟩)) hg hat); replace BK379 := Aside0.mk (blk_grown (g := gb379) (o := .cells #[.int .i64 0, .int .i64 0, .int .i64 0, .slice none 0 0] 36 (0, 0)) (bk_ BK379.out) hg (Kd.R_ne HO414.out BK379.out (by decide))); replace BK394 := Aside0.mk (blk_grown (g := gb394) (o := .cells #[.int .i64 t388, .int .i64 t389, .int .i64 t390, .slice Ao43 x395003_1.length co43] 36 (0, 0)) (bk_ BK394.out) hg (Kd.R_ne HO414.out BK394.out (by decide))); replace HO403 := Aside0.mk (Kd.N_afterv (ok := (fun k_ => (w.heap.size ≤ k_) ∧ some k_ ≠ (.slice Ao43 x395003_1.length co43 : Value).ownBlock ∧ k_ ≠ gb379 ∧ k_ ≠ gb394 ∧ k_ ≠ g ∧ k_ ≠ gb408)) (by (with_reducible repeat (first | apply Kd.N_alloc | apply Kd.N_drewN | apply Kd.N_drew)); exact Kd.N_mono HO403.out (fun _ hk => ⟨⟨hk.1.1.1, ⟨hk.1.1.2.1, ⟨hk.1.1.2.2.1, ⟨hk.1.1.2.2.2.1, ⟨hk.1.1.2.2.2.2, hk.1.2⟩⟩⟩⟩⟩, hk.2⟩)) hg hat); replace HL407_0 := Aside0.mk (Kd.V_afterv (ok := (fun k_ => (w.heap.size ≤ k_) ∧ some k_ ≠ (.slice Ao43 x395003_1.length co43 : Value).ownBlock ∧ some k_ ≠ (.slice (some ad407) t401.length co47 : Value).ownBlock ∧ k_ ≠ gb379 ∧ k_ ≠ gb394 ∧ k_ ≠ g ∧ k_ ≠ gb408)) (by (with_reducible repeat (first | apply Kd.V_alloc | apply Kd.V_drewN | apply Kd.V_drew)); exact Kd.V_mono HL407_0.out (fun _ hk => ⟨⟨hk.1.1.1.1, ⟨hk.1.1.1.2.1, ⟨hk.1.1.2, ⟨hk.1.1.1.2.2.1, ⟨hk.1.1.1.2.2.2.1, ⟨hk.1.1.1.2.2.2.2, hk.1.2⟩⟩⟩⟩⟩⟩, hk.2⟩)) hg hat); replace HL407_1 := Aside0.mk (Kd.V_afterv (ok := (fun k_ => (w.heap.size ≤ k_) ∧ some k_ ≠ (.slice Ao43 x395003_1.length co43 : Value).ownBlock ∧ some k_ ≠ (.slice (some ad407) t401.length co47 : Value).ownBlock ∧ k_ ≠ gb379 ∧ k_ ≠ gb394 ∧ k_ ≠ g ∧ k_ ≠ gb408)) (by (with_reducible repeat (first | apply Kd.V_alloc | apply Kd.V_drewN | apply Kd.V_drew)); exact Kd.V_mono HL407_1.out (fun _ hk => ⟨⟨hk.1.1.1.1, ⟨hk.1.1.1.2.1, ⟨hk.1.1.2, ⟨hk.1.1.1.2.2.1, ⟨hk.1.1.1.2.2.2.1, ⟨hk.1.1.1.2.2.2.2, hk.1.2⟩⟩⟩⟩⟩⟩, hk.2⟩)) hg hat); replace BK408 := Aside0.mk (blk_grown (g := gb408) (o := .cells #[.slice A407_0 ((rd_T53 t401 t404).f0).length c407_0, .slice A407_1 ((rd_T53 t401 t404).f1).length c407_1, .int .i64 ((rd_T53 t401 t404).f2), .int .i64 ((rd_T53 t401 t404).f3)] 53 (0, 0)) (bk_ BK408.out) hg (Kd.R_ne HO414.out BK408.out (by decide))); replace HO419 := Aside0.mk (Kd.V_afterv (ok := (fun k_ => (w.heap.size ≤ k_) ∧ some k_ ≠ (.slice Ao43 x395003_1.length co43 : Value).ownBlock ∧ some k_ ≠ (.slice (some ad407) t401.length co47 : Value).ownBlock ∧ k_ ≠ gb379 ∧ k_ ≠ gb394 ∧ k_ ≠ g ∧ k_ ≠ gb408)) (by (with_reducible repeat (first | apply Kd.V_alloc | apply Kd.V_drewN | apply Kd.V_drew)); exact Kd.V_mono HO419.out (fun _ hk => ⟨⟨hk.1.1.1.1, ⟨hk.1.1.1.2.1, ⟨hk.1.1.2, ⟨hk.1.1.1.2.2.1, ⟨hk.1.1.1.2.2.2.1, ⟨hk.1.1.1.2.2.2.2, hk.1.2⟩⟩⟩⟩⟩⟩, hk.2⟩)) hg hat); replace HB := Aside0.mk (below_weaken bi0_ HL.out hb); replace HI0 := Aside0.mk (IsS118.grown (show IsS118 w0 _ g s0_0 t410 t411 from is0_) hg (IsS118.own_ne HI0.out HO414.out (by decide))); replace HK := Aside0.mk (KeepBut.trans (by repeat (first | (with_reducible first | exact HK.out | apply KeepBut.set_ | apply keep_drewN | apply keep_drew | apply keep_alloc | refine keep_far ?_ GW379.out _ | refine keep_far ?_ GW394.out _ | refine keep_far ?_ GW408.out _) | exact HK.out)) (KeepBut.of_grown hg g) (Kd.R_base2 HO414.out)); have HO422 := Aside0.mk (ho); clear HO414; clear ho hb hg hat; obtain ⟨Ao59, co59, eo59⟩ := Kd.R_slice HO422.out; subst eo59; obtain ⟨hcz60_0, hcz60_1, hcz60_2, hcz60_3, hfz60_0, hfz60_1, hfz60_2, hfz60_3⟩ := cf4_ BK408.out) | ((with_reducible refine gate_store (t := 51) (p := 50) rfl ?_); refine store_event (t := 51) (p := 50) (v := ?vo_w61) (w1 := (w58.setCell ⟨gb408, 1, none⟩ (.slice Ao59 y420.length co59))) ?hg ?ho ?hn ?hr ?_; (case ho => rfl); (case hg => rfl); (case hn => rfl); (case hr => first | (go_simp; done) | (go_simp; rfl)); intro w61 hw; have n0_ : Aside0 (Kd.N k53 53 w61 w.heap.size (fun k_ => (w.heap.size ≤ k_) ∧ some k_ ≠ (.slice (some ad407) t401.length co47 : Value).ownBlock ∧ some k_ ≠ (.slice Ao59 y420.length co59 : Value).ownBlock ∧ k_ ≠ gb379 ∧ k_ ≠ gb394 ∧ k_ ≠ g ∧ k_ ≠ gb408) (.slice Ao43 x395003_1.length co43) x395003_1) := ⟨(by rw [hw]; exact (by (with_reducible repeat (first | apply Kd.N_alloc | apply Kd.N_drewN | apply Kd.N_drew)); exact Kd.N_mono (Kd.N_far (p := ⟨gb408, 1, none⟩) (Kd.N_mono HO_395003.out (fun k_ hk => (⟨hk, hk.1.2.2.2.2.2⟩ : _ ∧ k_ ≠ gb408))) (fun _ hk => hk.2) (.slice Ao59 y420.length co59)) (fun _ hk => ⟨hk.1.1.1, ⟨hk.1.1.2.1, ⟨hk.1.2, ⟨hk.1.1.2.2.1, ⟨hk.1.1.2.2.2.1, ⟨hk.1.1.2.2.2.2.1, hk.1.1.2.2.2.2.2⟩⟩⟩⟩⟩⟩)))⟩; have n1_ : Aside0 (Kd.N k53 53 w61 w.heap.size (fun k_ => (w.heap.size ≤ k_) ∧ some k_ ≠ (.slice Ao43 x395003_1.length co43 : Value).ownBlock ∧ some k_ ≠ (.slice Ao59 y420.length co59 : Value).ownBlock ∧ k_ ≠ gb379 ∧ k_ ≠ gb394 ∧ k_ ≠ g ∧ k_ ≠ gb408) (.slice (some ad407) t401.length co47) t401) := ⟨(by rw [hw]; exact (by (with_reducible repeat (first | apply Kd.N_alloc | apply Kd.N_drewN | apply Kd.N_drew)); exact Kd.N_mono (Kd.N_far (p := ⟨gb408, 1, none⟩) (Kd.N_mono HO403.out (fun k_ hk => (⟨hk, hk.1.2.2.2.2.2⟩ : _ ∧ k_ ≠ gb408))) (fun _ hk => hk.2) (.slice Ao59 y420.length co59)) (fun _ hk => ⟨hk.1.1.1, ⟨hk.1.1.2.1, ⟨hk.1.2, ⟨hk.1.1.2.2.1, ⟨hk.1.1.2.2.2.1, ⟨hk.1.1.2.2.2.2.1, hk.1.1.2.2.2.2.2⟩⟩⟩⟩⟩⟩)))⟩; have n2_ : Aside0 (Kd.V (Kd.int .i64) 3 w61 w.heap.size (fun k_ => (w.heap.size ≤ k_) ∧ some k_ ≠ (.slice Ao43 x395003_1.length co43 : Value).ownBlock ∧ some k_ ≠ (.slice (some ad407) t401.length co47 : Value).ownBlock ∧ some k_ ≠ (.slice Ao59 y420.length co59 : Value).ownBlock ∧ k_ ≠ gb379 ∧ k_ ≠ gb394 ∧ k_ ≠ g ∧ k_ ≠ gb408) (.slice A407_0 ((rd_T53 t401 t404).f0).length c407_0) ((rd_T53 t401 t404).f0)) := ⟨(by rw [hw]; exact (by (with_reducible repeat (first | apply Kd.V_alloc | apply Kd.V_drewN | apply Kd.V_drew)); exact Kd.V_mono (Kd.V_far (p := ⟨gb408, 1, none⟩) (Kd.V_mono HL407_0.out (fun k_ hk => (⟨hk, hk.1.2.2.2.2.2.2⟩ : _ ∧ k_ ≠ gb408))) (fun _ hk => hk.2) (.slice Ao59 y420.length co59)) (fun _ hk => ⟨hk.1.1.1, ⟨hk.1.1.2.1, ⟨hk.1.1.2.2.1, ⟨hk.1.2, ⟨hk.1.1.2.2.2.1, ⟨hk.1.1.2.2.2.2.1, ⟨hk.1.1.2.2.2.2.2.1, hk.1.1.2.2.2.2.2.2⟩⟩⟩⟩⟩⟩⟩)))⟩; have n3_ : Aside0 (Kd.V k100 100 w61 w.heap.size (fun k_ => (w.heap.size ≤ k_) ∧ some k_ ≠ (.slice Ao43 x395003_1.length co43 : Value).ownBlock ∧ some k_ ≠ (.slice (some ad407) t401.length co47 : Value).ownBlock ∧ some k_ ≠ (.slice Ao59 y420.length co59 : Value).ownBlock ∧ k_ ≠ gb379 ∧ k_ ≠ gb394 ∧ k_ ≠ g ∧ k_ ≠ gb408) (.slice A407_1 ((rd_T53 t401 t404).f1).length c407_1) ((rd_T53 t401 t404).f1)) := ⟨(by rw [hw]; exact (by (with_reducible repeat (first | apply Kd.V_alloc | apply Kd.V_drewN | apply Kd.V_drew)); exact Kd.V_mono (Kd.V_far (p := ⟨gb408, 1, none⟩) (Kd.V_mono HL407_1.out (fun k_ hk => (⟨hk, hk.1.2.2.2.2.2.2⟩ : _ ∧ k_ ≠ gb408))) (fun _ hk => hk.2) (.slice Ao59 y420.length co59)) (fun _ hk => ⟨hk.1.1.1, ⟨hk.1.1.2.1, ⟨hk.1.1.2.2.1, ⟨hk.1.2, ⟨hk.1.1.2.2.2.1, ⟨hk.1.1.2.2.2.2.1, ⟨hk.1.1.2.2.2.2.2.1, hk.1.1.2.2.2.2.2.2⟩⟩⟩⟩⟩⟩⟩)))⟩; have n4_ : Aside0 (Kd.V k100 100 w61 w.heap.size (fun k_ => (w.heap.size ≤ k_) ∧ some k_ ≠ (.slice Ao43 x395003_1.length co43 : Value).ownBlock ∧ some k_ ≠ (.slice (some ad407) t401.length co47 : Value).ownBlock ∧ some k_ ≠ (.slice Ao59 y420.length co59 : Value).ownBlock ∧ k_ ≠ gb379 ∧ k_ ≠ gb394 ∧ k_ ≠ g ∧ k_ ≠ gb408) (.slice A407_1 y415.length c407_1) y415) := ⟨(by rw [hw]; exact (by (with_reducible repeat (first | apply Kd.V_alloc | apply Kd.V_drewN | apply Kd.V_drew)); exact Kd.V_mono (Kd.V_far (p := ⟨gb408, 1, none⟩) (Kd.V_mono HO419.out (fun k_ hk => (⟨hk, hk.1.2.2.2.2.2.2⟩ : _ ∧ k_ ≠ gb408))) (fun _ hk => hk.2) (.slice Ao59 y420.length co59)) (fun _ hk => ⟨hk.1.1.1, ⟨hk.1.1.2.1, ⟨hk.1.1.2.2.1, ⟨hk.1.2, ⟨hk.1.1.2.2.2.1, ⟨hk.1.1.2.2.2.2.1, ⟨hk.1.1.2.2.2.2.2.1, hk.1.1.2.2.2.2.2.2⟩⟩⟩⟩⟩⟩⟩)))⟩; have n5_ : Aside0 (Kd.R k100 100 w61 w.heap.size (fun k_ => (w.heap.size ≤ k_)) (.slice Ao59 y420.length co59) y420) := ⟨(by rw [hw]; exact (by (with_reducible repeat (first | apply Kd.R_alloc | apply Kd.R_drewN | apply Kd.R_drew)); exact Kd.R_mono (Kd.R_far (p := ⟨gb408, 1, none⟩) (Kd.R_types HO422.out BK408.out (by decide)) (fun _ hk => hk.2) (.slice Ao59 y420.length co59)) (fun _ hk => hk.1)))⟩; have n6_ : Aside0 (w61.heap[gb379]? = some (.cells #[.int .i64 0, .int .i64 0, .int .i64 0, .slice none 0 0] 36 (0, 0))) := ⟨(by rw [hw]; exact (bp1_ BK379.out NB379_408.out))⟩; have n7_ : Aside0 (w61.heap[gb394]? = some (.cells #[.int .i64 t388, .int .i64 t389, .int .i64 t390, .slice Ao43 x395003_1.length co43] 36 (0, 0))) := ⟨(by rw [hw]; exact (bp1_ BK394.out NB394_408.out))⟩; have n8_ : Aside0 (w61.heap[gb408]? = some (.cells #[.slice A407_0 ((rd_T53 t401 t404).f0).length c407_0, .slice Ao59 y420.length co59, .int .i64 ((rd_T53 t401 t404).f2), .int .i64 ((rd_T53 t401 t404).f3)] 53 (0, 0))) := ⟨(by rw [hw]; exact (bp0_ BK408.out))⟩; have n9_ : Aside0 (IsS118 w0 w61 g s0_0 t410 t411) := ⟨(by rw [hw]; exact is0_)⟩; have n10_ : Aside0 (KeepBut w w61 g none) := ⟨(by rw [hw]; exact hkx_)⟩; have n11_ : Aside0 (Below w0.heap.size w0 w61) := ⟨(by rw [hw]; exact bi0_)⟩; clear hw; clear HO_395003; clear HO403; clear HL407_0; clear HL407_1; clear HO419; clear HO422; clear BK379; clear BK394; clear BK408; clear HI0; clear HK; clear HB; have HO_395003 := n0_; have HO403 := n1_; have HL407_0 := n2_; have HL407_1 := n3_; have HO419 := n4_; have HO422 := n5_; have BK379 := n6_; have BK394 := n7_; have BK408 := n8_; have HI0 := n9_; have HK := n10_; have HB := n11_; clear n0_ n1_ n2_ n3_ n4_ n5_ n6_ n7_ n8_ n9_ n10_ n11_; obtain ⟨hcz62_0, hcz62_1, hcz62_2, hcz62_3, hfz62_0, hfz62_1, hfz62_2, hfz62_3⟩ := cf4_ BK394.out; obtain ⟨hcz63_0, hcz63_1, hcz63_2, hcz63_3, hfz63_0, hfz63_1, hfz63_2, hfz63_3⟩ := cf4_ BK408.out) | ((with_reducible refine gate_builtin (b := .append) (xs := #[.tmp 64, .tmp 66]) rfl ?_); (try (refine gate_guard (by rfl) ?_; dsimp only)); at_builtin; refine Kd.N_append k53 w.heap.size rfl (.tmp 64) (.tmp 66) 34 53 (.agg #[(.slice none 0 0), (.slice none 0 0), (.int .i64 0), (.int .i64 0)]) 64 rfl Try.underlying34 info53 rfl (by decide) (by omega) (.slice Ao43 x395003_1.length co43) x395003_1 (⟨(rd_T53 t401 t404).f0, y420, (rd_T53 t401 t404).f2, (rd_T53 t401 t404).f3⟩ : S53) [.slice A407_0 ((rd_T53 t401 t404).f0).length c407_0, .slice Ao59 y420.length co59, .int .i64 ((rd_T53 t401 t404).f2), .int .i64 ((rd_T53 t401 t404).f3)] (fun k_ => (w.heap.size ≤ k_) ∧ some k_ ≠ (.slice (some ad407) t401.length co47 : Value).ownBlock ∧ k_ ≠ gb379 ∧ k_ ≠ gb394 ∧ k_ ≠ gb408 ∧ k_ ≠ g) (fun k_ => ((fun k_ => (w.heap.size ≤ k_) ∧ some k_ ≠ (.slice (some ad407) t401.length co47 : Value).ownBlock ∧ k_ ≠ gb379 ∧ k_ ≠ gb394 ∧ k_ ≠ gb408 ∧ k_ ≠ g)) k_ ∧ some k_ ≠ (.slice Ao43 x395003_1.length co43 : Value).ownBlock) rfl rfl ?aP (fun _ hk => hk) ?aF ?aO (Below.refl _ _) ?aS ?aL ?_; (case aP => exact (k53_mkF _ _ (⟨(rd_T53 t401 t404).f0, y420, (rd_T53 t401 t404).f2, (rd_T53 t401 t404).f3⟩ : S53) (Kd.V_reads' (Kd.V_mono (ok' := (fun k_ => ((fun k_ => (w.heap.size ≤ k_) ∧ some k_ ≠ (.slice (some ad407) t401.length co47 : Value).ownBlock ∧ k_ ≠ gb379 ∧ k_ ≠ gb394 ∧ k_ ≠ gb408 ∧ k_ ≠ g)) k_ ∧ some k_ ≠ (.slice Ao43 x395003_1.length co43 : Value).ownBlock)) (HL407_0.out) (fun k_ hk => ⟨⟨hk.1, ⟨hk.2.2.1, ⟨hk.2.2.2.2.1, ⟨hk.2.2.2.2.2.1, ⟨hk.2.2.2.2.2.2.2, hk.2.2.2.2.2.2.1⟩⟩⟩⟩⟩, hk.2.1⟩))).2.1 (Kd.V_F (Kd.V_mono (ok' := (fun k_ => ((fun k_ => (w.heap.size ≤ k_) ∧ some k_ ≠ (.slice (some ad407) t401.length co47 : Value).ownBlock ∧ k_ ≠ gb379 ∧ k_ ≠ gb394 ∧ k_ ≠ gb408 ∧ k_ ≠ g)) k_ ∧ some k_ ≠ (.slice Ao43 x395003_1.length co43 : Value).ownBlock)) (HL407_0.out) (fun k_ hk => ⟨⟨hk.1, ⟨hk.2.2.1, ⟨hk.2.2.2.2.1, ⟨hk.2.2.2.2.2.1, ⟨hk.2.2.2.2.2.2.2, hk.2.2.2.2.2.2.1⟩⟩⟩⟩⟩, hk.2.1⟩))) (Kd.R_reads' (Kd.R_mono (ok' := (fun k_ => ((fun k_ => (w.heap.size ≤ k_) ∧ some k_ ≠ (.slice (some ad407) t401.length co47 : Value).ownBlock ∧ k_ ≠ gb379 ∧ k_ ≠ gb394 ∧ k_ ≠ gb408 ∧ k_ ≠ g)) k_ ∧ some k_ ≠ (.slice Ao43 x395003_1.length co43 : Value).ownBlock)) (IsS118.apart HI0.out (Kd.R_types (Kd.R_types (Kd.R_types (Kd.R_apart' (Kd.R_apart' (HO422.out) (Kd.N_typed HO403.out) (by decide)) (Kd.N_typed HO_395003.out) (by decide)) BK379.out (by decide)) BK394.out (by decide)) BK408.out (by decide)) (by decide)) (fun k_ hk => ⟨⟨hk.1.1.1.1.1.1, ⟨hk.1.1.1.1.1.2, ⟨hk.1.1.1.2, ⟨hk.1.1.2, ⟨hk.1.2, hk.2⟩⟩⟩⟩⟩, hk.1.1.1.1.2⟩))).2.1 (Kd.R_F (Kd.R_mono (ok' := (fun k_ => ((fun k_ => (w.heap.size ≤ k_) ∧ some k_ ≠ (.slice (some ad407) t401.length co47 : Value).ownBlock ∧ k_ ≠ gb379 ∧ k_ ≠ gb394 ∧ k_ ≠ gb408 ∧ k_ ≠ g)) k_ ∧ some k_ ≠ (.slice Ao43 x395003_1.length co43 : Value).ownBlock)) (IsS118.apart HI0.out (Kd.R_types (Kd.R_types (Kd.R_types (Kd.R_apart' (Kd.R_apart' (HO422.out) (Kd.N_typed HO403.out) (by decide)) (Kd.N_typed HO_395003.out) (by decide)) BK379.out (by decide)) BK394.out (by decide)) BK408.out (by decide)) (by decide)) (fun k_ hk => ⟨⟨hk.1.1.1.1.1.1, ⟨hk.1.1.1.1.1.2, ⟨hk.1.1.1.2, ⟨hk.1.1.2, ⟨hk.1.2, hk.2⟩⟩⟩⟩⟩, hk.1.1.1.1.2⟩))))); (case aF => exact (fun k_ hk => ⟨(Nat.le_trans (keep_size (w := w) (g := g) (row := none) hkx_) hk), Kd.fresh' (Kd.N_lt (na_ HO403.out)) k_ hk, fb_ BK379.out k_ hk, fb_ BK394.out k_ hk, fb_ BK408.out k_ hk, IsS118.fresh is0_ k_ hk⟩)); (case aO => exact (by (with_reducible repeat (first | apply Kd.N_alloc | apply Kd.N_drewN | apply Kd.N_drew)); exact Kd.N_mono HO_395003.out (fun _ hk => ⟨hk.1, ⟨hk.2.1, ⟨hk.2.2.2.1, ⟨hk.2.2.2.2.1, ⟨hk.2.2.2.2.2.2, hk.2.2.2.2.2.1⟩⟩⟩⟩⟩))); (case aS => exact (keep_size (w := w) (g := g) (row := none) hkx_)); (case aL => have := LMc39.out; omega); intro v424 w64 ho hb hg hat; rw [← Ny423.out] at ho; replace BK379 := Aside0.mk (blk_grown (g := gb379) (o := .cells #[.int .i64 0, .int .i64 0, .int .i64 0, .slice none 0 0] 36 (0, 0)) (bk_ BK379.out) hg (Kd.N_ne HO_395003.out BK379.out (by decide))); replace BK394 := Aside0.mk (blk_grown (g := gb394) (o := .cells #[.int .i64 t388, .int .i64 t389, .int .i64 t390, .slice Ao43 x395003_1.length co43] 36 (0, 0)) (bk_ BK394.out) hg (Kd.N_ne HO_395003.out BK394.out (by decide))); replace HO403 := Aside0.mk (Kd.N_afterv (ok := (fun k_ => (w.heap.size ≤ k_) ∧ some k_ ≠ (.slice Ao59 y420.length co59 : Value).ownBlock ∧ k_ ≠ gb379 ∧ k_ ≠ gb394 ∧ k_ ≠ g ∧ k_ ≠ gb408)) (by (with_reducible repeat (first | apply Kd.N_alloc | apply Kd.N_drewN | apply Kd.N_drew)); exact Kd.N_mono HO403.out (fun _ hk => ⟨⟨hk.1, ⟨hk.2.2.1, ⟨hk.2.2.2.1, ⟨hk.2.2.2.2.1, ⟨hk.2.2.2.2.2.1, hk.2.2.2.2.2.2⟩⟩⟩⟩⟩, hk.2.1⟩)) hg hat); replace HL407_0 := Aside0.mk (Kd.V_afterv (ok := (fun k_ => (w.heap.size ≤ k_) ∧ some k_ ≠ (.slice (some ad407) t401.length co47 : Value).ownBlock ∧ some k_ ≠ (.slice Ao59 y420.length co59 : Value).ownBlock ∧ k_ ≠ gb379 ∧ k_ ≠ gb394 ∧ k_ ≠ g ∧ k_ ≠ gb408)) (by (with_reducible repeat (first | apply Kd.V_alloc | apply Kd.V_drewN | apply Kd.V_drew)); exact Kd.V_mono HL407_0.out (fun _ hk => ⟨⟨hk.1, ⟨hk.2.2.1, ⟨hk.2.2.2.1, ⟨hk.2.2.2.2.1, ⟨hk.2.2.2.2.2.1, ⟨hk.2.2.2.2.2.2.1, hk.2.2.2.2.2.2.2⟩⟩⟩⟩⟩⟩, hk.2.1⟩)) hg hat); replace HL407_1 := Aside0.mk (Kd.V_afterv (ok := (fun k_ => (w.heap.size ≤ k_) ∧ some k_ ≠ (.slice (some ad407) t401.length co47 : Value).ownBlock ∧ some k_ ≠ (.slice Ao59 y420.length co59 : Value).ownBlock ∧ k_ ≠ gb379 ∧ k_ ≠ gb394 ∧ k_ ≠ g ∧ k_ ≠ gb408)) (by (with_reducible repeat (first | apply Kd.V_alloc | apply Kd.V_drewN | apply Kd.V_drew)); exact Kd.V_mono HL407_1.out (fun _ hk => ⟨⟨hk.1, ⟨hk.2.2.1, ⟨hk.2.2.2.1, ⟨hk.2.2.2.2.1, ⟨hk.2.2.2.2.2.1, ⟨hk.2.2.2.2.2.2.1, hk.2.2.2.2.2.2.2⟩⟩⟩⟩⟩⟩, hk.2.1⟩)) hg hat); replace BK408 := Aside0.mk (blk_grown (g := gb408) (o := .cells #[.slice A407_0 ((rd_T53 t401 t404).f0).length c407_0, .slice Ao59 y420.length co59, .int .i64 ((rd_T53 t401 t404).f2), .int .i64 ((rd_T53 t401 t404).f3)] 53 (0, 0)) (bk_ BK408.out) hg (Kd.N_away HO_395003.out (fun _ hk => hk.2.2.2.2.2.2))); replace HO419 := Aside0.mk (Kd.V_afterv (ok := (fun k_ => (w.heap.size ≤ k_) ∧ some k_ ≠ (.slice (some ad407) t401.length co47 : Value).ownBlock ∧ some k_ ≠ (.slice Ao59 y420.length co59 : Value).ownBlock ∧ k_ ≠ gb379 ∧ k_ ≠ gb394 ∧ k_ ≠ g ∧ k_ ≠ gb408)) (by (with_reducible repeat (first | apply Kd.V_alloc | apply Kd.V_drewN | apply Kd.V_drew)); exact Kd.V_mono HO419.out (fun _ hk => ⟨⟨hk.1, ⟨hk.2.2.1, ⟨hk.2.2.2.1, ⟨hk.2.2.2.2.1, ⟨hk.2.2.2.2.2.1, ⟨hk.2.2.2.2.2.2.1, hk.2.2.2.2.2.2.2⟩⟩⟩⟩⟩⟩, hk.2.1⟩)) hg hat); replace HB := Aside0.mk (below_weaken bi0_ HL.out hb); replace HI0 := Aside0.mk (IsS118.grown (show IsS118 w0 _ g s0_0 t410 t411 from is0_) hg (IsS118.own_neN HI0.out HO_395003.out (by decide))); replace HK := Aside0.mk (KeepBut.trans (by repeat (first | (with_reducible first | exact HK.out | apply KeepBut.set_ | apply keep_drewN | apply keep_drew | apply keep_alloc | refine keep_far ?_ GW379.out _ | refine keep_far ?_ GW394.out _ | refine keep_far ?_ GW408.out _) | exact HK.out)) (KeepBut.of_grown hg g) (Kd.N_base2 HO_395003.out)); have HO425 := Aside0.mk (ho); clear HO_395003 HO422; clear ho hb hg hat; obtain ⟨Ao65, co65, eo65⟩ := Kd.N_slice HO425.out; subst eo65; obtain ⟨hcz66_0, hcz66_1, hcz66_2, hcz66_3, hfz66_0, hfz66_1, hfz66_2, hfz66_3⟩ := cf4_ BK394.out))
  go_roundg kj12
  case measure => have := HK1.out; have := HJ12.out; omega
  case rel => exact ⟨(wrap64 (x4_1 + 1)), (t410), (t411), (y423), (.slice Ao65 y423.length co65), (sr_), H', ⟨by have := HK1.out; have := HJ12.out; omega⟩, ⟨by (with_reducible repeat (first | apply Kd.N_alloc | apply Kd.N_drewN | apply Kd.N_drew)); exact Kd.N_mono (Kd.N_far (p := ⟨gb394, 3, none⟩) (Kd.N_mono HO425.out (fun k_ hk => (⟨hk, hk.2.2.2.1⟩ : _ ∧ k_ ≠ gb394))) (fun _ hk => hk.2) (.slice Ao65 y423.length co65)) (fun _ hk => ⟨hk.1.1, ⟨hk.1.2.2.1, ⟨hk.1.2.2.2.1, hk.1.2.2.2.2.2⟩⟩⟩)⟩, ⟨bp1_ BK379.out NB379_394.out⟩, ⟨bp0_ BK394.out⟩, ⟨is0_⟩, ⟨hkx_⟩, ⟨bi0_⟩⟩
 rw [if_neg c34] at H
 have c34b0 : (t409 == 0) = false := beq_eq_false_iff_ne.mpr c34
 have c34b1 : (t409 != 0) = true := bne_iff_ne.mpr c34
 by_cases c67 : t409 = 1
 ·rw [if_pos c67] at H
  have c67b0 : (t409 == 1) = true := beq_iff_eq.mpr c67
  have c67b1 : (t409 != 1) = false := bne_eq_false_iff_eq.mpr c67
  clear c67
  obtain ⟨y426, hy426⟩ : ∃ y_ : List Int, y_ = (([] : List Int)) := ⟨_, rfl⟩
  replace H : (if x395003_1.length < 2199023255552 then (spec_l24Policy.l0 kj12 (wrap64 (x4_1 + 1)) s0_0 t410 t411 t388 t389 t390 (x395003_1 ++ [(⟨y426, (rd_T53 t401 t404).f1, (rd_T53 t401 t404).f2, (rd_T53 t401 t404).f3⟩ : S53)])) else (none)) = some (r1, r2, r3, r4, r5, r6) := rp_ H hy426
  have Ny426 := Aside0.mk hy426
  clear hy426
  by_cases c68 : x395003_1.length < 2199023255552
  rotate_left
  ·exact nn_ c68 H
  rw [if_pos c68] at H
  have LMc68 := Aside0.mk c68
  clear c68
  obtain ⟨y429, hy429⟩ : ∃ y_ : List (S53), y_ = (x395003_1 ++ [(⟨y426, (rd_T53 t401 t404).f1, (rd_T53 t401 t404).f2, (rd_T53 t401 t404).f3⟩ : S53)]) := ⟨_, rfl⟩
  replace H : (spec_l24Policy.l0 kj12 (wrap64 (x4_1 + 1)) s0_0 t410 t411 t388 t389 t390 y429) = some (r1, r2, r3, r4, r5, r6) := rp_ H hy429
  have Ny429 := Aside0.mk hy429
  clear hy429
  have H' := Aside0.mk H
  clear H
  go_wp2_with (first | ((with_reducible refine gate_callee (f := 62) rfl ?_); refine gs_ (some 38) Try.func62 #[.pointer (some ⟨g, 0, none⟩), .int .i64 4] ?_; (with_reducible refine (spec_l01Below.calls g s0_0 t405 t406 4 t409 t410 t411 w0 _ ?side1 ?side2 A33.out).mono ?_); (case side1 => exact is0_); (case side2 => exact bi0_); rintro e w82 ⟨rfl, hi, hb, hk⟩; refine ⟨_, rfl, ?_⟩; replace HO_395003 := Aside0.mk (Kd.N_mono (Kd.N_keep (Kd.N_mono (ok := fun k_ => (((((w.heap.size ≤ k_)) ∧ (k_ ≠ gb379 ∧ (k_ ≠ gb394 ∧ k_ ≠ g))) ∧ some k_ ≠ (.slice (some ad407) t401.length co47 : Value).ownBlock) ∧ k_ ≠ gb408)) (by (with_reducible repeat (first | apply Kd.N_alloc | apply Kd.N_drewN | apply Kd.N_drew)); exact (Kd.N_mono (Kd.N_far (p := ⟨gb408, 3, none⟩) (Kd.N_far (p := ⟨gb408, 2, none⟩) (Kd.N_far (p := ⟨gb408, 1, none⟩) (Kd.N_far (p := ⟨gb408, 0, none⟩) (Kd.N_mono HO_395003.out (fun k_ hk => (⟨hk, hk.2⟩ : _ ∧ k_ ≠ gb408))) (fun _ hk => hk.2) (.slice A407_0 ((rd_T53 t401 t404).f0).length c407_0)) (fun _ hk => hk.2) (.slice A407_1 ((rd_T53 t401 t404).f1).length c407_1)) (fun _ hk => hk.2) (.int .i64 ((rd_T53 t401 t404).f2))) (fun _ hk => hk.2) (.int .i64 ((rd_T53 t401 t404).f3))) (fun _ h_ => h_.1))) (fun k_ hk_ => (⟨hk_, hk_.1.1.2.2.2⟩ : _ ∧ k_ ≠ g))) hk (fun _ h => h.2)) (fun _ h => h.1)); replace BK379 := Aside0.mk (KeepBut.blk hk (g' := gb379) (o := .cells #[.int .i64 0, .int .i64 0, .int .i64 0, .slice none 0 0] 36 (0, 0)) (bp1_ BK379.out NB379_408.out) NB379_0.out (by simp)); replace BK394 := Aside0.mk (KeepBut.blk hk (g' := gb394) (o := .cells #[.int .i64 t388, .int .i64 t389, .int .i64 t390, .slice Ao43 x395003_1.length co43] 36 (0, 0)) (bp1_ BK394.out NB394_408.out) NB394_0.out (by simp)); replace HO403 := Aside0.mk (Kd.N_mono (Kd.N_keep (Kd.N_mono (ok := fun k_ => ((((w.heap.size ≤ k_)) ∧ (some k_ ≠ (.slice Ao43 x395003_1.length co43 : Value).ownBlock ∧ (k_ ≠ gb379 ∧ (k_ ≠ gb394 ∧ k_ ≠ g)))) ∧ k_ ≠ gb408)) (by (with_reducible repeat (first | apply Kd.N_alloc | apply Kd.N_drewN | apply Kd.N_drew)); exact (Kd.N_mono (Kd.N_far (p := ⟨gb408, 3, none⟩) (Kd.N_far (p := ⟨gb408, 2, none⟩) (Kd.N_far (p := ⟨gb408, 1, none⟩) (Kd.N_far (p := ⟨gb408, 0, none⟩) (Kd.N_mono HO403.out (fun k_ hk => (⟨hk, hk.2⟩ : _ ∧ k_ ≠ gb408))) (fun _ hk => hk.2) (.slice A407_0 ((rd_T53 t401 t404).f0).length c407_0)) (fun _ hk => hk.2) (.slice A407_1 ((rd_T53 t401 t404).f1).length c407_1)) (fun _ hk => hk.2) (.int .i64 ((rd_T53 t401 t404).f2))) (fun _ hk => hk.2) (.int .i64 ((rd_T53 t401 t404).f3))) (fun _ h_ => h_.1))) (fun k_ hk_ => (⟨hk_, hk_.1.2.2.2.2⟩ : _ ∧ k_ ≠ g))) hk (fun _ h => h.2)) (fun _ h => h.1)); replace HL407_0 := Aside0.mk (Kd.V_mono (Kd.V_keep (Kd.V_mono (ok := fun k_ => (((((w.heap.size ≤ k_)) ∧ (some k_ ≠ (.slice Ao43 x395003_1.length co43 : Value).ownBlock ∧ (k_ ≠ gb379 ∧ (k_ ≠ gb394 ∧ k_ ≠ g)))) ∧ some k_ ≠ (.slice (some ad407) t401.length co47 : Value).ownBlock) ∧ k_ ≠ gb408)) (by (with_reducible repeat (first | apply Kd.V_alloc | apply Kd.V_drewN | apply Kd.V_drew)); exact (Kd.V_mono (Kd.V_far (p := ⟨gb408, 3, none⟩) (Kd.V_far (p := ⟨gb408, 2, none⟩) (Kd.V_far (p := ⟨gb408, 1, none⟩) (Kd.V_far (p := ⟨gb408, 0, none⟩) (Kd.V_mono HL407_0.out (fun k_ hk => (⟨hk, hk.2⟩ : _ ∧ k_ ≠ gb408))) (fun _ hk => hk.2) (.slice A407_0 ((rd_T53 t401 t404).f0).length c407_0)) (fun _ hk => hk.2) (.slice A407_1 ((rd_T53 t401 t404).f1).length c407_1)) (fun _ hk => hk.2) (.int .i64 ((rd_T53 t401 t404).f2))) (fun _ hk => hk.2) (.int .i64 ((rd_T53 t401 t404).f3))) (fun _ h_ => h_.1))) (fun k_ hk_ => (⟨hk_, hk_.1.1.2.2.2.2⟩ : _ ∧ k_ ≠ g))) hk (fun _ h => h.2)) (fun _ h => h.1)); replace HL407_1 := Aside0.mk (Kd.V_mono (Kd.V_keep (Kd.V_mono (ok := fun k_ => (((((w.heap.size ≤ k_)) ∧ (some k_ ≠ (.slice Ao43 x395003_1.length co43 : Value).ownBlock ∧ (k_ ≠ gb379 ∧ (k_ ≠ gb394 ∧ k_ ≠ g)))) ∧ some k_ ≠ (.slice (some ad407) t401.length co47 : Value).ownBlock) ∧ k_ ≠ gb408)) (by (with_reducible repeat (first | apply Kd.V_alloc | apply Kd.V_drewN | apply Kd.V_drew)); exact (Kd.V_mono (Kd.V_far (p := ⟨gb408, 3, none⟩) (Kd.V_far (p := ⟨gb408, 2, none⟩) (Kd.V_far (p := ⟨gb408, 1, none⟩) (Kd.V_far (p := ⟨gb408, 0, none⟩) (Kd.V_mono HL407_1.out (fun k_ hk => (⟨hk, hk.2⟩ : _ ∧ k_ ≠ gb408))) (fun _ hk => hk.2) (.slice A407_0 ((rd_T53 t401 t404).f0).length c407_0)) (fun _ hk => hk.2) (.slice A407_1 ((rd_T53 t401 t404).f1).length c407_1)) (fun _ hk => hk.2) (.int .i64 ((rd_T53 t401 t404).f2))) (fun _ hk => hk.2) (.int .i64 ((rd_T53 t401 t404).f3))) (fun _ h_ => h_.1))) (fun k_ hk_ => (⟨hk_, hk_.1.1.2.2.2.2⟩ : _ ∧ k_ ≠ g))) hk (fun _ h => h.2)) (fun _ h => h.1)); replace BK408 := Aside0.mk (KeepBut.blk hk (g' := gb408) (o := .cells #[.slice A407_0 ((rd_T53 t401 t404).f0).length c407_0, .slice A407_1 ((rd_T53 t401 t404).f1).length c407_1, .int .i64 ((rd_T53 t401 t404).f2), .int .i64 ((rd_T53 t401 t404).f3)] 53 (0, 0)) (bp0_ BK408.out) NB408_0.out (by simp)); replace HK := Aside0.mk (KeepBut.trans (by repeat (first | (with_reducible first | exact HK.out | apply KeepBut.set_ | apply keep_drewN | apply keep_drew | apply keep_alloc | refine keep_far ?_ GW379.out _ | refine keep_far ?_ GW394.out _ | refine keep_far ?_ GW408.out _) | exact HK.out)) hk (.inl rfl)); replace HB := Aside0.mk (hb); replace HI0 := Aside0.mk (hi); (try clear hb); (try clear hk); (try clear hi)) | ((with_reducible refine gate_dst (N := 53) rfl ?_); (try (refine gate_guard (by rfl) ?_; dsimp only)); refine Kd.R_lit (Kd.int .i64) _ 3 ?hg (N := 53) ?hd (xs := ([] : List Int)) (inner := []) (ok := fun _ => True) (okp := fun _ => True) ?hr ?hp (fun _ hk => hk) trivial (Below.refl _ _) (Nat.le_refl _) (by simp) ?_; (case hd => rfl); (case hg => rfl); (case hr => first | (go_simp; done) | (go_simp; rfl)); (case hp => exact (Reps.none _ _)); intro v427 w83 ho84 hb hg_ hnew_; clear hg_ hnew_; (first | rw [← Ny426.out] at ho84 | (simp only [Int.reduceToNat] at ho84; rw [← Ny426.out] at ho84)); replace HO_395003 := Aside0.mk (Kd.N_elder' (na_ HO_395003.out) (Kd.R_base ho84) hb); replace HO403 := Aside0.mk (Kd.N_elder' (na_ HO403.out) (Kd.R_base ho84) hb); replace HL407_0 := Aside0.mk (Kd.V_elder' (by (with_reducible repeat (first | apply Kd.V_alloc | apply Kd.V_drewN | apply Kd.V_drew)); exact HL407_0.out) (Kd.R_base ho84) hb); replace HL407_1 := Aside0.mk (Kd.V_elder' (by (with_reducible repeat (first | apply Kd.V_alloc | apply Kd.V_drewN | apply Kd.V_drew)); exact HL407_1.out) (Kd.R_base ho84) hb); have HO428 := Aside0.mk (Kd.R_lower (Kd.R_newM (M := fun k_ => (w.heap.size ≤ k_)) ho84 (keep_size (w := w) (g := g) (row := none) hkx_) (fun k_ h_ => h_)) (keep_size (w := w) (g := g) (row := none) hkx_)); replace BK379 := bb0_ BK379.out hb; replace BK394 := bb0_ BK394.out hb; replace BK408 := bb0_ BK408.out hb; replace HK := Aside0.mk (KeepBut.trans (by repeat (first | (with_reducible first | exact HK.out | apply KeepBut.set_ | apply keep_drewN | apply keep_drew | apply keep_alloc | refine keep_far ?_ GW379.out _ | refine keep_far ?_ GW394.out _ | refine keep_far ?_ GW408.out _) | exact HK.out)) (KeepBut.of_below hb g none) (.inl rfl)); replace HB := Aside0.mk (below_step bi0_ hb); replace HI0 := Aside0.mk (IsS118.below is0_ hb); clear hb ho84; obtain ⟨Ao85, co85, eo85⟩ := Kd.R_slice HO428.out; subst eo85; obtain ⟨hcz86_0, hcz86_1, hcz86_2, hcz86_3, hfz86_0, hfz86_1, hfz86_2, hfz86_3⟩ := cf4_ BK408.out) | ((with_reducible refine gate_store (t := 32) (p := 54) rfl ?_); refine store_event (t := 32) (p := 54) (v := ?vo_w87) (w1 := (w83.setCell ⟨gb408, 0, none⟩ (.slice Ao85 y426.length co85))) ?hg ?ho ?hn ?hr ?_; (case ho => rfl); (case hg => rfl); (case hn => rfl); (case hr => first | (go_simp; done) | (go_simp; rfl)); intro w87 hw; have n0_ : Aside0 (Kd.N k53 53 w87 w.heap.size (fun k_ => (w.heap.size ≤ k_) ∧ some k_ ≠ (.slice (some ad407) t401.length co47 : Value).ownBlock ∧ some k_ ≠ (.slice Ao85 y426.length co85 : Value).ownBlock ∧ k_ ≠ gb379 ∧ k_ ≠ gb394 ∧ k_ ≠ g ∧ k_ ≠ gb408) (.slice Ao43 x395003_1.length co43) x395003_1) := ⟨(by rw [hw]; exact (by (with_reducible repeat (first | apply Kd.N_alloc | apply Kd.N_drewN | apply Kd.N_drew)); exact Kd.N_mono (Kd.N_far (p := ⟨gb408, 0, none⟩) (Kd.N_mono HO_395003.out (fun k_ hk => (⟨hk, hk.1.2⟩ : _ ∧ k_ ≠ gb408))) (fun _ hk => hk.2) (.slice Ao85 y426.length co85)) (fun _ hk => ⟨hk.1.1.1.1.1, ⟨hk.1.1.1.2, ⟨hk.1.2, ⟨hk.1.1.1.1.2.1, ⟨hk.1.1.1.1.2.2.1, ⟨hk.1.1.1.1.2.2.2, hk.1.1.2⟩⟩⟩⟩⟩⟩)))⟩; have n1_ : Aside0 (Kd.N k53 53 w87 w.heap.size (fun k_ => (w.heap.size ≤ k_) ∧ some k_ ≠ (.slice Ao43 x395003_1.length co43 : Value).ownBlock ∧ some k_ ≠ (.slice Ao85 y426.length co85 : Value).ownBlock ∧ k_ ≠ gb379 ∧ k_ ≠ gb394 ∧ k_ ≠ g ∧ k_ ≠ gb408) (.slice (some ad407) t401.length co47) t401) := ⟨(by rw [hw]; exact (by (with_reducible repeat (first | apply Kd.N_alloc | apply Kd.N_drewN | apply Kd.N_drew)); exact Kd.N_mono (Kd.N_far (p := ⟨gb408, 0, none⟩) (Kd.N_mono HO403.out (fun k_ hk => (⟨hk, hk.1.2⟩ : _ ∧ k_ ≠ gb408))) (fun _ hk => hk.2) (.slice Ao85 y426.length co85)) (fun _ hk => ⟨hk.1.1.1.1, ⟨hk.1.1.1.2.1, ⟨hk.1.2, ⟨hk.1.1.1.2.2.1, ⟨hk.1.1.1.2.2.2.1, ⟨hk.1.1.1.2.2.2.2, hk.1.1.2⟩⟩⟩⟩⟩⟩)))⟩; have n2_ : Aside0 (Kd.V (Kd.int .i64) 3 w87 w.heap.size (fun k_ => (w.heap.size ≤ k_) ∧ some k_ ≠ (.slice Ao43 x395003_1.length co43 : Value).ownBlock ∧ some k_ ≠ (.slice (some ad407) t401.length co47 : Value).ownBlock ∧ some k_ ≠ (.slice Ao85 y426.length co85 : Value).ownBlock ∧ k_ ≠ gb379 ∧ k_ ≠ gb394 ∧ k_ ≠ g ∧ k_ ≠ gb408) (.slice A407_0 ((rd_T53 t401 t404).f0).length c407_0) ((rd_T53 t401 t404).f0)) := ⟨(by rw [hw]; exact (by (with_reducible repeat (first | apply Kd.V_alloc | apply Kd.V_drewN | apply Kd.V_drew)); exact Kd.V_mono (Kd.V_far (p := ⟨gb408, 0, none⟩) (Kd.V_mono HL407_0.out (fun k_ hk => (⟨hk, hk.1.2⟩ : _ ∧ k_ ≠ gb408))) (fun _ hk => hk.2) (.slice Ao85 y426.length co85)) (fun _ hk => ⟨hk.1.1.1.1.1, ⟨hk.1.1.1.1.2.1, ⟨hk.1.1.1.2, ⟨hk.1.2, ⟨hk.1.1.1.1.2.2.1, ⟨hk.1.1.1.1.2.2.2.1, ⟨hk.1.1.1.1.2.2.2.2, hk.1.1.2⟩⟩⟩⟩⟩⟩⟩)))⟩; have n3_ : Aside0 (Kd.V k100 100 w87 w.heap.size (fun k_ => (w.heap.size ≤ k_) ∧ some k_ ≠ (.slice Ao43 x395003_1.length co43 : Value).ownBlock ∧ some k_ ≠ (.slice (some ad407) t401.length co47 : Value).ownBlock ∧ some k_ ≠ (.slice Ao85 y426.length co85 : Value).ownBlock ∧ k_ ≠ gb379 ∧ k_ ≠ gb394 ∧ k_ ≠ g ∧ k_ ≠ gb408) (.slice A407_1 ((rd_T53 t401 t404).f1).length c407_1) ((rd_T53 t401 t404).f1)) := ⟨(by rw [hw]; exact (by (with_reducible repeat (first | apply Kd.V_alloc | apply Kd.V_drewN | apply Kd.V_drew)); exact Kd.V_mono (Kd.V_far (p := ⟨gb408, 0, none⟩) (Kd.V_mono HL407_1.out (fun k_ hk => (⟨hk, hk.1.2⟩ : _ ∧ k_ ≠ gb408))) (fun _ hk => hk.2) (.slice Ao85 y426.length co85)) (fun _ hk => ⟨hk.1.1.1.1.1, ⟨hk.1.1.1.1.2.1, ⟨hk.1.1.1.2, ⟨hk.1.2, ⟨hk.1.1.1.1.2.2.1, ⟨hk.1.1.1.1.2.2.2.1, ⟨hk.1.1.1.1.2.2.2.2, hk.1.1.2⟩⟩⟩⟩⟩⟩⟩)))⟩; have n4_ : Aside0 (Kd.R (Kd.int .i64) 3 w87 w.heap.size (fun k_ => (w.heap.size ≤ k_)) (.slice Ao85 y426.length co85) y426) := ⟨(by rw [hw]; exact (by (with_reducible repeat (first | apply Kd.R_alloc | apply Kd.R_drewN | apply Kd.R_drew)); exact Kd.R_mono (Kd.R_far (p := ⟨gb408, 0, none⟩) (Kd.R_types HO428.out BK408.out (by decide)) (fun _ hk => hk.2) (.slice Ao85 y426.length co85)) (fun _ hk => hk.1.1)))⟩; have n5_ : Aside0 (w87.heap[gb379]? = some (.cells #[.int .i64 0, .int .i64 0, .int .i64 0, .slice none 0 0] 36 (0, 0))) := ⟨(by rw [hw]; exact (bp1_ BK379.out NB379_408.out))⟩; have n6_ : Aside0 (w87.heap[gb394]? = some (.cells #[.int .i64 t388, .int .i64 t389, .int .i64 t390, .slice Ao43 x395003_1.length co43] 36 (0, 0))) := ⟨(by rw [hw]; exact (bp1_ BK394.out NB394_408.out))⟩; have n7_ : Aside0 (w87.heap[gb408]? = some (.cells #[.slice Ao85 y426.length co85, .slice A407_1 ((rd_T53 t401 t404).f1).length c407_1, .int .i64 ((rd_T53 t401 t404).f2), .int .i64 ((rd_T53 t401 t404).f3)] 53 (0, 0))) := ⟨(by rw [hw]; exact (bp0_ BK408.out))⟩; have n8_ : Aside0 (IsS118 w0 w87 g s0_0 t410 t411) := ⟨(by rw [hw]; exact is0_)⟩; have n9_ : Aside0 (KeepBut w w87 g none) := ⟨(by rw [hw]; exact hkx_)⟩; have n10_ : Aside0 (Below w0.heap.size w0 w87) := ⟨(by rw [hw]; exact bi0_)⟩; clear hw; clear HO_395003; clear HO403; clear HL407_0; clear HL407_1; clear HO428; clear BK379; clear BK394; clear BK408; clear HI0; clear HK; clear HB; have HO_395003 := n0_; have HO403 := n1_; have HL407_0 := n2_; have HL407_1 := n3_; have HO428 := n4_; have BK379 := n5_; have BK394 := n6_; have BK408 := n7_; have HI0 := n8_; have HK := n9_; have HB := n10_; clear n0_ n1_ n2_ n3_ n4_ n5_ n6_ n7_ n8_ n9_ n10_; obtain ⟨hcz88_0, hcz88_1, hcz88_2, hcz88_3, hfz88_0, hfz88_1, hfz88_2, hfz88_3⟩ := cf4_ BK394.out; obtain ⟨hcz89_0, hcz89_1, hcz89_2, hcz89_3, hfz89_0, hfz89_1, hfz89_2, hfz89_3⟩ := cf4_ BK408.out) | ((with_reducible refine gate_builtin (b := .append) (xs := #[.tmp 64, .tmp 66]) rfl ?_); (try (refine gate_guard (by rfl) ?_; dsimp only)); at_builtin; refine Kd.N_append k53 w.heap.size rfl (.tmp 64) (.tmp 66) 34 53 (.agg #[(.slice none 0 0), (.slice none 0 0), (.int .i64 0), (.int .i64 0)]) 64 rfl Try.underlying34 info53 rfl (by decide) (by omega) (.slice Ao43 x395003_1.length co43) x395003_1 (⟨y426, (rd_T53 t401 t404).f1, (rd_T53 t401 t404).f2, (rd_T53 t401 t404).f3⟩ : S53) [.slice Ao85 y426.length co85, .slice A407_1 ((rd_T53 t401 t404).f1).length c407_1, .int .i64 ((rd_T53 t401 t404).f2), .int .i64 ((rd_T53 t401 t404).f3)] (fun k_ => (w.heap.size ≤ k_) ∧ some k_ ≠ (.slice (some ad407) t401.length co47 : Value).ownBlock ∧ k_ ≠ gb379 ∧ k_ ≠ gb394 ∧ k_ ≠ gb408 ∧ k_ ≠ g) (fun k_ => ((fun k_ => (w.heap.size ≤ k_) ∧ some k_ ≠ (.slice (some ad407) t401.length co47 : Value).ownBlock ∧ k_ ≠ gb379 ∧ k_ ≠ gb394 ∧ k_ ≠ gb408 ∧ k_ ≠ g)) k_ ∧ some k_ ≠ (.slice Ao43 x395003_1.length co43 : Value).ownBlock) rfl rfl ?aP (fun _ hk => hk) ?aF ?aO (Below.refl _ _) ?aS ?aL ?_; (case aP => exact (k53_mkF _ _ (⟨y426, (rd_T53 t401 t404).f1, (rd_T53 t401 t404).f2, (rd_T53 t401 t404).f3⟩ : S53) (Kd.R_reads' (Kd.R_mono (ok' := (fun k_ => ((fun k_ => (w.heap.size ≤ k_) ∧ some k_ ≠ (.slice (some ad407) t401.length co47 : Value).ownBlock ∧ k_ ≠ gb379 ∧ k_ ≠ gb394 ∧ k_ ≠ gb408 ∧ k_ ≠ g)) k_ ∧ some k_ ≠ (.slice Ao43 x395003_1.length co43 : Value).ownBlock)) (IsS118.apart HI0.out (Kd.R_types (Kd.R_types (Kd.R_types (Kd.R_apart' (Kd.R_apart' (HO428.out) (Kd.N_typed HO403.out) (by decide)) (Kd.N_typed HO_395003.out) (by decide)) BK379.out (by decide)) BK394.out (by decide)) BK408.out (by decide)) (by decide)) (fun k_ hk => ⟨⟨hk.1.1.1.1.1.1, ⟨hk.1.1.1.1.1.2, ⟨hk.1.1.1.2, ⟨hk.1.1.2, ⟨hk.1.2, hk.2⟩⟩⟩⟩⟩, hk.1.1.1.1.2⟩))).2.1 (Kd.R_F (Kd.R_mono (ok' := (fun k_ => ((fun k_ => (w.heap.size ≤ k_) ∧ some k_ ≠ (.slice (some ad407) t401.length co47 : Value).ownBlock ∧ k_ ≠ gb379 ∧ k_ ≠ gb394 ∧ k_ ≠ gb408 ∧ k_ ≠ g)) k_ ∧ some k_ ≠ (.slice Ao43 x395003_1.length co43 : Value).ownBlock)) (IsS118.apart HI0.out (Kd.R_types (Kd.R_types (Kd.R_types (Kd.R_apart' (Kd.R_apart' (HO428.out) (Kd.N_typed HO403.out) (by decide)) (Kd.N_typed HO_395003.out) (by decide)) BK379.out (by decide)) BK394.out (by decide)) BK408.out (by decide)) (by decide)) (fun k_ hk => ⟨⟨hk.1.1.1.1.1.1, ⟨hk.1.1.1.1.1.2, ⟨hk.1.1.1.2, ⟨hk.1.1.2, ⟨hk.1.2, hk.2⟩⟩⟩⟩⟩, hk.1.1.1.1.2⟩))) (Kd.V_reads' (Kd.V_mono (ok' := (fun k_ => ((fun k_ => (w.heap.size ≤ k_) ∧ some k_ ≠ (.slice (some ad407) t401.length co47 : Value).ownBlock ∧ k_ ≠ gb379 ∧ k_ ≠ gb394 ∧ k_ ≠ gb408 ∧ k_ ≠ g)) k_ ∧ some k_ ≠ (.slice Ao43 x395003_1.length co43 : Value).ownBlock)) (HL407_1.out) (fun k_ hk => ⟨⟨hk.1, ⟨hk.2.2.1, ⟨hk.2.2.2.2.1, ⟨hk.2.2.2.2.2.1, ⟨hk.2.2.2.2.2.2.2, hk.2.2.2.2.2.2.1⟩⟩⟩⟩⟩, hk.2.1⟩))).2.1 (Kd.V_F (Kd.V_mono (ok' := (fun k_ => ((fun k_ => (w.heap.size ≤ k_) ∧ some k_ ≠ (.slice (some ad407) t401.length co47 : Value).ownBlock ∧ k_ ≠ gb379 ∧ k_ ≠ gb394 ∧ k_ ≠ gb408 ∧ k_ ≠ g)) k_ ∧ some k_ ≠ (.slice Ao43 x395003_1.length co43 : Value).ownBlock)) (HL407_1.out) (fun k_ hk => ⟨⟨hk.1, ⟨hk.2.2.1, ⟨hk.2.2.2.2.1, ⟨hk.2.2.2.2.2.1, ⟨hk.2.2.2.2.2.2.2, hk.2.2.2.2.2.2.1⟩⟩⟩⟩⟩, hk.2.1⟩))))); (case aF => exact (fun k_ hk => ⟨(Nat.le_trans (keep_size (w := w) (g := g) (row := none) hkx_) hk), Kd.fresh' (Kd.N_lt (na_ HO403.out)) k_ hk, fb_ BK379.out k_ hk, fb_ BK394.out k_ hk, fb_ BK408.out k_ hk, IsS118.fresh is0_ k_ hk⟩)); (case aO => exact (by (with_reducible repeat (first | apply Kd.N_alloc | apply Kd.N_drewN | apply Kd.N_drew)); exact Kd.N_mono HO_395003.out (fun _ hk => ⟨hk.1, ⟨hk.2.1, ⟨hk.2.2.2.1, ⟨hk.2.2.2.2.1, ⟨hk.2.2.2.2.2.2, hk.2.2.2.2.2.1⟩⟩⟩⟩⟩))); (case aS => exact (keep_size (w := w) (g := g) (row := none) hkx_)); (case aL => have := LMc68.out; omega); intro v430 w90 ho hb hg hat; rw [← Ny429.out] at ho; replace BK379 := Aside0.mk (blk_grown (g := gb379) (o := .cells #[.int .i64 0, .int .i64 0, .int .i64 0, .slice none 0 0] 36 (0, 0)) (bk_ BK379.out) hg (Kd.N_ne HO_395003.out BK379.out (by decide))); replace BK394 := Aside0.mk (blk_grown (g := gb394) (o := .cells #[.int .i64 t388, .int .i64 t389, .int .i64 t390, .slice Ao43 x395003_1.length co43] 36 (0, 0)) (bk_ BK394.out) hg (Kd.N_ne HO_395003.out BK394.out (by decide))); replace HO403 := Aside0.mk (Kd.N_afterv (ok := (fun k_ => (w.heap.size ≤ k_) ∧ some k_ ≠ (.slice Ao85 y426.length co85 : Value).ownBlock ∧ k_ ≠ gb379 ∧ k_ ≠ gb394 ∧ k_ ≠ g ∧ k_ ≠ gb408)) (by (with_reducible repeat (first | apply Kd.N_alloc | apply Kd.N_drewN | apply Kd.N_drew)); exact Kd.N_mono HO403.out (fun _ hk => ⟨⟨hk.1, ⟨hk.2.2.1, ⟨hk.2.2.2.1, ⟨hk.2.2.2.2.1, ⟨hk.2.2.2.2.2.1, hk.2.2.2.2.2.2⟩⟩⟩⟩⟩, hk.2.1⟩)) hg hat); replace HL407_0 := Aside0.mk (Kd.V_afterv (ok := (fun k_ => (w.heap.size ≤ k_) ∧ some k_ ≠ (.slice (some ad407) t401.length co47 : Value).ownBlock ∧ some k_ ≠ (.slice Ao85 y426.length co85 : Value).ownBlock ∧ k_ ≠ gb379 ∧ k_ ≠ gb394 ∧ k_ ≠ g ∧ k_ ≠ gb408)) (by (with_reducible repeat (first | apply Kd.V_alloc | apply Kd.V_drewN | apply Kd.V_drew)); exact Kd.V_mono HL407_0.out (fun _ hk => ⟨⟨hk.1, ⟨hk.2.2.1, ⟨hk.2.2.2.1, ⟨hk.2.2.2.2.1, ⟨hk.2.2.2.2.2.1, ⟨hk.2.2.2.2.2.2.1, hk.2.2.2.2.2.2.2⟩⟩⟩⟩⟩⟩, hk.2.1⟩)) hg hat); replace HL407_1 := Aside0.mk (Kd.V_afterv (ok := (fun k_ => (w.heap.size ≤ k_) ∧ some k_ ≠ (.slice (some ad407) t401.length co47 : Value).ownBlock ∧ some k_ ≠ (.slice Ao85 y426.length co85 : Value).ownBlock ∧ k_ ≠ gb379 ∧ k_ ≠ gb394 ∧ k_ ≠ g ∧ k_ ≠ gb408)) (by (with_reducible repeat (first | apply Kd.V_alloc | apply Kd.V_drewN | apply Kd.V_drew)); exact Kd.V_mono HL407_1.out (fun _ hk => ⟨⟨hk.1, ⟨hk.2.2.1, ⟨hk.2.2.2.1, ⟨hk.2.2.2.2.1, ⟨hk.2.2.2.2.2.1, ⟨hk.2.2.2.2.2.2.1, hk.2.2.2.2.2.2.2⟩⟩⟩⟩⟩⟩, hk.2.1⟩)) hg hat); replace BK408 := Aside0.mk (blk_grown (g := gb408) (o := .cells #[.slice Ao85 y426.length co85, .slice A407_1 ((rd_T53 t401 t404).f1).length c407_1, .int .i64 ((rd_T53 t401 t404).f2), .int .i64 ((rd_T53 t401 t404).f3)] 53 (0, 0)) (bk_ BK408.out) hg (Kd.N_away HO_395003.out (fun _ hk => hk.2.2.2.2.2.2))); replace HB := Aside0.mk (below_weaken bi0_ HL.out hb); replace HI0 := Aside0.mk (IsS118.grown (show IsS118 w0 _ g s0_0 t410 t411 from is0_) hg (IsS118.own_neN HI0.out HO_395003.out (by decide))); replace HK := Aside0.mk (KeepBut.trans (by repeat (first | (with_reducible first | exact HK.out | apply KeepBut.set_ | apply keep_drewN | apply keep_drew | apply keep_alloc | refine keep_far ?_ GW379.out _ | refine keep_far ?_ GW394.out _ | refine keep_far ?_ GW408.out _) | exact HK.out)) (KeepBut.of_grown hg g) (Kd.N_base2 HO_395003.out)); have HO431 := Aside0.mk (ho); clear HO_395003 HO428; clear ho hb hg hat; obtain ⟨Ao91, co91, eo91⟩ := Kd.N_slice HO431.out; subst eo91; obtain ⟨hcz92_0, hcz92_1, hcz92_2, hcz92_3, hfz92_0, hfz92_1, hfz92_2, hfz92_3⟩ := cf4_ BK394.out))
  go_roundg kj12
  case measure => have := HK1.out; have := HJ12.out; omega
  case rel => exact ⟨(wrap64 (x4_1 + 1)), (t410), (t411), (y429), (.slice Ao91 y429.length co91), (sr_), H', ⟨by have := HK1.out; have := HJ12.out; omega⟩, ⟨by (with_reducible repeat (first | apply Kd.N_alloc | apply Kd.N_drewN | apply Kd.N_drew)); exact Kd.N_mono (Kd.N_far (p := ⟨gb394, 3, none⟩) (Kd.N_mono HO431.out (fun k_ hk => (⟨hk, hk.2.2.2.1⟩ : _ ∧ k_ ≠ gb394))) (fun _ hk => hk.2) (.slice Ao91 y429.length co91)) (fun _ hk => ⟨hk.1.1, ⟨hk.1.2.2.1, ⟨hk.1.2.2.2.1, hk.1.2.2.2.2.2⟩⟩⟩)⟩, ⟨bp1_ BK379.out NB379_394.out⟩, ⟨bp0_ BK394.out⟩, ⟨is0_⟩, ⟨hkx_⟩, ⟨bi0_⟩⟩
 rw [if_neg c67] at H
 have c67b0 : (t409 == 1) = false := beq_eq_false_iff_ne.mpr c67
 have c67b1 : (t409 != 1) = true := bne_iff_ne.mpr c67
 by_cases c93 : t409 = 2
 rotate_left
 ·rw [if_neg c93] at H
  have c93b0 : (t409 == 2) = false := beq_eq_false_iff_ne.mpr c93
  have c93b1 : (t409 != 2) = true := bne_iff_ne.mpr c93
  by_cases c120 : x395003_1.length < 2199023255552
  rotate_left
  ·exact nn_ c120 H
  rw [if_pos c120] at H
  have LMc120 := Aside0.mk c120
  clear c120
  obtain ⟨y435, hy435⟩ : ∃ y_ : List (S53), y_ = (x395003_1 ++ [(⟨(rd_T53 t401 t404).f0, (rd_T53 t401 t404).f1, (rd_T53 t401 t404).f2, (rd_T53 t401 t404).f3⟩ : S53)]) := ⟨_, rfl⟩
  replace H : (spec_l24Policy.l0 kj12 (wrap64 (x4_1 + 1)) s0_0 t410 t411 t388 t389 t390 y435) = some (r1, r2, r3, r4, r5, r6) := rp_ H hy435
  have Ny435 := Aside0.mk hy435
  clear hy435
  have H' := Aside0.mk H
  clear H
  go_wp2_with (first | ((with_reducible refine gate_callee (f := 62) rfl ?_); refine gs_ (some 38) Try.func62 #[.pointer (some ⟨g, 0, none⟩), .int .i64 4] ?_; (with_reducible refine (spec_l01Below.calls g s0_0 t405 t406 4 t409 t410 t411 w0 _ ?side1 ?side2 A33.out).mono ?_); (case side1 => exact is0_); (case side2 => exact bi0_); rintro e w134 ⟨rfl, hi, hb, hk⟩; refine ⟨_, rfl, ?_⟩; replace HO_395003 := Aside0.mk (Kd.N_mono (Kd.N_keep (Kd.N_mono (ok := fun k_ => (((((w.heap.size ≤ k_)) ∧ (k_ ≠ gb379 ∧ (k_ ≠ gb394 ∧ k_ ≠ g))) ∧ some k_ ≠ (.slice (some ad407) t401.length co47 : Value).ownBlock) ∧ k_ ≠ gb408)) (by (with_reducible repeat (first | apply Kd.N_alloc | apply Kd.N_drewN | apply Kd.N_drew)); exact (Kd.N_mono (Kd.N_far (p := ⟨gb408, 3, none⟩) (Kd.N_far (p := ⟨gb408, 2, none⟩) (Kd.N_far (p := ⟨gb408, 1, none⟩) (Kd.N_far (p := ⟨gb408, 0, none⟩) (Kd.N_mono HO_395003.out (fun k_ hk => (⟨hk, hk.2⟩ : _ ∧ k_ ≠ gb408))) (fun _ hk => hk.2) (.slice A407_0 ((rd_T53 t401 t404).f0).length c407_0)) (fun _ hk => hk.2) (.slice A407_1 ((rd_T53 t401 t404).f1).length c407_1)) (fun _ hk => hk.2) (.int .i64 ((rd_T53 t401 t404).f2))) (fun _ hk => hk.2) (.int .i64 ((rd_T53 t401 t404).f3))) (fun _ h_ => h_.1))) (fun k_ hk_ => (⟨hk_, hk_.1.1.2.2.2⟩ : _ ∧ k_ ≠ g))) hk (fun _ h => h.2)) (fun _ h => h.1)); replace BK379 := Aside0.mk (KeepBut.blk hk (g' := gb379) (o := .cells #[.int .i64 0, .int .i64 0, .int .i64 0, .slice none 0 0] 36 (0, 0)) (bp1_ BK379.out NB379_408.out) NB379_0.out (by simp)); replace BK394 := Aside0.mk (KeepBut.blk hk (g' := gb394) (o := .cells #[.int .i64 t388, .int .i64 t389, .int .i64 t390, .slice Ao43 x395003_1.length co43] 36 (0, 0)) (bp1_ BK394.out NB394_408.out) NB394_0.out (by simp)); replace HO403 := Aside0.mk (Kd.N_mono (Kd.N_keep (Kd.N_mono (ok := fun k_ => ((((w.heap.size ≤ k_)) ∧ (some k_ ≠ (.slice Ao43 x395003_1.length co43 : Value).ownBlock ∧ (k_ ≠ gb379 ∧ (k_ ≠ gb394 ∧ k_ ≠ g)))) ∧ k_ ≠ gb408)) (by (with_reducible repeat (first | apply Kd.N_alloc | apply Kd.N_drewN | apply Kd.N_drew)); exact (Kd.N_mono (Kd.N_far (p := ⟨gb408, 3, none⟩) (Kd.N_far (p := ⟨gb408, 2, none⟩) (Kd.N_far (p := ⟨gb408, 1, none⟩) (Kd.N_far (p := ⟨gb408, 0, none⟩) (Kd.N_mono HO403.out (fun k_ hk => (⟨hk, hk.2⟩ : _ ∧ k_ ≠ gb408))) (fun _ hk => hk.2) (.slice A407_0 ((rd_T53 t401 t404).f0).length c407_0)) (fun _ hk => hk.2) (.slice A407_1 ((rd_T53 t401 t404).f1).length c407_1)) (fun _ hk => hk.2) (.int .i64 ((rd_T53 t401 t404).f2))) (fun _ hk => hk.2) (.int .i64 ((rd_T53 t401 t404).f3))) (fun _ h_ => h_.1))) (fun k_ hk_ => (⟨hk_, hk_.1.2.2.2.2⟩ : _ ∧ k_ ≠ g))) hk (fun _ h => h.2)) (fun _ h => h.1)); replace HL407_0 := Aside0.mk (Kd.V_mono (Kd.V_keep (Kd.V_mono (ok := fun k_ => (((((w.heap.size ≤ k_)) ∧ (some k_ ≠ (.slice Ao43 x395003_1.length co43 : Value).ownBlock ∧ (k_ ≠ gb379 ∧ (k_ ≠ gb394 ∧ k_ ≠ g)))) ∧ some k_ ≠ (.slice (some ad407) t401.length co47 : Value).ownBlock) ∧ k_ ≠ gb408)) (by (with_reducible repeat (first | apply Kd.V_alloc | apply Kd.V_drewN | apply Kd.V_drew)); exact (Kd.V_mono (Kd.V_far (p := ⟨gb408, 3, none⟩) (Kd.V_far (p := ⟨gb408, 2, none⟩) (Kd.V_far (p := ⟨gb408, 1, none⟩) (Kd.V_far (p := ⟨gb408, 0, none⟩) (Kd.V_mono HL407_0.out (fun k_ hk => (⟨hk, hk.2⟩ : _ ∧ k_ ≠ gb408))) (fun _ hk => hk.2) (.slice A407_0 ((rd_T53 t401 t404).f0).length c407_0)) (fun _ hk => hk.2) (.slice A407_1 ((rd_T53 t401 t404).f1).length c407_1)) (fun _ hk => hk.2) (.int .i64 ((rd_T53 t401 t404).f2))) (fun _ hk => hk.2) (.int .i64 ((rd_T53 t401 t404).f3))) (fun _ h_ => h_.1))) (fun k_ hk_ => (⟨hk_, hk_.1.1.2.2.2.2⟩ : _ ∧ k_ ≠ g))) hk (fun _ h => h.2)) (fun _ h => h.1)); replace HL407_1 := Aside0.mk (Kd.V_mono (Kd.V_keep (Kd.V_mono (ok := fun k_ => (((((w.heap.size ≤ k_)) ∧ (some k_ ≠ (.slice Ao43 x395003_1.length co43 : Value).ownBlock ∧ (k_ ≠ gb379 ∧ (k_ ≠ gb394 ∧ k_ ≠ g)))) ∧ some k_ ≠ (.slice (some ad407) t401.length co47 : Value).ownBlock) ∧ k_ ≠ gb408)) (by (with_reducible repeat (first | apply Kd.V_alloc | apply Kd.V_drewN | apply Kd.V_drew)); exact (Kd.V_mono (Kd.V_far (p := ⟨gb408, 3, none⟩) (Kd.V_far (p := ⟨gb408, 2, none⟩) (Kd.V_far (p := ⟨gb408, 1, none⟩) (Kd.V_far (p := ⟨gb408, 0, none⟩) (Kd.V_mono HL407_1.out (fun k_ hk => (⟨hk, hk.2⟩ : _ ∧ k_ ≠ gb408))) (fun _ hk => hk.2) (.slice A407_0 ((rd_T53 t401 t404).f0).length c407_0)) (fun _ hk => hk.2) (.slice A407_1 ((rd_T53 t401 t404).f1).length c407_1)) (fun _ hk => hk.2) (.int .i64 ((rd_T53 t401 t404).f2))) (fun _ hk => hk.2) (.int .i64 ((rd_T53 t401 t404).f3))) (fun _ h_ => h_.1))) (fun k_ hk_ => (⟨hk_, hk_.1.1.2.2.2.2⟩ : _ ∧ k_ ≠ g))) hk (fun _ h => h.2)) (fun _ h => h.1)); replace BK408 := Aside0.mk (KeepBut.blk hk (g' := gb408) (o := .cells #[.slice A407_0 ((rd_T53 t401 t404).f0).length c407_0, .slice A407_1 ((rd_T53 t401 t404).f1).length c407_1, .int .i64 ((rd_T53 t401 t404).f2), .int .i64 ((rd_T53 t401 t404).f3)] 53 (0, 0)) (bp0_ BK408.out) NB408_0.out (by simp)); replace HK := Aside0.mk (KeepBut.trans (by repeat (first | (with_reducible first | exact HK.out | apply KeepBut.set_ | apply keep_drewN | apply keep_drew | apply keep_alloc | refine keep_far ?_ GW379.out _ | refine keep_far ?_ GW394.out _ | refine keep_far ?_ GW408.out _) | exact HK.out)) hk (.inl rfl)); replace HB := Aside0.mk (hb); replace HI0 := Aside0.mk (hi); (try clear hb); (try clear hk); (try clear hi); obtain ⟨hcz135_0, hcz135_1, hcz135_2, hcz135_3, hfz135_0, hfz135_1, hfz135_2, hfz135_3⟩ := cf4_ BK394.out; obtain ⟨hcz136_0, hcz136_1, hcz136_2, hcz136_3, hfz136_0, hfz136_1, hfz136_2, hfz136_3⟩ := cf4_ BK408.out) | ((with_reducible refine gate_builtin (b := .append) (xs := #[.tmp 64, .tmp 66]) rfl ?_); (try (refine gate_guard (by rfl) ?_; dsimp only)); at_builtin; refine Kd.N_append k53 w.heap.size rfl (.tmp 64) (.tmp 66) 34 53 (.agg #[(.slice none 0 0), (.slice none 0 0), (.int .i64 0), (.int .i64 0)]) 64 rfl Try.underlying34 info53 rfl (by decide) (by omega) (.slice Ao43 x395003_1.length co43) x395003_1 (⟨(rd_T53 t401 t404).f0, (rd_T53 t401 t404).f1, (rd_T53 t401 t404).f2, (rd_T53 t401 t404).f3⟩ : S53) [.slice A407_0 ((rd_T53 t401 t404).f0).length c407_0, .slice A407_1 ((rd_T53 t401 t404).f1).length c407_1, .int .i64 ((rd_T53 t401 t404).f2), .int .i64 ((rd_T53 t401 t404).f3)] (fun k_ => (w.heap.size ≤ k_) ∧ some k_ ≠ (.slice (some ad407) t401.length co47 : Value).ownBlock ∧ k_ ≠ gb379 ∧ k_ ≠ gb394 ∧ k_ ≠ gb408 ∧ k_ ≠ g) (fun k_ => ((fun k_ => (w.heap.size ≤ k_) ∧ some k_ ≠ (.slice (some ad407) t401.length co47 : Value).ownBlock ∧ k_ ≠ gb379 ∧ k_ ≠ gb394 ∧ k_ ≠ gb408 ∧ k_ ≠ g)) k_ ∧ some k_ ≠ (.slice Ao43 x395003_1.length co43 : Value).ownBlock) rfl rfl ?aP (fun _ hk => hk) ?aF ?aO (Below.refl _ _) ?aS ?aL ?_; (case aP => exact (k53_mkF _ _ (⟨(rd_T53 t401 t404).f0, (rd_T53 t401 t404).f1, (rd_T53 t401 t404).f2, (rd_T53 t401 t404).f3⟩ : S53) (Kd.V_reads' (Kd.V_mono (ok' := (fun k_ => ((fun k_ => (w.heap.size ≤ k_) ∧ some k_ ≠ (.slice (some ad407) t401.length co47 : Value).ownBlock ∧ k_ ≠ gb379 ∧ k_ ≠ gb394 ∧ k_ ≠ gb408 ∧ k_ ≠ g)) k_ ∧ some k_ ≠ (.slice Ao43 x395003_1.length co43 : Value).ownBlock)) (HL407_0.out) (fun k_ hk => ⟨⟨hk.1.1.1, ⟨hk.1.2, ⟨hk.1.1.2.2.1, ⟨hk.1.1.2.2.2.1, ⟨hk.2, hk.1.1.2.2.2.2⟩⟩⟩⟩⟩, hk.1.1.2.1⟩))).2.1 (Kd.V_F (Kd.V_mono (ok' := (fun k_ => ((fun k_ => (w.heap.size ≤ k_) ∧ some k_ ≠ (.slice (some ad407) t401.length co47 : Value).ownBlock ∧ k_ ≠ gb379 ∧ k_ ≠ gb394 ∧ k_ ≠ gb408 ∧ k_ ≠ g)) k_ ∧ some k_ ≠ (.slice Ao43 x395003_1.length co43 : Value).ownBlock)) (HL407_0.out) (fun k_ hk => ⟨⟨hk.1.1.1, ⟨hk.1.2, ⟨hk.1.1.2.2.1, ⟨hk.1.1.2.2.2.1, ⟨hk.2, hk.1.1.2.2.2.2⟩⟩⟩⟩⟩, hk.1.1.2.1⟩))) (Kd.V_reads' (Kd.V_mono (ok' := (fun k_ => ((fun k_ => (w.heap.size ≤ k_) ∧ some k_ ≠ (.slice (some ad407) t401.length co47 : Value).ownBlock ∧ k_ ≠ gb379 ∧ k_ ≠ gb394 ∧ k_ ≠ gb408 ∧ k_ ≠ g)) k_ ∧ some k_ ≠ (.slice Ao43 x395003_1.length co43 : Value).ownBlock)) (HL407_1.out) (fun k_ hk => ⟨⟨hk.1.1.1, ⟨hk.1.2, ⟨hk.1.1.2.2.1, ⟨hk.1.1.2.2.2.1, ⟨hk.2, hk.1.1.2.2.2.2⟩⟩⟩⟩⟩, hk.1.1.2.1⟩))).2.1 (Kd.V_F (Kd.V_mono (ok' := (fun k_ => ((fun k_ => (w.heap.size ≤ k_) ∧ some k_ ≠ (.slice (some ad407) t401.length co47 : Value).ownBlock ∧ k_ ≠ gb379 ∧ k_ ≠ gb394 ∧ k_ ≠ gb408 ∧ k_ ≠ g)) k_ ∧ some k_ ≠ (.slice Ao43 x395003_1.length co43 : Value).ownBlock)) (HL407_1.out) (fun k_ hk => ⟨⟨hk.1.1.1, ⟨hk.1.2, ⟨hk.1.1.2.2.1, ⟨hk.1.1.2.2.2.1, ⟨hk.2, hk.1.1.2.2.2.2⟩⟩⟩⟩⟩, hk.1.1.2.1⟩))))); (case aF => exact (fun k_ hk => ⟨(Nat.le_trans (keep_size (w := w) (g := g) (row := none) hkx_) hk), Kd.fresh' (Kd.N_lt (na_ HO403.out)) k_ hk, fb_ BK379.out k_ hk, fb_ BK394.out k_ hk, fb_ BK408.out k_ hk, IsS118.fresh is0_ k_ hk⟩)); (case aO => exact (by (with_reducible repeat (first | apply Kd.N_alloc | apply Kd.N_drewN | apply Kd.N_drew)); exact Kd.N_mono HO_395003.out (fun _ hk => ⟨hk.1.1.1, ⟨hk.1.2, ⟨hk.1.1.2.1, ⟨hk.1.1.2.2.1, ⟨hk.2, hk.1.1.2.2.2⟩⟩⟩⟩⟩))); (case aS => exact (keep_size (w := w) (g := g) (row := none) hkx_)); (case aL => have := LMc120.out; omega); intro v436 w137 ho hb hg hat; rw [← Ny435.out] at ho; replace BK379 := Aside0.mk (blk_grown (g := gb379) (o := .cells #[.int .i64 0, .int .i64 0, .int .i64 0, .slice none 0 0] 36 (0, 0)) (bk_ BK379.out) hg (Kd.N_ne HO_395003.out BK379.out (by decide))); replace BK394 := Aside0.mk (blk_grown (g := gb394) (o := .cells #[.int .i64 t388, .int .i64 t389, .int .i64 t390, .slice Ao43 x395003_1.length co43] 36 (0, 0)) (bk_ BK394.out) hg (Kd.N_ne HO_395003.out BK394.out (by decide))); replace HO403 := Aside0.mk (Kd.N_afterv (ok := (fun k_ => (w.heap.size ≤ k_) ∧ k_ ≠ gb379 ∧ k_ ≠ gb394 ∧ k_ ≠ g ∧ k_ ≠ gb408)) (by (with_reducible repeat (first | apply Kd.N_alloc | apply Kd.N_drewN | apply Kd.N_drew)); exact Kd.N_mono HO403.out (fun _ hk => ⟨⟨hk.1.1, ⟨hk.1.2.2.1, ⟨hk.1.2.2.2.1, ⟨hk.1.2.2.2.2, hk.2⟩⟩⟩⟩, hk.1.2.1⟩)) hg hat); replace HL407_0 := Aside0.mk (Kd.V_afterv (ok := (fun k_ => (w.heap.size ≤ k_) ∧ some k_ ≠ (.slice (some ad407) t401.length co47 : Value).ownBlock ∧ k_ ≠ gb379 ∧ k_ ≠ gb394 ∧ k_ ≠ g ∧ k_ ≠ gb408)) (by (with_reducible repeat (first | apply Kd.V_alloc | apply Kd.V_drewN | apply Kd.V_drew)); exact Kd.V_mono HL407_0.out (fun _ hk => ⟨⟨hk.1.1.1, ⟨hk.1.2, ⟨hk.1.1.2.2.1, ⟨hk.1.1.2.2.2.1, ⟨hk.1.1.2.2.2.2, hk.2⟩⟩⟩⟩⟩, hk.1.1.2.1⟩)) hg hat); replace HL407_1 := Aside0.mk (Kd.V_afterv (ok := (fun k_ => (w.heap.size ≤ k_) ∧ some k_ ≠ (.slice (some ad407) t401.length co47 : Value).ownBlock ∧ k_ ≠ gb379 ∧ k_ ≠ gb394 ∧ k_ ≠ g ∧ k_ ≠ gb408)) (by (with_reducible repeat (first | apply Kd.V_alloc | apply Kd.V_drewN | apply Kd.V_drew)); exact Kd.V_mono HL407_1.out (fun _ hk => ⟨⟨hk.1.1.1, ⟨hk.1.2, ⟨hk.1.1.2.2.1, ⟨hk.1.1.2.2.2.1, ⟨hk.1.1.2.2.2.2, hk.2⟩⟩⟩⟩⟩, hk.1.1.2.1⟩)) hg hat); replace BK408 := Aside0.mk (blk_grown (g := gb408) (o := .cells #[.slice A407_0 ((rd_T53 t401 t404).f0).length c407_0, .slice A407_1 ((rd_T53 t401 t404).f1).length c407_1, .int .i64 ((rd_T53 t401 t404).f2), .int .i64 ((rd_T53 t401 t404).f3)] 53 (0, 0)) (bk_ BK408.out) hg (Kd.N_away HO_395003.out (fun _ hk => hk.2))); replace HB := Aside0.mk (below_weaken bi0_ HL.out hb); replace HI0 := Aside0.mk (IsS118.grown (show IsS118 w0 _ g s0_0 t410 t411 from is0_) hg (IsS118.own_neN HI0.out HO_395003.out (by decide))); replace HK := Aside0.mk (KeepBut.trans (by repeat (first | (with_reducible first | exact HK.out | apply KeepBut.set_ | apply keep_drewN | apply keep_drew | apply keep_alloc | refine keep_far ?_ GW379.out _ | refine keep_far ?_ GW394.out _ | refine keep_far ?_ GW408.out _) | exact HK.out)) (KeepBut.of_grown hg g) (Kd.N_base2 HO_395003.out)); have HO437 := Aside0.mk (ho); clear HO_395003; clear ho hb hg hat; obtain ⟨Ao138, co138, eo138⟩ := Kd.N_slice HO437.out; subst eo138; obtain ⟨hcz139_0, hcz139_1, hcz139_2, hcz139_3, hfz139_0, hfz139_1, hfz139_2, hfz139_3⟩ := cf4_ BK394.out))
  go_roundg kj12
  case measure => have := HK1.out; have := HJ12.out; omega
  case rel => exact ⟨(wrap64 (x4_1 + 1)), (t410), (t411), (y435), (.slice Ao138 y435.length co138), (sr_), H', ⟨by have := HK1.out; have := HJ12.out; omega⟩, ⟨by (with_reducible repeat (first | apply Kd.N_alloc | apply Kd.N_drewN | apply Kd.N_drew)); exact Kd.N_mono (Kd.N_far (p := ⟨gb394, 3, none⟩) (Kd.N_mono HO437.out (fun k_ hk => (⟨hk, hk.2.2.2.1⟩ : _ ∧ k_ ≠ gb394))) (fun _ hk => hk.2) (.slice Ao138 y435.length co138)) (fun _ hk => ⟨hk.1.1, ⟨hk.1.2.2.1, ⟨hk.1.2.2.2.1, hk.1.2.2.2.2.2⟩⟩⟩)⟩, ⟨bp1_ BK379.out NB379_394.out⟩, ⟨bp0_ BK394.out⟩, ⟨is0_⟩, ⟨hkx_⟩, ⟨bi0_⟩⟩
 rw [if_pos c93] at H
 have c93b0 : (t409 == 2) = true := beq_iff_eq.mpr c93
 have c93b1 : (t409 != 2) = false := bne_eq_false_iff_eq.mpr c93
 clear c93
 by_cases c94 : x395003_1.length < 2199023255552
 rotate_left
 ·exact nn_ c94 H
 rw [if_pos c94] at H
 have LMc94 := Aside0.mk c94
 clear c94
 obtain ⟨y432, hy432⟩ : ∃ y_ : List (S53), y_ = (x395003_1 ++ [(⟨(rd_T53 t401 t404).f0, (rd_T53 t401 t404).f1, t389, t390⟩ : S53)]) := ⟨_, rfl⟩
 replace H : (spec_l24Policy.l0 kj12 (wrap64 (x4_1 + 1)) s0_0 t410 t411 t388 t389 t390 y432) = some (r1, r2, r3, r4, r5, r6) := rp_ H hy432
 have Ny432 := Aside0.mk hy432
 clear hy432
 have H' := Aside0.mk H
 clear H
 go_wp2_with (first | ((with_reducible refine gate_callee (f := 62) rfl ?_); refine gs_ (some 38) Try.func62 #[.pointer (some ⟨g, 0, none⟩), .int .i64 4] ?_; (with_reducible refine (spec_l01Below.calls g s0_0 t405 t406 4 t409 t410 t411 w0 _ ?side1 ?side2 A33.out).mono ?_); (case side1 => exact is0_); (case side2 => exact bi0_); rintro e w108 ⟨rfl, hi, hb, hk⟩; refine ⟨_, rfl, ?_⟩; replace HO_395003 := Aside0.mk (Kd.N_mono (Kd.N_keep (Kd.N_mono (ok := fun k_ => (((((w.heap.size ≤ k_)) ∧ (k_ ≠ gb379 ∧ (k_ ≠ gb394 ∧ k_ ≠ g))) ∧ some k_ ≠ (.slice (some ad407) t401.length co47 : Value).ownBlock) ∧ k_ ≠ gb408)) (by (with_reducible repeat (first | apply Kd.N_alloc | apply Kd.N_drewN | apply Kd.N_drew)); exact (Kd.N_mono (Kd.N_far (p := ⟨gb408, 3, none⟩) (Kd.N_far (p := ⟨gb408, 2, none⟩) (Kd.N_far (p := ⟨gb408, 1, none⟩) (Kd.N_far (p := ⟨gb408, 0, none⟩) (Kd.N_mono HO_395003.out (fun k_ hk => (⟨hk, hk.2⟩ : _ ∧ k_ ≠ gb408))) (fun _ hk => hk.2) (.slice A407_0 ((rd_T53 t401 t404).f0).length c407_0)) (fun _ hk => hk.2) (.slice A407_1 ((rd_T53 t401 t404).f1).length c407_1)) (fun _ hk => hk.2) (.int .i64 ((rd_T53 t401 t404).f2))) (fun _ hk => hk.2) (.int .i64 ((rd_T53 t401 t404).f3))) (fun _ h_ => h_.1))) (fun k_ hk_ => (⟨hk_, hk_.1.1.2.2.2⟩ : _ ∧ k_ ≠ g))) hk (fun _ h => h.2)) (fun _ h => h.1)); replace BK379 := Aside0.mk (KeepBut.blk hk (g' := gb379) (o := .cells #[.int .i64 0, .int .i64 0, .int .i64 0, .slice none 0 0] 36 (0, 0)) (bp1_ BK379.out NB379_408.out) NB379_0.out (by simp)); replace BK394 := Aside0.mk (KeepBut.blk hk (g' := gb394) (o := .cells #[.int .i64 t388, .int .i64 t389, .int .i64 t390, .slice Ao43 x395003_1.length co43] 36 (0, 0)) (bp1_ BK394.out NB394_408.out) NB394_0.out (by simp)); replace HO403 := Aside0.mk (Kd.N_mono (Kd.N_keep (Kd.N_mono (ok := fun k_ => ((((w.heap.size ≤ k_)) ∧ (some k_ ≠ (.slice Ao43 x395003_1.length co43 : Value).ownBlock ∧ (k_ ≠ gb379 ∧ (k_ ≠ gb394 ∧ k_ ≠ g)))) ∧ k_ ≠ gb408)) (by (with_reducible repeat (first | apply Kd.N_alloc | apply Kd.N_drewN | apply Kd.N_drew)); exact (Kd.N_mono (Kd.N_far (p := ⟨gb408, 3, none⟩) (Kd.N_far (p := ⟨gb408, 2, none⟩) (Kd.N_far (p := ⟨gb408, 1, none⟩) (Kd.N_far (p := ⟨gb408, 0, none⟩) (Kd.N_mono HO403.out (fun k_ hk => (⟨hk, hk.2⟩ : _ ∧ k_ ≠ gb408))) (fun _ hk => hk.2) (.slice A407_0 ((rd_T53 t401 t404).f0).length c407_0)) (fun _ hk => hk.2) (.slice A407_1 ((rd_T53 t401 t404).f1).length c407_1)) (fun _ hk => hk.2) (.int .i64 ((rd_T53 t401 t404).f2))) (fun _ hk => hk.2) (.int .i64 ((rd_T53 t401 t404).f3))) (fun _ h_ => h_.1))) (fun k_ hk_ => (⟨hk_, hk_.1.2.2.2.2⟩ : _ ∧ k_ ≠ g))) hk (fun _ h => h.2)) (fun _ h => h.1)); replace HL407_0 := Aside0.mk (Kd.V_mono (Kd.V_keep (Kd.V_mono (ok := fun k_ => (((((w.heap.size ≤ k_)) ∧ (some k_ ≠ (.slice Ao43 x395003_1.length co43 : Value).ownBlock ∧ (k_ ≠ gb379 ∧ (k_ ≠ gb394 ∧ k_ ≠ g)))) ∧ some k_ ≠ (.slice (some ad407) t401.length co47 : Value).ownBlock) ∧ k_ ≠ gb408)) (by (with_reducible repeat (first | apply Kd.V_alloc | apply Kd.V_drewN | apply Kd.V_drew)); exact (Kd.V_mono (Kd.V_far (p := ⟨gb408, 3, none⟩) (Kd.V_far (p := ⟨gb408, 2, none⟩) (Kd.V_far (p := ⟨gb408, 1, none⟩) (Kd.V_far (p := ⟨gb408, 0, none⟩) (Kd.V_mono HL407_0.out (fun k_ hk => (⟨hk, hk.2⟩ : _ ∧ k_ ≠ gb408))) (fun _ hk => hk.2) (.slice A407_0 ((rd_T53 t401 t404).f0).length c407_0)) (fun _ hk => hk.2) (.slice A407_1 ((rd_T53 t401 t404).f1).length c407_1)) (fun _ hk => hk.2) (.int .i64 ((rd_T53 t401 t404).f2))) (fun _ hk => hk.2) (.int .i64 ((rd_T53 t401 t404).f3))) (fun _ h_ => h_.1))) (fun k_ hk_ => (⟨hk_, hk_.1.1.2.2.2.2⟩ : _ ∧ k_ ≠ g))) hk (fun _ h => h.2)) (fun _ h => h.1)); replace HL407_1 := Aside0.mk (Kd.V_mono (Kd.V_keep (Kd.V_mono (ok := fun k_ => (((((w.heap.size ≤ k_)) ∧ (some k_ ≠ (.slice Ao43 x395003_1.length co43 : Value).ownBlock ∧ (k_ ≠ gb379 ∧ (k_ ≠ gb394 ∧ k_ ≠ g)))) ∧ some k_ ≠ (.slice (some ad407) t401.length co47 : Value).ownBlock) ∧ k_ ≠ gb408)) (by (with_reducible repeat (first | apply Kd.V_alloc | apply Kd.V_drewN | apply Kd.V_drew)); exact (Kd.V_mono (Kd.V_far (p := ⟨gb408, 3, none⟩) (Kd.V_far (p := ⟨gb408, 2, none⟩) (Kd.V_far (p := ⟨gb408, 1, none⟩) (Kd.V_far (p := ⟨gb408, 0, none⟩) (Kd.V_mono HL407_1.out (fun k_ hk => (⟨hk, hk.2⟩ : _ ∧ k_ ≠ gb408))) (fun _ hk => hk.2) (.slice A407_0 ((rd_T53 t401 t404).f0).length c407_0)) (fun _ hk => hk.2) (.slice A407_1 ((rd_T53 t401 t404).f1).length c407_1)) (fun _ hk => hk.2) (.int .i64 ((rd_T53 t401 t404).f2))) (fun _ hk => hk.2) (.int .i64 ((rd_T53 t401 t404).f3))) (fun _ h_ => h_.1))) (fun k_ hk_ => (⟨hk_, hk_.1.1.2.2.2.2⟩ : _ ∧ k_ ≠ g))) hk (fun _ h => h.2)) (fun _ h => h.1)); replace BK408 := Aside0.mk (KeepBut.blk hk (g' := gb408) (o := .cells #[.slice A407_0 ((rd_T53 t401 t404).f0).length c407_0, .slice A407_1 ((rd_T53 t401 t404).f1).length c407_1, .int .i64 ((rd_T53 t401 t404).f2), .int .i64 ((rd_T53 t401 t404).f3)] 53 (0, 0)) (bp0_ BK408.out) NB408_0.out (by simp)); replace HK := Aside0.mk (KeepBut.trans (by repeat (first | (with_reducible first | exact HK.out | apply KeepBut.set_ | apply keep_drewN | apply keep_drew | apply keep_alloc | refine keep_far ?_ GW379.out _ | refine keep_far ?_ GW394.out _ | refine keep_far ?_ GW408.out _) | exact HK.out)) hk (.inl rfl)); replace HB := Aside0.mk (hb); replace HI0 := Aside0.mk (hi); (try clear hb); (try clear hk); (try clear hi); obtain ⟨hcz109_0, hcz109_1, hcz109_2, hcz109_3, hfz109_0, hfz109_1, hfz109_2, hfz109_3⟩ := cf4_ BK394.out; obtain ⟨hcz110_0, hcz110_1, hcz110_2, hcz110_3, hfz110_0, hfz110_1, hfz110_2, hfz110_3⟩ := cf4_ BK408.out) | ((with_reducible refine gate_store (t := 3) (p := 59) rfl ?_); refine store_event (t := 3) (p := 59) (v := ?vo_w111) (w1 := (w108.setCell ⟨gb408, 2, none⟩ (.int .i64 t389))) ?hg ?ho ?hn ?hr ?_; (case ho => rfl); (case hg => rfl); (case hn => rfl); (case hr => first | (go_simp; done) | (go_simp; rfl)); intro w111 hw; have n0_ : Aside0 (Kd.N k53 53 w111 w.heap.size (fun k_ => (w.heap.size ≤ k_) ∧ some k_ ≠ (.slice (some ad407) t401.length co47 : Value).ownBlock ∧ k_ ≠ gb379 ∧ k_ ≠ gb394 ∧ k_ ≠ g ∧ k_ ≠ gb408) (.slice Ao43 x395003_1.length co43) x395003_1) := ⟨(by rw [hw]; exact (by (with_reducible repeat (first | apply Kd.N_alloc | apply Kd.N_drewN | apply Kd.N_drew)); exact Kd.N_mono (Kd.N_far (p := ⟨gb408, 2, none⟩) (Kd.N_mono HO_395003.out (fun k_ hk => (⟨hk, hk.2⟩ : _ ∧ k_ ≠ gb408))) (fun _ hk => hk.2) (.int .i64 t389)) (fun _ hk => ⟨hk.1.1.1.1, ⟨hk.1.1.2, ⟨hk.1.1.1.2.1, ⟨hk.1.1.1.2.2.1, ⟨hk.1.1.1.2.2.2, hk.1.2⟩⟩⟩⟩⟩)))⟩; have n1_ : Aside0 (Kd.N k53 53 w111 w.heap.size (fun k_ => (w.heap.size ≤ k_) ∧ some k_ ≠ (.slice Ao43 x395003_1.length co43 : Value).ownBlock ∧ k_ ≠ gb379 ∧ k_ ≠ gb394 ∧ k_ ≠ g ∧ k_ ≠ gb408) (.slice (some ad407) t401.length co47) t401) := ⟨(by rw [hw]; exact (by (with_reducible repeat (first | apply Kd.N_alloc | apply Kd.N_drewN | apply Kd.N_drew)); exact Kd.N_mono (Kd.N_far (p := ⟨gb408, 2, none⟩) (Kd.N_mono HO403.out (fun k_ hk => (⟨hk, hk.2⟩ : _ ∧ k_ ≠ gb408))) (fun _ hk => hk.2) (.int .i64 t389)) (fun _ hk => ⟨hk.1.1.1, ⟨hk.1.1.2.1, ⟨hk.1.1.2.2.1, ⟨hk.1.1.2.2.2.1, ⟨hk.1.1.2.2.2.2, hk.1.2⟩⟩⟩⟩⟩)))⟩; have n2_ : Aside0 (Kd.V (Kd.int .i64) 3 w111 w.heap.size (fun k_ => (w.heap.size ≤ k_) ∧ some k_ ≠ (.slice Ao43 x395003_1.length co43 : Value).ownBlock ∧ some k_ ≠ (.slice (some ad407) t401.length co47 : Value).ownBlock ∧ k_ ≠ gb379 ∧ k_ ≠ gb394 ∧ k_ ≠ g ∧ k_ ≠ gb408) (.slice A407_0 ((rd_T53 t401 t404).f0).length c407_0) ((rd_T53 t401 t404).f0)) := ⟨(by rw [hw]; exact (by (with_reducible repeat (first | apply Kd.V_alloc | apply Kd.V_drewN | apply Kd.V_drew)); exact Kd.V_mono (Kd.V_far (p := ⟨gb408, 2, none⟩) (Kd.V_mono HL407_0.out (fun k_ hk => (⟨hk, hk.2⟩ : _ ∧ k_ ≠ gb408))) (fun _ hk => hk.2) (.int .i64 t389)) (fun _ hk => ⟨hk.1.1.1.1, ⟨hk.1.1.1.2.1, ⟨hk.1.1.2, ⟨hk.1.1.1.2.2.1, ⟨hk.1.1.1.2.2.2.1, ⟨hk.1.1.1.2.2.2.2, hk.1.2⟩⟩⟩⟩⟩⟩)))⟩; have n3_ : Aside0 (Kd.V k100 100 w111 w.heap.size (fun k_ => (w.heap.size ≤ k_) ∧ some k_ ≠ (.slice Ao43 x395003_1.length co43 : Value).ownBlock ∧ some k_ ≠ (.slice (some ad407) t401.length co47 : Value).ownBlock ∧ k_ ≠ gb379 ∧ k_ ≠ gb394 ∧ k_ ≠ g ∧ k_ ≠ gb408) (.slice A407_1 ((rd_T53 t401 t404).f1).length c407_1) ((rd_T53 t401 t404).f1)) := ⟨(by rw [hw]; exact (by (with_reducible repeat (first | apply Kd.V_alloc | apply Kd.V_drewN | apply Kd.V_drew)); exact Kd.V_mono (Kd.V_far (p := ⟨gb408, 2, none⟩) (Kd.V_mono HL407_1.out (fun k_ hk => (⟨hk, hk.2⟩ : _ ∧ k_ ≠ gb408))) (fun _ hk => hk.2) (.int .i64 t389)) (fun _ hk => ⟨hk.1.1.1.1, ⟨hk.1.1.1.2.1, ⟨hk.1.1.2, ⟨hk.1.1.1.2.2.1, ⟨hk.1.1.1.2.2.2.1, ⟨hk.1.1.1.2.2.2.2, hk.1.2⟩⟩⟩⟩⟩⟩)))⟩; have n4_ : Aside0 (w111.heap[gb379]? = some (.cells #[.int .i64 0, .int .i64 0, .int .i64 0, .slice none 0 0] 36 (0, 0))) := ⟨(by rw [hw]; exact (bp1_ BK379.out NB379_408.out))⟩; have n5_ : Aside0 (w111.heap[gb394]? = some (.cells #[.int .i64 t388, .int .i64 t389, .int .i64 t390, .slice Ao43 x395003_1.length co43] 36 (0, 0))) := ⟨(by rw [hw]; exact (bp1_ BK394.out NB394_408.out))⟩; have n6_ : Aside0 (w111.heap[gb408]? = some (.cells #[.slice A407_0 ((rd_T53 t401 t404).f0).length c407_0, .slice A407_1 ((rd_T53 t401 t404).f1).length c407_1, .int .i64 t389, .int .i64 ((rd_T53 t401 t404).f3)] 53 (0, 0))) := ⟨(by rw [hw]; exact (bp0_ BK408.out))⟩; have n7_ : Aside0 (IsS118 w0 w111 g s0_0 t410 t411) := ⟨(by rw [hw]; exact is0_)⟩; have n8_ : Aside0 (KeepBut w w111 g none) := ⟨(by rw [hw]; exact hkx_)⟩; have n9_ : Aside0 (Below w0.heap.size w0 w111) := ⟨(by rw [hw]; exact bi0_)⟩; clear hw; clear HO_395003; clear HO403; clear HL407_0; clear HL407_1; clear BK379; clear BK394; clear BK408; clear HI0; clear HK; clear HB; have HO_395003 := n0_; have HO403 := n1_; have HL407_0 := n2_; have HL407_1 := n3_; have BK379 := n4_; have BK394 := n5_; have BK408 := n6_; have HI0 := n7_; have HK := n8_; have HB := n9_; clear n0_ n1_ n2_ n3_ n4_ n5_ n6_ n7_ n8_ n9_; obtain ⟨hcz112_0, hcz112_1, hcz112_2, hcz112_3, hfz112_0, hfz112_1, hfz112_2, hfz112_3⟩ := cf4_ BK394.out; obtain ⟨hcz113_0, hcz113_1, hcz113_2, hcz113_3, hfz113_0, hfz113_1, hfz113_2, hfz113_3⟩ := cf4_ BK408.out) | ((with_reducible refine gate_store (t := 3) (p := 62) rfl ?_); refine store_event (t := 3) (p := 62) (v := ?vo_w114) (w1 := (w111.setCell ⟨gb408, 3, none⟩ (.int .i64 t390))) ?hg ?ho ?hn ?hr ?_; (case ho => rfl); (case hg => rfl); (case hn => rfl); (case hr => first | (go_simp; done) | (go_simp; rfl)); intro w114 hw; have n0_ : Aside0 (Kd.N k53 53 w114 w.heap.size (fun k_ => (w.heap.size ≤ k_) ∧ some k_ ≠ (.slice (some ad407) t401.length co47 : Value).ownBlock ∧ k_ ≠ gb379 ∧ k_ ≠ gb394 ∧ k_ ≠ g ∧ k_ ≠ gb408) (.slice Ao43 x395003_1.length co43) x395003_1) := ⟨(by rw [hw]; exact (by (with_reducible repeat (first | apply Kd.N_alloc | apply Kd.N_drewN | apply Kd.N_drew)); exact Kd.N_mono (Kd.N_far (p := ⟨gb408, 3, none⟩) (Kd.N_mono HO_395003.out (fun k_ hk => (⟨hk, hk.2.2.2.2.2⟩ : _ ∧ k_ ≠ gb408))) (fun _ hk => hk.2) (.int .i64 t390)) (fun _ hk => ⟨hk.1.1, ⟨hk.1.2.1, ⟨hk.1.2.2.1, ⟨hk.1.2.2.2.1, ⟨hk.1.2.2.2.2.1, hk.1.2.2.2.2.2⟩⟩⟩⟩⟩)))⟩; have n1_ : Aside0 (Kd.N k53 53 w114 w.heap.size (fun k_ => (w.heap.size ≤ k_) ∧ some k_ ≠ (.slice Ao43 x395003_1.length co43 : Value).ownBlock ∧ k_ ≠ gb379 ∧ k_ ≠ gb394 ∧ k_ ≠ g ∧ k_ ≠ gb408) (.slice (some ad407) t401.length co47) t401) := ⟨(by rw [hw]; exact (by (with_reducible repeat (first | apply Kd.N_alloc | apply Kd.N_drewN | apply Kd.N_drew)); exact Kd.N_mono (Kd.N_far (p := ⟨gb408, 3, none⟩) (Kd.N_mono HO403.out (fun k_ hk => (⟨hk, hk.2.2.2.2.2⟩ : _ ∧ k_ ≠ gb408))) (fun _ hk => hk.2) (.int .i64 t390)) (fun _ hk => ⟨hk.1.1, ⟨hk.1.2.1, ⟨hk.1.2.2.1, ⟨hk.1.2.2.2.1, ⟨hk.1.2.2.2.2.1, hk.1.2.2.2.2.2⟩⟩⟩⟩⟩)))⟩; have n2_ : Aside0 (Kd.V (Kd.int .i64) 3 w114 w.heap.size (fun k_ => (w.heap.size ≤ k_) ∧ some k_ ≠ (.slice Ao43 x395003_1.length co43 : Value).ownBlock ∧ some k_ ≠ (.slice (some ad407) t401.length co47 : Value).ownBlock ∧ k_ ≠ gb379 ∧ k_ ≠ gb394 ∧ k_ ≠ g ∧ k_ ≠ gb408) (.slice A407_0 ((rd_T53 t401 t404).f0).length c407_0) ((rd_T53 t401 t404).f0)) := ⟨(by rw [hw]; exact (by (with_reducible repeat (first | apply Kd.V_alloc | apply Kd.V_drewN | apply Kd.V_drew)); exact Kd.V_mono (Kd.V_far (p := ⟨gb408, 3, none⟩) (Kd.V_mono HL407_0.out (fun k_ hk => (⟨hk, hk.2.2.2.2.2.2⟩ : _ ∧ k_ ≠ gb408))) (fun _ hk => hk.2) (.int .i64 t390)) (fun _ hk => ⟨hk.1.1, ⟨hk.1.2.1, ⟨hk.1.2.2.1, ⟨hk.1.2.2.2.1, ⟨hk.1.2.2.2.2.1, ⟨hk.1.2.2.2.2.2.1, hk.1.2.2.2.2.2.2⟩⟩⟩⟩⟩⟩)))⟩; have n3_ : Aside0 (Kd.V k100 100 w114 w.heap.size (fun k_ => (w.heap.size ≤ k_) ∧ some k_ ≠ (.slice Ao43 x395003_1.length co43 : Value).ownBlock ∧ some k_ ≠ (.slice (some ad407) t401.length co47 : Value).ownBlock ∧ k_ ≠ gb379 ∧ k_ ≠ gb394 ∧ k_ ≠ g ∧ k_ ≠ gb408) (.slice A407_1 ((rd_T53 t401 t404).f1).length c407_1) ((rd_T53 t401 t404).f1)) := ⟨(by rw [hw]; exact (by (with_reducible repeat (first | apply Kd.V_alloc | apply Kd.V_drewN | apply Kd.V_drew)); exact Kd.V_mono (Kd.V_far (p := ⟨gb408, 3, none⟩) (Kd.V_mono HL407_1.out (fun k_ hk => (⟨hk, hk.2.2.2.2.2.2⟩ : _ ∧ k_ ≠ gb408))) (fun _ hk => hk.2) (.int .i64 t390)) (fun _ hk => ⟨hk.1.1, ⟨hk.1.2.1, ⟨hk.1.2.2.1, ⟨hk.1.2.2.2.1, ⟨hk.1.2.2.2.2.1, ⟨hk.1.2.2.2.2.2.1, hk.1.2.2.2.2.2.2⟩⟩⟩⟩⟩⟩)))⟩; have n4_ : Aside0 (w114.heap[gb379]? = some (.cells #[.int .i64 0, .int .i64 0, .int .i64 0, .slice none 0 0] 36 (0, 0))) := ⟨(by rw [hw]; exact (bp1_ BK379.out NB379_408.out))⟩; have n5_ : Aside0 (w114.heap[gb394]? = some (.cells #[.int .i64 t388, .int .i64 t389, .int .i64 t390, .slice Ao43 x395003_1.length co43] 36 (0, 0))) := ⟨(by rw [hw]; exact (bp1_ BK394.out NB394_408.out))⟩; have n6_ : Aside0 (w114.heap[gb408]? = some (.cells #[.slice A407_0 ((rd_T53 t401 t404).f0).length c407_0, .slice A407_1 ((rd_T53 t401 t404).f1).length c407_1, .int .i64 t389, .int .i64 t390] 53 (0, 0))) := ⟨(by rw [hw]; exact (bp0_ BK408.out))⟩; have n7_ : Aside0 (IsS118 w0 w114 g s0_0 t410 t411) := ⟨(by rw [hw]; exact is0_)⟩; have n8_ : Aside0 (KeepBut w w114 g none) := ⟨(by rw [hw]; exact hkx_)⟩; have n9_ : Aside0 (Below w0.heap.size w0 w114) := ⟨(by rw [hw]; exact bi0_)⟩; clear hw; clear HO_395003; clear HO403; clear HL407_0; clear HL407_1; clear BK379; clear BK394; clear BK408; clear HI0; clear HK; clear HB; have HO_395003 := n0_; have HO403 := n1_; have HL407_0 := n2_; have HL407_1 := n3_; have BK379 := n4_; have BK394 := n5_; have BK408 := n6_; have HI0 := n7_; have HK := n8_; have HB := n9_; clear n0_ n1_ n2_ n3_ n4_ n5_ n6_ n7_ n8_ n9_; obtain ⟨hcz115_0, hcz115_1, hcz115_2, hcz115_3, hfz115_0, hfz115_1, hfz115_2, hfz115_3⟩ := cf4_ BK394.out; obtain ⟨hcz116_0, hcz116_1, hcz116_2, hcz116_3, hfz116_0, hfz116_1, hfz116_2, hfz116_3⟩ := cf4_ BK408.out) | ((with_reducible refine gate_builtin (b := .append) (xs := #[.tmp 64, .tmp 66]) rfl ?_); (try (refine gate_guard (by rfl) ?_; dsimp only)); at_builtin; refine Kd.N_append k53 w.heap.size rfl (.tmp 64) (.tmp 66) 34 53 (.agg #[(.slice none 0 0), (.slice none 0 0), (.int .i64 0), (.int .i64 0)]) 64 rfl Try.underlying34 info53 rfl (by decide) (by omega) (.slice Ao43 x395003_1.length co43) x395003_1 (⟨(rd_T53 t401 t404).f0, (rd_T53 t401 t404).f1, t389, t390⟩ : S53) [.slice A407_0 ((rd_T53 t401 t404).f0).length c407_0, .slice A407_1 ((rd_T53 t401 t404).f1).length c407_1, .int .i64 t389, .int .i64 t390] (fun k_ => (w.heap.size ≤ k_) ∧ some k_ ≠ (.slice (some ad407) t401.length co47 : Value).ownBlock ∧ k_ ≠ gb379 ∧ k_ ≠ gb394 ∧ k_ ≠ gb408 ∧ k_ ≠ g) (fun k_ => ((fun k_ => (w.heap.size ≤ k_) ∧ some k_ ≠ (.slice (some ad407) t401.length co47 : Value).ownBlock ∧ k_ ≠ gb379 ∧ k_ ≠ gb394 ∧ k_ ≠ gb408 ∧ k_ ≠ g)) k_ ∧ some k_ ≠ (.slice Ao43 x395003_1.length co43 : Value).ownBlock) rfl rfl ?aP (fun _ hk => hk) ?aF ?aO (Below.refl _ _) ?aS ?aL ?_; (case aP => exact (k53_mkF _ _ (⟨(rd_T53 t401 t404).f0, (rd_T53 t401 t404).f1, t389, t390⟩ : S53) (Kd.V_reads' (Kd.V_mono (ok' := (fun k_ => ((fun k_ => (w.heap.size ≤ k_) ∧ some k_ ≠ (.slice (some ad407) t401.length co47 : Value).ownBlock ∧ k_ ≠ gb379 ∧ k_ ≠ gb394 ∧ k_ ≠ gb408 ∧ k_ ≠ g)) k_ ∧ some k_ ≠ (.slice Ao43 x395003_1.length co43 : Value).ownBlock)) (HL407_0.out) (fun k_ hk => ⟨⟨hk.1, ⟨hk.2.2.1, ⟨hk.2.2.2.1, ⟨hk.2.2.2.2.1, ⟨hk.2.2.2.2.2.2, hk.2.2.2.2.2.1⟩⟩⟩⟩⟩, hk.2.1⟩))).2.1 (Kd.V_F (Kd.V_mono (ok' := (fun k_ => ((fun k_ => (w.heap.size ≤ k_) ∧ some k_ ≠ (.slice (some ad407) t401.length co47 : Value).ownBlock ∧ k_ ≠ gb379 ∧ k_ ≠ gb394 ∧ k_ ≠ gb408 ∧ k_ ≠ g)) k_ ∧ some k_ ≠ (.slice Ao43 x395003_1.length co43 : Value).ownBlock)) (HL407_0.out) (fun k_ hk => ⟨⟨hk.1, ⟨hk.2.2.1, ⟨hk.2.2.2.1, ⟨hk.2.2.2.2.1, ⟨hk.2.2.2.2.2.2, hk.2.2.2.2.2.1⟩⟩⟩⟩⟩, hk.2.1⟩))) (Kd.V_reads' (Kd.V_mono (ok' := (fun k_ => ((fun k_ => (w.heap.size ≤ k_) ∧ some k_ ≠ (.slice (some ad407) t401.length co47 : Value).ownBlock ∧ k_ ≠ gb379 ∧ k_ ≠ gb394 ∧ k_ ≠ gb408 ∧ k_ ≠ g)) k_ ∧ some k_ ≠ (.slice Ao43 x395003_1.length co43 : Value).ownBlock)) (HL407_1.out) (fun k_ hk => ⟨⟨hk.1, ⟨hk.2.2.1, ⟨hk.2.2.2.1, ⟨hk.2.2.2.2.1, ⟨hk.2.2.2.2.2.2, hk.2.2.2.2.2.1⟩⟩⟩⟩⟩, hk.2.1⟩))).2.1 (Kd.V_F (Kd.V_mono (ok' := (fun k_ => ((fun k_ => (w.heap.size ≤ k_) ∧ some k_ ≠ (.slice (some ad407) t401.length co47 : Value).ownBlock ∧ k_ ≠ gb379 ∧ k_ ≠ gb394 ∧ k_ ≠ gb408 ∧ k_ ≠ g)) k_ ∧ some k_ ≠ (.slice Ao43 x395003_1.length co43 : Value).ownBlock)) (HL407_1.out) (fun k_ hk => ⟨⟨hk.1, ⟨hk.2.2.1, ⟨hk.2.2.2.1, ⟨hk.2.2.2.2.1, ⟨hk.2.2.2.2.2.2, hk.2.2.2.2.2.1⟩⟩⟩⟩⟩, hk.2.1⟩))))); (case aF => exact (fun k_ hk => ⟨(Nat.le_trans (keep_size (w := w) (g := g) (row := none) hkx_) hk), Kd.fresh' (Kd.N_lt (na_ HO403.out)) k_ hk, fb_ BK379.out k_ hk, fb_ BK394.out k_ hk, fb_ BK408.out k_ hk, IsS118.fresh is0_ k_ hk⟩)); (case aO => exact (by (with_reducible repeat (first | apply Kd.N_alloc | apply Kd.N_drewN | apply Kd.N_drew)); exact Kd.N_mono HO_395003.out (fun _ hk => ⟨hk.1, ⟨hk.2.1, ⟨hk.2.2.1, ⟨hk.2.2.2.1, ⟨hk.2.2.2.2.2, hk.2.2.2.2.1⟩⟩⟩⟩⟩))); (case aS => exact (keep_size (w := w) (g := g) (row := none) hkx_)); (case aL => have := LMc94.out; omega); intro v433 w117 ho hb hg hat; rw [← Ny432.out] at ho; replace BK379 := Aside0.mk (blk_grown (g := gb379) (o := .cells #[.int .i64 0, .int .i64 0, .int .i64 0, .slice none 0 0] 36 (0, 0)) (bk_ BK379.out) hg (Kd.N_ne HO_395003.out BK379.out (by decide))); replace BK394 := Aside0.mk (blk_grown (g := gb394) (o := .cells #[.int .i64 t388, .int .i64 t389, .int .i64 t390, .slice Ao43 x395003_1.length co43] 36 (0, 0)) (bk_ BK394.out) hg (Kd.N_ne HO_395003.out BK394.out (by decide))); replace HO403 := Aside0.mk (Kd.N_afterv (ok := (fun k_ => (w.heap.size ≤ k_) ∧ k_ ≠ gb379 ∧ k_ ≠ gb394 ∧ k_ ≠ g ∧ k_ ≠ gb408)) (by (with_reducible repeat (first | apply Kd.N_alloc | apply Kd.N_drewN | apply Kd.N_drew)); exact Kd.N_mono HO403.out (fun _ hk => ⟨⟨hk.1, ⟨hk.2.2.1, ⟨hk.2.2.2.1, ⟨hk.2.2.2.2.1, hk.2.2.2.2.2⟩⟩⟩⟩, hk.2.1⟩)) hg hat); replace HL407_0 := Aside0.mk (Kd.V_afterv (ok := (fun k_ => (w.heap.size ≤ k_) ∧ some k_ ≠ (.slice (some ad407) t401.length co47 : Value).ownBlock ∧ k_ ≠ gb379 ∧ k_ ≠ gb394 ∧ k_ ≠ g ∧ k_ ≠ gb408)) (by (with_reducible repeat (first | apply Kd.V_alloc | apply Kd.V_drewN | apply Kd.V_drew)); exact Kd.V_mono HL407_0.out (fun _ hk => ⟨⟨hk.1, ⟨hk.2.2.1, ⟨hk.2.2.2.1, ⟨hk.2.2.2.2.1, ⟨hk.2.2.2.2.2.1, hk.2.2.2.2.2.2⟩⟩⟩⟩⟩, hk.2.1⟩)) hg hat); replace HL407_1 := Aside0.mk (Kd.V_afterv (ok := (fun k_ => (w.heap.size ≤ k_) ∧ some k_ ≠ (.slice (some ad407) t401.length co47 : Value).ownBlock ∧ k_ ≠ gb379 ∧ k_ ≠ gb394 ∧ k_ ≠ g ∧ k_ ≠ gb408)) (by (with_reducible repeat (first | apply Kd.V_alloc | apply Kd.V_drewN | apply Kd.V_drew)); exact Kd.V_mono HL407_1.out (fun _ hk => ⟨⟨hk.1, ⟨hk.2.2.1, ⟨hk.2.2.2.1, ⟨hk.2.2.2.2.1, ⟨hk.2.2.2.2.2.1, hk.2.2.2.2.2.2⟩⟩⟩⟩⟩, hk.2.1⟩)) hg hat); replace BK408 := Aside0.mk (blk_grown (g := gb408) (o := .cells #[.slice A407_0 ((rd_T53 t401 t404).f0).length c407_0, .slice A407_1 ((rd_T53 t401 t404).f1).length c407_1, .int .i64 t389, .int .i64 t390] 53 (0, 0)) (bk_ BK408.out) hg (Kd.N_away HO_395003.out (fun _ hk => hk.2.2.2.2.2))); replace HB := Aside0.mk (below_weaken bi0_ HL.out hb); replace HI0 := Aside0.mk (IsS118.grown (show IsS118 w0 _ g s0_0 t410 t411 from is0_) hg (IsS118.own_neN HI0.out HO_395003.out (by decide))); replace HK := Aside0.mk (KeepBut.trans (by repeat (first | (with_reducible first | exact HK.out | apply KeepBut.set_ | apply keep_drewN | apply keep_drew | apply keep_alloc | refine keep_far ?_ GW379.out _ | refine keep_far ?_ GW394.out _ | refine keep_far ?_ GW408.out _) | exact HK.out)) (KeepBut.of_grown hg g) (Kd.N_base2 HO_395003.out)); have HO434 := Aside0.mk (ho); clear HO_395003; clear ho hb hg hat; obtain ⟨Ao118, co118, eo118⟩ := Kd.N_slice HO434.out; subst eo118; obtain ⟨hcz119_0, hcz119_1, hcz119_2, hcz119_3, hfz119_0, hfz119_1, hfz119_2, hfz119_3⟩ := cf4_ BK394.out))
 go_roundg kj12
 case measure => have := HK1.out; have := HJ12.out; omega
 case rel => exact ⟨(wrap64 (x4_1 + 1)), (t410), (t411), (y432), (.slice Ao118 y432.length co118), (sr_), H', ⟨by have := HK1.out; have := HJ12.out; omega⟩, ⟨by (with_reducible repeat (first | apply Kd.N_alloc | apply Kd.N_drewN | apply Kd.N_drew)); exact Kd.N_mono (Kd.N_far (p := ⟨gb394, 3, none⟩) (Kd.N_mono HO434.out (fun k_ hk => (⟨hk, hk.2.2.2.1⟩ : _ ∧ k_ ≠ gb394))) (fun _ hk => hk.2) (.slice Ao118 y432.length co118)) (fun _ hk => ⟨hk.1.1, ⟨hk.1.2.2.1, ⟨hk.1.2.2.2.1, hk.1.2.2.2.2.2⟩⟩⟩)⟩, ⟨bp1_ BK379.out NB379_394.out⟩, ⟨bp0_ BK394.out⟩, ⟨is0_⟩, ⟨hkx_⟩, ⟨bi0_⟩⟩

end Go.Proofs.Ytjfmpodeenidnaa.PC
