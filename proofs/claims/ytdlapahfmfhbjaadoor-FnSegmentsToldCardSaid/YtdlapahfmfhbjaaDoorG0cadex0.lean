/- Contracts of functions of the program and of the reference, and plain lemmas on what they compute. No condition. -/
import Derived.Test.YtdlapahfmfhbjaaDoorG523dfx0
import Derived.Test.YtdlapahfmfhbjaaDoorG523dfx1
import Derived.Test.YtdlapahfmfhbjaaDoorG523dfx2
import Derived.Test.YtdlapahfmfhbjaaDoorShortV
set_option maxHeartbeats 8000000
set_option maxRecDepth 100000
namespace Go.Proofs.YtdlapahfmfhbjaaDoor.PA
open Go.RowKit Go.Proofs.YtdlapahfmfhbjaaDoor.Short Go.Proofs.YtdlapahfmfhbjaaDoorW.PrintWords Go.Proofs.YtdlapahfmfhbjaaDoorW.PrintLast Go.Proofs.YtdlapahfmfhbjaaDoorW.PrintMore
attribute [local go_sem] max2_int min2_int max_two min_two max_three min_three max_four min_four   -- for this text's walks alone
set_option linter.unusedVariables false
set_option linter.unusedSimpArgs false

def spec_l01Pick.f (s0_0 : List Int) (s0_1 : Int) (s0_2 : Int) (l1 : List ByteArray) : Option (ByteArray × Int × Int) := (spec_l01Below.f s0_0 s0_1 s0_2 (l1.length : Int)).bind fun bt225 => (if 0 ≤ bt225.1 then (if bt225.1 < (l1.length : Int) then (some (rdOf ByteArray.empty l1 bt225.1, bt225.2.1, bt225.2.2)) else (none)) else (none))
theorem spec_l01Pick.calls (g : Nat) (s0_0 : List Int) (s0_1 : Int) (s0_2 : Int) (A1 : Option Addr) (c1 : Nat) (l1 : List ByteArray) (r1 : ByteArray) (r2 : Int) (r3 : Int) (w0 w : World) (hI : IsS100 w0 w g s0_0 s0_1 s0_2) (hB : Below w0.heap.size w0 w) (hr1 : Kd.C Kd.string w A1 l1.length l1) (hc1 : l1.length ≤ c1) (hf1 : ∀ ad, A1 = some ad → 0 < l1.length → ad.block ≠ g) (h : spec_l01Pick.f s0_0 s0_1 s0_2 l1 = some (r1, r2, r3)) :
 Calls Tryd.prog 59 #[.pointer (some ⟨g, 0, none⟩), .slice A1 l1.length c1] w fun e w' => e = .returned (.string r1) ∧ IsS100 w0 w' g s0_0 r2 r3 ∧ Below w0.heap.size w0 w' ∧ KeepBut w w' g none := by
 have HR1 := Aside0.mk hr1
 have HC1 := Aside0.mk hc1
 clear hr1 hc1
 have HI0 := Aside0.mk hI
 have HK := Aside0.mk (KeepBut.refl w g none)
 have HL := Aside0.mk hB.size
 clear hI
 have HW0 := Aside0.mk hB.size
 have HB := Aside0.mk hB
 clear hB
 have H := h
 unfold spec_l01Pick.f at H
 clear h
 replace H := bs_ H
 obtain ⟨⟨t225, t226, t227⟩, A3, H⟩ := H
 try dsimp only at H
 by_cases c4 : 0 ≤ t225
 rotate_left
 ·exact nn_ c4 H
 rw [if_pos c4] at H
 have c4b0 := decide_eq_true c4
 clear c4
 by_cases c5 : t225 < (l1.length : Int)
 rotate_left
 ·exact nn_ c5 H
 rw [if_pos c5] at H
 have c5b0 := decide_eq_true c5
 clear c5
 simp only [Option.some.injEq, Prod.mk.injEq] at H
 obtain ⟨rfl, rfl, rfl⟩ := H
 go_enter Tryd.func59, Tryd.ntmps59
 go_wp2_with (first | ((with_reducible refine gate_callee (f := 64) rfl ?_); refine gs_ (some 9) Tryd.func64 #[.pointer (some ⟨g, 0, none⟩), .int .i64 (l1.length : Int)] ?_; (with_reducible refine (spec_l01Below.calls g s0_0 s0_1 s0_2 (l1.length : Int) t225 t226 t227 w0 _ ?side1 ?side2 A3.out).mono ?_); (case side1 => exact is0_); (case side2 => exact bi0_); rintro e w6 ⟨rfl, hi, hb, hk⟩; refine ⟨_, rfl, ?_⟩; replace HK := Aside0.mk (KeepBut.trans hkx_ hk (.inl rfl)); replace HB := Aside0.mk (hb); replace HI0 := Aside0.mk (hi); (try clear hb); (try clear hk); (try clear hi); have p228 : 0 ≤ (t225 : Int) := of_decide_eq_true as_; have q228 : t225 < (l1.length : Int) := of_decide_eq_true as_; obtain ⟨ad228, e228, hx228_0⟩ := Kd.at_string HR1.out t225 p228 q228; cases e228; replace hx228_0 := keep_cell HK.out hx228_0 (by first | (rw [add_block]; exact hf1 _ rfl (by omega)) | exact hf1 _ rfl (by omega) | exact hf1 ad228 rfl (by omega)); replace p228 := eq_true p228; replace q228 := eq_true q228))
 go_ret
 exact ⟨er_, is0_, bi0_, hkx_⟩


def spec_l27Draw.f (k : Nat) (l0 : List Int) : Option ((List (S27)) × Int) := (spec_l01New.f k l0).bind fun bt190 => ((spec_l01Below.f bt190.1 bt190.2.1 bt190.2.2 12).bind fun bt194 => ((spec_l19Any.f k bt190.1 bt194.2.1 bt194.2.2).bind fun bt197 => ((spec_l19Entries.f k bt190.1 bt197.2.1 bt197.2.2).bind fun bt202 => (if bt197.1.length + bt202.1.length < 2932031007402 then ((spec_l01Once.f bt190.1 bt202.2.1 bt202.2.2 20).bind fun bt210 => (if bt210.1 = true then ((spec_l01Below.f bt190.1 bt210.2.1 bt210.2.2 2).bind fun bt213 => (if 0 ≤ (wrap64 (200 + bt213.1)) then (if (wrap64 (200 + bt213.1) : Int).toNat ≤ 5864062014805 then (some ((List.replicate (wrap64 (200 + bt213.1) : Int).toNat z27), wrap64 (bt194.1 - 1))) else (none)) else (none))) else (some ((bt197.1 ++ bt202.1), wrap64 (bt194.1 - 1))))) else (none)))))
theorem spec_l27Draw.mono : ∀ a0 k, LeO (spec_l27Draw.f k a0) (spec_l27Draw.f (k + 1) a0) := by
 intro a0 k
 unfold spec_l27Draw.f
 have m0 := @spec_l01New.mono
 have m1 := @spec_l19Any.mono
 have m2 := @spec_l19Entries.mono
 exact mo_
theorem spec_l27Draw.calls (k : Nat) (A0 : Option Addr) (c0 : Nat) (l0 : List Int) (r1 : List (S27)) (r2 : Int) (w : World) (hr0 : Kd.C (Kd.int .u8) w A0 l0.length l0) (hc0 : l0.length ≤ c0) (h : spec_l27Draw.f k l0 = some (r1, r2)) :
 Calls Tryd.prog 57 #[.slice A0 l0.length c0] w fun e w' => ∃ v0_ : Value, e = .returned (.tuple #[v0_, .int .i64 r2]) ∧ Kd.R k27 27 w' w.heap.size (fun _ => True) v0_ r1 ∧ Below w.heap.size w w' := by
 have HR0 := Aside0.mk hr0
 have HC0 := Aside0.mk hc0
 clear hr0 hc0
 have HB := Aside0.mk (Below.refl w.heap.size w)
 have H := h
 unfold spec_l27Draw.f at H
 clear h
 replace H := bs_ H
 obtain ⟨⟨t190, t191, t192⟩, A2, H⟩ := H
 try dsimp only at H
 replace H := bs_ H
 obtain ⟨⟨t194, t195, t196⟩, A3, H⟩ := H
 try dsimp only at H
 replace H := bs_ H
 obtain ⟨⟨t197, t200, t201⟩, A4, H⟩ := H
 try dsimp only at H
 replace H := bs_ H
 obtain ⟨⟨t202, t205, t206⟩, A5, H⟩ := H
 try dsimp only at H
 by_cases c6 : t197.length + t202.length < 2932031007402
 rotate_left
 ·exact nn_ c6 H
 rw [if_pos c6] at H
 have LMc6 := Aside0.mk c6
 clear c6
 obtain ⟨y207, hy207⟩ : ∃ y_ : List (S27), y_ = (t197 ++ t202) := ⟨_, rfl⟩
 replace H : ((spec_l01Once.f t190 t205 t206 20).bind fun bt210 => (if bt210.1 = true then ((spec_l01Below.f t190 bt210.2.1 bt210.2.2 2).bind fun bt213 => (if 0 ≤ (wrap64 (200 + bt213.1)) then (if (wrap64 (200 + bt213.1) : Int).toNat ≤ 5864062014805 then (some ((List.replicate (wrap64 (200 + bt213.1) : Int).toNat z27), wrap64 (t194 - 1))) else (none)) else (none))) else (some (y207, wrap64 (t194 - 1))))) = some (r1, r2) := rp_ H hy207
 have Ny207 := Aside0.mk hy207
 clear hy207
 replace H := bs_ H
 obtain ⟨⟨t210, t211, t212⟩, A7, H⟩ := H
 try dsimp only at H
 by_cases c8 : t210 = true
 rotate_left
 ·replace c8 := Bool.eq_false_iff.mpr c8
  subst c8
  rw [nf_] at H
  simp only [Option.some.injEq, Prod.mk.injEq] at H
  obtain ⟨rfl, rfl⟩ := H
  go_enter Tryd.func57, Tryd.ntmps57
  go_wp2_with (first | ((with_reducible refine gate_callee (f := 58) rfl ?_); refine gs_ (some 8) Tryd.func58 #[.slice A0 l0.length c0] ?_; (with_reducible refine (spec_l01New.calls k _ _ l0 t190 t191 t192 w _ ?side1 ?side2 ?side3 A2.out).mono ?_); (case side1 => repeat (first | (with_reducible first | exact HB.out | apply below_alloc | apply pw_below_drewN | apply below_drew1) | exact HB.out)); (case side2 => exact HR0.out); (case side3 => exact HC0.out); rintro e w23 ⟨g193, rfl, hi, hb, hb2⟩; refine ⟨_, rfl, ?_⟩; replace HB := Aside0.mk (hb); have HI193 := Aside0.mk (hi); (try clear hb); (try clear hb2); (try clear hi)) | ((with_reducible refine gate_callee (f := 64) rfl ?_); refine gs_ (some 10) Tryd.func64 #[.pointer (some ⟨g193, 0, none⟩), .int .i64 12] ?_; (with_reducible refine (spec_l01Below.calls g193 t190 t191 t192 12 t194 t195 t196 w _ ?side1 ?side2 A3.out).mono ?_); (case side1 => exact is4_); (case side2 => exact bi4_); rintro e w24 ⟨rfl, hi, hb, hk⟩; refine ⟨_, rfl, ?_⟩; replace HB := Aside0.mk (hb); replace HI193 := Aside0.mk (hi); (try clear hb); (try clear hk); (try clear hi)) | ((with_reducible refine gate_callee (f := 71) rfl ?_); refine gs_ (some 13) Tryd.func71 #[.pointer (some ⟨g193, 0, none⟩)] ?_; (with_reducible refine (spec_l19Any.calls k g193 t190 t195 t196 t197 t200 t201 w _ ?side1 ?side2 A4.out).mono ?_); (case side1 => exact is4_); (case side2 => exact bi4_); rintro e w25 ⟨v198, rfl, ho0, hi, hb, hk⟩; refine ⟨_, rfl, ?_⟩; have HO199 := Aside0.mk (Kd.R_lower ho0 (below_size bi4_)); replace HB := Aside0.mk (hb); replace HI193 := Aside0.mk (hi); (try clear hb); (try clear hk); (try clear hi); (try clear ho0)) | ((with_reducible refine gate_callee (f := 93) rfl ?_); refine gs_ (some 15) Tryd.func93 #[.pointer (some ⟨g193, 0, none⟩)] ?_; (with_reducible refine (spec_l19Entries.calls k g193 t190 t200 t201 t202 t205 t206 w _ ?side1 ?side2 A5.out).mono ?_); (case side1 => exact is4_); (case side2 => exact bi4_); rintro e w26 ⟨v203, rfl, ho0, hi, hb, hk⟩; refine ⟨_, rfl, ?_⟩; have HO204 := Aside0.mk (Kd.R_lower (Kd.R_new' ho0 (Kd.R_lt (ra_ HO199.out))) (below_size bi4_)); replace HO199 := Aside0.mk (Kd.R_mono (Kd.R_told (Kd.R_oldK (IsS100.apart (show IsS100 w _ g193 t190 t200 t201 from is4_) (ra_ HO199.out) (by decide)) hk) (Kd.R_base ho0)) (fun _ h_ => h_.1)); replace HB := Aside0.mk (hb); replace HI193 := Aside0.mk (hi); (try clear hb); (try clear hk); (try clear hi); (try clear ho0); obtain ⟨Ao28, co28, eo28⟩ := Kd.R_slice HO204.out; subst eo28) | ((with_reducible refine gate_builtin (b := .append) (xs := #[.tmp 13, .tmp 15]) rfl ?_); at_builtin; refine Kd.R_append_rows k27 (w0 := w) w.heap.size rfl (.tmp 13) (.tmp 15) 31 27 (.agg #[(.int .i64 0), (.int .i64 0), (.int .i64 0), (.int .i64 0), (.int .i64 0), (.int .i64 0)]) 48 rfl Tryd.underlying31 info27 rfl (by decide) (by omega) v198 t197 t202 _ _ _ (fun k_ => some k_ ≠ (.slice Ao28 t202.length co28 : Value).ownBlock) (fun _ => False) rfl rfl ?aO ?aR (fun _ _ h => h) (fun _ h => h.elim) ?aF ?aB ?aS ?aL ?_; (case aR => repeat (first | exact (Kd.R_reads' HO204.out).2.2 | (with_reducible refine Kd.C_alloc ?_ _) | (with_reducible refine Kd.C_drewN ?_ _) | (with_reducible refine Kd.C_drew ?_))); (case aB => exact bi4_); (case aF => exact (fun k_ hk => Kd.fresh' (Kd.R_lt (ra_ HO204.out)) k_ hk)); (case aO => exact (by (with_reducible repeat (first | apply Kd.R_alloc | apply Kd.R_drewN | apply Kd.R_drew)); exact Kd.R_mono HO199.out (fun _ hk => hk.2))); (case aS => exact (below_size bi4_)); (case aL => have := LMc6.out; omega); intro v208 w27 ho hb hg hat; rw [← Ny207.out] at ho; replace HI193 := Aside0.mk (IsS100.grown (show IsS100 w _ g193 t190 t205 t206 from is4_) hg (IsS100.own_ne HI193.out HO199.out (by decide))); replace HO204 := Aside0.mk (Kd.R_after (ok := (fun _ => True)) (ra_ HO204.out) hg hat); replace HB := Aside0.mk (hb); have HO209 := Aside0.mk (ho); clear HO199; clear ho hb hg hat) | ((with_reducible refine gate_callee (f := 87) rfl ?_); refine gs_ (some 18) Tryd.func87 #[.pointer (some ⟨g193, 0, none⟩), .int .i64 20] ?_; (with_reducible refine (spec_l01Once.calls g193 t190 t205 t206 20 false t211 t212 w _ ?side1 ?side2 A7.out).mono ?_); (case side1 => exact is4_); (case side2 => exact bi4_); rintro e w29 ⟨rfl, hi, hb, hk⟩; refine ⟨_, rfl, ?_⟩; replace HO204 := Aside0.mk (Kd.R_mono (Kd.R_keep (IsS100.apart (show IsS100 w _ g193 t190 t205 t206 from is4_) (ra_ HO204.out) (by decide)) hk (fun _ h => h.2)) (fun _ h => h.1)); replace HO209 := Aside0.mk (Kd.R_mono (Kd.R_keep (IsS100.apart (show IsS100 w _ g193 t190 t205 t206 from is4_) (ra_ HO209.out) (by decide)) hk (fun _ h => h.2)) (fun _ h => h.1)); replace HB := Aside0.mk (hb); replace HI193 := Aside0.mk (hi); (try clear hb); (try clear hk); (try clear hi)))
  go_ret2
  exact ⟨_, er_, by (with_reducible repeat (first | apply Kd.R_alloc | apply Kd.R_drewN | apply Kd.R_drew)); exact Kd.R_mono HO209.out (fun _ hk => trivial), bi4_⟩
 subst c8
 rw [if_pos rfl] at H
 replace H := bs_ H
 obtain ⟨⟨t213, t214, t215⟩, A9, H⟩ := H
 try dsimp only at H
 obtain ⟨ji10, hji10⟩ : ∃ j_ : Int, (wrap64 (200 + t213)) = j_ := ⟨_, rfl⟩
 replace H : (if 0 ≤ (ji10) then (if (ji10 : Int).toNat ≤ 5864062014805 then (some ((List.replicate (ji10 : Int).toNat z27), wrap64 (t194 - 1))) else (none)) else (none)) = some (r1, r2) := by first | (rw [hji10] at H; exact H) | (simp only [hji10] at H ⊢; exact H)
 (try rw [hji10] at A2)
 (try rw [hji10] at A3)
 (try rw [hji10] at A4)
 (try rw [hji10] at A5)
 (try rw [hji10] at A7)
 (try rw [hji10] at A9)
 have hji10w : (IntKind.i64.wrap (200 + t213)) = ji10 := (i64_w _).trans hji10
 by_cases c11 : 0 ≤ (ji10)
 rotate_left
 ·exact nn_ c11 H
 rw [if_pos c11] at H
 have c11b0 := eq_true c11
 have c11b1 : decide (0 ≤ (ji10)) = true := decide_eq_true c11
 clear c11
 by_cases c12 : (ji10 : Int).toNat ≤ 5864062014805
 rotate_left
 ·exact nn_ c12 H
 rw [if_pos c12] at H
 have c12b0 := eq_true c12
 have c12b1 : decide ((ji10 : Int).toNat ≤ 5864062014805) = true := decide_eq_true c12
 clear c12
 obtain ⟨y216, hy216⟩ : ∃ y_ : List (S27), y_ = (List.replicate (ji10 : Int).toNat z27) := ⟨_, rfl⟩
 replace H : (some (y216, wrap64 (t194 - 1))) = some (r1, r2) := rp_ H hy216
 have Ny216 := Aside0.mk hy216
 clear hy216
 simp only [Option.some.injEq, Prod.mk.injEq] at H
 obtain ⟨rfl, rfl⟩ := H
 go_enter Tryd.func57, Tryd.ntmps57
 go_wp2_with (first | ((with_reducible refine gate_callee (f := 58) rfl ?_); refine gs_ (some 8) Tryd.func58 #[.slice A0 l0.length c0] ?_; (with_reducible refine (spec_l01New.calls k _ _ l0 t190 t191 t192 w _ ?side1 ?side2 ?side3 A2.out).mono ?_); (case side1 => repeat (first | (with_reducible first | exact HB.out | apply below_alloc | apply pw_below_drewN | apply below_drew1) | exact HB.out)); (case side2 => exact HR0.out); (case side3 => exact HC0.out); rintro e w13 ⟨g193, rfl, hi, hb, hb2⟩; refine ⟨_, rfl, ?_⟩; replace HB := Aside0.mk (hb); have HI193 := Aside0.mk (hi); (try clear hb); (try clear hb2); (try clear hi)) | ((with_reducible refine gate_callee (f := 64) rfl ?_); refine gs_ (some 10) Tryd.func64 #[.pointer (some ⟨g193, 0, none⟩), .int .i64 12] ?_; (with_reducible refine (spec_l01Below.calls g193 t190 t191 t192 12 t194 t195 t196 w _ ?side1 ?side2 A3.out).mono ?_); (case side1 => exact is4_); (case side2 => exact bi4_); rintro e w14 ⟨rfl, hi, hb, hk⟩; refine ⟨_, rfl, ?_⟩; replace HB := Aside0.mk (hb); replace HI193 := Aside0.mk (hi); (try clear hb); (try clear hk); (try clear hi)) | ((with_reducible refine gate_callee (f := 71) rfl ?_); refine gs_ (some 13) Tryd.func71 #[.pointer (some ⟨g193, 0, none⟩)] ?_; (with_reducible refine (spec_l19Any.calls k g193 t190 t195 t196 t197 t200 t201 w _ ?side1 ?side2 A4.out).mono ?_); (case side1 => exact is4_); (case side2 => exact bi4_); rintro e w15 ⟨v198, rfl, ho0, hi, hb, hk⟩; refine ⟨_, rfl, ?_⟩; have HO199 := Aside0.mk (Kd.R_lower ho0 (below_size bi4_)); replace HB := Aside0.mk (hb); replace HI193 := Aside0.mk (hi); (try clear hb); (try clear hk); (try clear hi); (try clear ho0)) | ((with_reducible refine gate_callee (f := 93) rfl ?_); refine gs_ (some 15) Tryd.func93 #[.pointer (some ⟨g193, 0, none⟩)] ?_; (with_reducible refine (spec_l19Entries.calls k g193 t190 t200 t201 t202 t205 t206 w _ ?side1 ?side2 A5.out).mono ?_); (case side1 => exact is4_); (case side2 => exact bi4_); rintro e w16 ⟨v203, rfl, ho0, hi, hb, hk⟩; refine ⟨_, rfl, ?_⟩; have HO204 := Aside0.mk (Kd.R_lower (Kd.R_new' ho0 (Kd.R_lt (ra_ HO199.out))) (below_size bi4_)); replace HO199 := Aside0.mk (Kd.R_mono (Kd.R_told (Kd.R_oldK (IsS100.apart (show IsS100 w _ g193 t190 t200 t201 from is4_) (ra_ HO199.out) (by decide)) hk) (Kd.R_base ho0)) (fun _ h_ => h_.1)); replace HB := Aside0.mk (hb); replace HI193 := Aside0.mk (hi); (try clear hb); (try clear hk); (try clear hi); (try clear ho0); obtain ⟨Ao18, co18, eo18⟩ := Kd.R_slice HO204.out; subst eo18) | ((with_reducible refine gate_builtin (b := .append) (xs := #[.tmp 13, .tmp 15]) rfl ?_); at_builtin; refine Kd.R_append_rows k27 (w0 := w) w.heap.size rfl (.tmp 13) (.tmp 15) 31 27 (.agg #[(.int .i64 0), (.int .i64 0), (.int .i64 0), (.int .i64 0), (.int .i64 0), (.int .i64 0)]) 48 rfl Tryd.underlying31 info27 rfl (by decide) (by omega) v198 t197 t202 _ _ _ (fun k_ => some k_ ≠ (.slice Ao18 t202.length co18 : Value).ownBlock) (fun _ => False) rfl rfl ?aO ?aR (fun _ _ h => h) (fun _ h => h.elim) ?aF ?aB ?aS ?aL ?_; (case aR => repeat (first | exact (Kd.R_reads' HO204.out).2.2 | (with_reducible refine Kd.C_alloc ?_ _) | (with_reducible refine Kd.C_drewN ?_ _) | (with_reducible refine Kd.C_drew ?_))); (case aB => exact bi4_); (case aF => exact (fun k_ hk => Kd.fresh' (Kd.R_lt (ra_ HO204.out)) k_ hk)); (case aO => exact (by (with_reducible repeat (first | apply Kd.R_alloc | apply Kd.R_drewN | apply Kd.R_drew)); exact Kd.R_mono HO199.out (fun _ hk => hk.2))); (case aS => exact (below_size bi4_)); (case aL => have := LMc6.out; omega); intro v208 w17 ho hb hg hat; rw [← Ny207.out] at ho; replace HI193 := Aside0.mk (IsS100.grown (show IsS100 w _ g193 t190 t205 t206 from is4_) hg (IsS100.own_ne HI193.out HO199.out (by decide))); replace HO204 := Aside0.mk (Kd.R_after (ok := (fun _ => True)) (ra_ HO204.out) hg hat); replace HB := Aside0.mk (hb); have HO209 := Aside0.mk (ho); clear HO199; clear ho hb hg hat) | ((with_reducible refine gate_callee (f := 87) rfl ?_); refine gs_ (some 18) Tryd.func87 #[.pointer (some ⟨g193, 0, none⟩), .int .i64 20] ?_; (with_reducible refine (spec_l01Once.calls g193 t190 t205 t206 20 true t211 t212 w _ ?side1 ?side2 A7.out).mono ?_); (case side1 => exact is4_); (case side2 => exact bi4_); rintro e w19 ⟨rfl, hi, hb, hk⟩; refine ⟨_, rfl, ?_⟩; replace HO204 := Aside0.mk (Kd.R_mono (Kd.R_keep (IsS100.apart (show IsS100 w _ g193 t190 t205 t206 from is4_) (ra_ HO204.out) (by decide)) hk (fun _ h => h.2)) (fun _ h => h.1)); replace HO209 := Aside0.mk (Kd.R_mono (Kd.R_keep (IsS100.apart (show IsS100 w _ g193 t190 t205 t206 from is4_) (ra_ HO209.out) (by decide)) hk (fun _ h => h.2)) (fun _ h => h.1)); replace HB := Aside0.mk (hb); replace HI193 := Aside0.mk (hi); (try clear hb); (try clear hk); (try clear hi)) | ((with_reducible refine gate_callee (f := 64) rfl ?_); refine gs_ (some 20) Tryd.func64 #[.pointer (some ⟨g193, 0, none⟩), .int .i64 2] ?_; (with_reducible refine (spec_l01Below.calls g193 t190 t211 t212 2 t213 t214 t215 w _ ?side1 ?side2 A9.out).mono ?_); (case side1 => exact is4_); (case side2 => exact bi4_); rintro e w20 ⟨rfl, hi, hb, hk⟩; refine ⟨_, rfl, ?_⟩; replace HO204 := Aside0.mk (Kd.R_mono (Kd.R_keep (IsS100.apart (show IsS100 w _ g193 t190 t211 t212 from is4_) (ra_ HO204.out) (by decide)) hk (fun _ h => h.2)) (fun _ h => h.1)); replace HO209 := Aside0.mk (Kd.R_mono (Kd.R_keep (IsS100.apart (show IsS100 w _ g193 t190 t211 t212 from is4_) (ra_ HO209.out) (by decide)) hk (fun _ h => h.2)) (fun _ h => h.1)); replace HB := Aside0.mk (hb); replace HI193 := Aside0.mk (hi); (try clear hb); (try clear hk); (try clear hi)) | ((with_reducible refine gate_dst (N := 22) rfl ?_); refine Kd.R_make k27 _ 27 rfl (N := 22) rfl 31 _ _ rfl ji10 rfl rfl Tryd.underlying31 (.agg #[(.int .i64 0), (.int .i64 0), (.int .i64 0), (.int .i64 0), (.int .i64 0), (.int .i64 0)]) 48 info27 rfl (by decide) (by omega) z27 (ok := fun _ => True) (okp := fun _ => True) (k27_mkM _ _ _ z27 ) (fun _ hk => hk) trivial (of_decide_eq_true as_) (Nat.le_trans (Nat.mul_le_mul_right _ (of_decide_eq_true as_ : ji10.toNat ≤ 5864062014805)) (by omega)) (Below.refl _ _) (Nat.le_refl _) ?_; intro v217 w21 ho22 hb hg_ hnew_; clear hg_ hnew_; (first | rw [← Ny216.out] at ho22 | (simp only [Int.reduceToNat] at ho22; rw [← Ny216.out] at ho22)); have HO218 := Aside0.mk (Kd.R_lower (Kd.R_new' (Kd.R_new' ho22 (Kd.R_lt (ra_ HO204.out))) (Kd.R_lt (ra_ HO209.out))) (below_size bi4_)); replace HO204 := Aside0.mk (Kd.R_elder' (ra_ HO204.out) (Kd.R_base ho22) hb); replace HO209 := Aside0.mk (Kd.R_elder' (ra_ HO209.out) (Kd.R_base ho22) hb); replace HB := Aside0.mk (below_step bi4_ hb); replace HI193 := Aside0.mk (IsS100.below is4_ hb); clear hb ho22))
 go_ret2
 exact ⟨_, by first | rfl | (simp [errW_none, errW_some] <;> rfl) | (simp only [← hji10]; first | rfl | (simp [errW_none, errW_some] <;> rfl)) | (simp [*, errW_none, errW_some] <;> rfl) | exact False.elim (Bool.noConfusion ((decide_eq_true (of_eq_true (by assumption))).symm.trans (by assumption))), by (with_reducible repeat (first | apply Kd.R_alloc | apply Kd.R_drewN | apply Kd.R_drew)); exact Kd.R_mono HO218.out (fun _ hk => trivial), bi4_⟩

end Go.Proofs.YtdlapahfmfhbjaaDoor.PA
