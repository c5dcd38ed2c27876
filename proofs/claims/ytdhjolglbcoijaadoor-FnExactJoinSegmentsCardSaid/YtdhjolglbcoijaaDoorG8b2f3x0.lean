/- Contracts of functions of the program and of the reference, and plain lemmas on what they compute. No condition. -/
import Derived.Test.YtdhjolglbcoijaaDoorV0
import Derived.Test.YtdhjolglbcoijaaDoorGe1c07x0
import Derived.Test.YtdhjolglbcoijaaDoorShortV
set_option maxHeartbeats 8000000
set_option maxRecDepth 100000
namespace Go.Proofs.YtdhjolglbcoijaaDoor.RegAny
open Go.RowKit Go.Proofs.YtdhjolglbcoijaaDoorW.PrintWords Go.Proofs.YtdhjolglbcoijaaDoorW.PrintLast Go.Proofs.YtdhjolglbcoijaaDoorW.PrintMore
set_option linter.unusedVariables false
theorem ite_some {α : Type} {c : Prop} [Decidable c] {x : Option α} {r : α} (h : (if c then x else none) = some r) : c ∧ x = some r := by
 by_cases hc : c
 ·rw [if_pos hc] at h; exact ⟨hc, h⟩
 ·rw [if_neg hc] at h; cases h
section
variable {P : Program} {ops : Array Oper} {Q : Exit → Act → World → Prop} {B : List Nat}
def Gives (P : Program) (oi : Oper) (a : Act) (w : World) (V : World → Value → Prop) : Prop :=
 (∃ v w', (execOp a.eval oi).run P w = .ok (.value v) w' ∧ V w' v ∧ Below w.heap.size w w') ∨
 (∃ f args, (execOp a.eval oi).run P w = .ok (.enter f args) w ∧ Calls P f args w fun e w' => ∃ v, e = .returned v ∧ V w' v ∧ Below w.heap.size w w')
abbrev Slots := List (Tmp × (World → Value → Prop))
structure Inv (w0 : World) (a0 : Act) (M : World → Prop) (D : Slots) (b : Nat → Bool) (a : Act) (w : World) : Prop where
 below : Below w0.heap.size w0 w
 mem : M w
 size : a.tmps.size = a0.tmps.size
 defers : a.defers = a0.defers
 old : ∀ t, (D.all fun e => !(e.1 == t)) = true → a.tmps[t]? = a0.tmps[t]?
 done : ∀ i e, D[i]? = some e → b i = true → ∃ v, a.tmps[e.1]? = some v ∧ e.2 w v
def Stays (V : World → Prop) : Prop := ∀ w w', V w → Below w.heap.size w w' → V w'
theorem step_of {w0 : World} {a0 : Act} {M : World → Prop} {D : Slots} {O : List Nat} {i : Nat} (e : Tmp × (World → Value → Prop)) (oi : Oper)
 (hM : Stays M) (hV : ∀ e ∈ D, ∀ v, Stays fun w => e.2 w v) (hnd : (D.map (·.1)).Nodup) (hD : D[i]? = some e) (ho : ops[i]? = some oi) (hd : oi.dst = some e.1) (hg : oi.guard = none) (hlt : e.1 < a0.tmps.size)
 (hO : ∀ j, (B.getD i 0).testBit j = true → O.contains j = true)
 (h : ∀ a w, M w → (∀ t, (D.all fun e => !(e.1 == t)) = true → a.tmps[t]? = a0.tmps[t]?) → (∀ j e', D[j]? = some e' → (B.getD i 0).testBit j = true → ∃ v, a.tmps[e'.1]? = some v ∧ e'.2 w v) → Gives P oi a w e.2) :
 StepAt P ops Q B O (Inv w0 a0 M D) i := by
 intro b a w hI hb hdeps _
 refine ⟨oi, ho, fun K hK => ?_⟩
 have hw : Region.wanted oi (yielded ops a.tmps) = true := by simp [Region.wanted, hg]
 rw [if_pos hw]
 have next : ∀ v w', e.2 w' v → Below w.heap.size w w' → K (a.put oi.dst v) w' := by
  intro v w' hv hb'
  refine hK.out _ _ ⟨below_step hI.below hb', hM _ _ hI.mem hb', ?_, ?_, ?_, ?_⟩
  ·rw [hd]; simp [Act.put, hI.size]
  ·rw [hd]; simp [Act.put, hI.defers]
  ·intro t ht
   have hne : e.1 ≠ t := by
    have := List.all_eq_true.1 ht e (List.mem_of_getElem? hD)
    simpa using this
   rw [hd]
   simp only [Act.put]
   rw [Array.getElem?_setIfInBounds_ne hne]
   exact hI.old t ht
  ·intro j e' hj hbj
   by_cases hij : j = i
   ·subst hij
    obtain rfl : e' = e := Option.some.inj (hj.symm.trans hD)
    refine ⟨v, ?_, hv⟩
    rw [hd]
    simp only [Act.put]
    rw [Array.getElem?_setIfInBounds_self_of_lt (by rw [hI.size]; exact hlt)]
   ·have hbj' : b j = true := by
     unfold up at hbj
     simpa [hij] using hbj
    obtain ⟨v', hv', hV'⟩ := hI.done j e' hj hbj'
    have hne : e.1 ≠ e'.1 := by
     intro he
     have h1 : (D.map (·.1))[i]? = some e.1 := by rw [List.getElem?_map, hD]; rfl
     have h2 : (D.map (·.1))[j]? = some e.1 := by rw [List.getElem?_map, hj]; simp [he]
     have hl1 := (List.getElem?_eq_some_iff.1 h1).1
     have hl2 := (List.getElem?_eq_some_iff.1 h2).1
     exact hij ((List.getElem?_inj hl2 hnd).1 (h2.trans h1.symm))
    refine ⟨v', ?_, hV e' (List.mem_of_getElem? hj) v' _ _ hV' hb'⟩
    rw [hd]
    simp only [Act.put]
    rw [Array.getElem?_setIfInBounds_ne hne]
    exact hv'
 rcases h a w hI.mem hI.old (fun j e' hj hbit => hI.done j e' hj (hdeps j (by rw [hO j hbit, hbit]; rfl))) with ⟨v, w', hr, hv, hb'⟩ | ⟨f, args, hr, hc⟩
 ·unfold Oper.wp
  rw [hr]
  exact next v w' hv hb'
 ·unfold Oper.wp
  rw [hr, Oper.upon_enter]
  refine hc.mono ?_
  rintro e2 w' ⟨v, rfl, hv, hb'⟩
  exact next v w' hv hb'
def Is (x : Value) : World → Value → Prop := fun _ v => v = x
theorem Is_stays (x v : Value) : Stays fun w => Is x w v := fun _ _ h _ => h
theorem gPure {oi : Oper} {a : Act} {w : World} {x : Value} (hr : (execOp a.eval oi).run P w = .ok (.value x) w) : Gives P oi a w (Is x) := .inl ⟨x, w, hr, rfl, Below.refl _ _⟩
theorem within_of {n : Nat} (h : (B.all fun x => decide (x < 2 ^ n)) = true) (i j : Nat) (hb : (B.getD i 0).testBit j = true) : (List.range n).contains j = true := by
 have hlt : B.getD i 0 < 2 ^ n := by
  rw [List.getD_eq_getElem?_getD]
  cases hq : B[i]? with
  | none => simp; exact Nat.two_pow_pos n
  | some x => simpa using List.all_eq_true.1 h x (List.mem_of_getElem? hq)
 rcases Nat.lt_or_ge j n with hj | hj
 ·simpa using hj
 ·exfalso
  have := Nat.testBit_lt_two_pow (Nat.lt_of_lt_of_le hlt (Nat.pow_le_pow_right (by omega) hj))
  rw [hb] at this
  cases this
theorem region_any {id n : Nat} {wb w0 : World} {a0 : Act} {M : World → Prop} {D : Slots} {T : Bool × List (List Nat × List Nat)} (l : Array Bool) (hm : P.follows .mixedOrders = true) (hT : rtab .any ops = T) (hw : waitsOk T.2 B = true) (hk : baseOk T.2 (List.range n) = true) (hn : ops.size = n) (hl : Array.replicate n false = l)
 (hlo : (lof T.2.length (List.range n) (fun _ => false) == l.toList && (List.range n).length == n) = true) (hB : Below wb.heap.size wb w0.drew) (h0 : M w0.drew)
 (hs : ∀ i ∈ List.range n, StepAt P ops Q B (List.range n) (Inv wb a0 M D) i)
 (hend : ∀ a w, Below wb.heap.size wb w → M w → a.tmps.size = a0.tmps.size → a.defers = a0.defers → (∀ t, (D.all fun e => !(e.1 == t)) = true → a.tmps[t]? = a0.tmps[t]?) → (∀ i e, i < n → D[i]? = some e → ∃ v, a.tmps[e.1]? = some v ∧ e.2 w v) → Q .normal a w) :
 (Code.region id ops true).wp P Q a0 w0 := by
 refine start_ (n := n) (S := fun _ => True) (ds := []) l hm hn hl trivial (fun _ => ?_)
 refine inv_ (List.range n) (Inv wb a0 M D) hT hw hk hlo ?_ hs ?_
 ·exact ⟨hB, h0, rfl, rfl, fun _ _ => rfl, fun i e _ h => by cases h⟩
 ·intro b a w hb hI
  exact hend a w hI.below hI.mem hI.size hI.defers hI.old (fun i e hi he => hI.done i e he (hb i (by simp; exact hi)))
end
end Go.Proofs.YtdhjolglbcoijaaDoor.RegAny

namespace Go.Proofs.YtdhjolglbcoijaaDoor.PA
open Go.RowKit Go.Proofs.YtdhjolglbcoijaaDoor.Short Go.Proofs.YtdhjolglbcoijaaDoorW.PrintWords Go.Proofs.YtdhjolglbcoijaaDoorW.PrintLast Go.Proofs.YtdhjolglbcoijaaDoorW.PrintMore
attribute [local go_sem] max2_int min2_int max_two min_two max_three min_three max_four min_four   -- for this text's walks alone
set_option linter.unusedVariables false
set_option linter.unusedSimpArgs false

def impl_four.f (a0 : Int) : Option (ByteArray) := some (strOfNums (([(a0 / 16777216) % 256, (a0 / 65536) % 256, (a0 / 256) % 256, (a0) % 256] : List Int)))
theorem impl_four.calls (a0 : Int) (r : ByteArray) (w : World) (h : impl_four.f a0 = some r) :
 Calls Tryd.prog 115 #[.int .i64 a0] w fun e w' => e = .returned (.string r) ∧ Below w.heap.size w w' := by
 have HB := Aside0.mk (Below.refl w.heap.size w)
 have H := h
 unfold impl_four.f at H
 clear h
 obtain ⟨y235, hy235⟩ : ∃ y_ : List Int, y_ = (([(a0 / 16777216) % 256, (a0 / 65536) % 256, (a0 / 256) % 256, (a0) % 256] : List Int)) := ⟨_, rfl⟩
 replace H : (some (strOfNums y235)) = some r := rp_ H hy235
 have Ny235 := Aside0.mk hy235
 clear hy235
 obtain rfl := Option.some.inj H
 go_enter Tryd.func115, Tryd.ntmps115
 go_wp2_with (first | ((with_reducible refine gate_dst (N := 14) rfl ?_); refine Kd.R_lit (Kd.int .u8) _ 5 ?hg (N := 14) ?hd (xs := ([(a0 / 16777216) % 256, (a0 / 65536) % 256, (a0 / 256) % 256, (a0) % 256] : List Int)) (inner := [.int .u8 ((a0 / 16777216) % 256), .int .u8 ((a0 / 65536) % 256), .int .u8 ((a0 / 256) % 256), .int .u8 ((a0) % 256)]) (ok := fun _ => True) (okp := fun _ => True) ?hr ?hp (fun _ hk => hk) trivial (Below.refl _ _) (Nat.le_refl _) (by simp) ?_; (case hd => rfl); (case hg => rfl); (case hr => first | (go_simp; done) | (go_simp; rfl)); (case hp => exact (Reps.one (show Kd.M (Kd.int .u8) _ _ _ ((a0 / 16777216) % 256) [.int .u8 ((a0 / 16777216) % 256)] from rfl) (Reps.one (show Kd.M (Kd.int .u8) _ _ _ ((a0 / 65536) % 256) [.int .u8 ((a0 / 65536) % 256)] from rfl) (Reps.one (show Kd.M (Kd.int .u8) _ _ _ ((a0 / 256) % 256) [.int .u8 ((a0 / 256) % 256)] from rfl) (Reps.one (show Kd.M (Kd.int .u8) _ _ _ ((a0) % 256) [.int .u8 ((a0) % 256)] from rfl) (Reps.none _ _)))))); intro v236 w2 ho3 hb hg_ hnew_; clear hg_ hnew_; (first | rw [← Ny235.out] at ho3 | (simp only [Int.reduceToNat] at ho3; rw [← Ny235.out] at ho3)); have HO237 := Aside0.mk (Kd.R_lower ho3 (below_size bl_)); replace HB := Aside0.mk (below_step bl_ hb); clear hb ho3; have hcv4 := own_string (P := Tryd.prog) Tryd.underlying61 Tryd.underlying5 Tryd.underlying9 (Kd.own_of_R HO237.out)))
 go_ret
 exact ⟨er_, bl_⟩


def impl_PadText.f (a0 : ByteArray) : Option (ByteArray) := if a0.size + 1 ≤ 9223372036854775807 then (if 0 ≤ (Int.tmod (wrap64 (64 - (Int.tmod (wrap64 ((a0.size : Int) + 9)) 64))) 64) then (if (Int.tmod (wrap64 (64 - (Int.tmod (wrap64 ((a0.size : Int) + 9)) 64))) 64 : Int).toNat ≤ 281474976710656 then ((some (List.replicate (Int.tmod (wrap64 (64 - (Int.tmod (wrap64 ((a0.size : Int) + 9)) 64))) 64 : Int).toNat 0 : List Int)).bind fun y270 => (if (a0 ++ (⟨#[128]⟩ : ByteArray)).size + (strOfNums y270).size ≤ 9223372036854775807 then ((impl_four.f ((wrap64 (8 * (a0.size : Int))) / 4294967296)).bind fun t273 => (if ((a0 ++ (⟨#[128]⟩ : ByteArray)) ++ (strOfNums y270)).size + t273.size ≤ 9223372036854775807 then ((impl_four.f (wrap64 (8 * (a0.size : Int)))).bind fun t274 => (if (((a0 ++ (⟨#[128]⟩ : ByteArray)) ++ (strOfNums y270)) ++ t273).size + t274.size ≤ 9223372036854775807 then (some ((((a0 ++ (⟨#[128]⟩ : ByteArray)) ++ (strOfNums y270)) ++ t273) ++ t274)) else (none))) else (none))) else (none))) else (none)) else (none)) else (none)
def impl_PadText.T3 : Bool × List (List Nat × List Nat) := (true, [([], []), ([0], [0]), ([], []), ([2, 2], [2]), ([3], [3]), ([1, 4], [1, 4]), ([], []), ([6], [6]), ([7], [7]), ([5, 8], [5, 8]), ([], []), ([10, 8], [10]), ([9, 11], [9, 11]), ([12, 11, 0, 1, 2, 3, 4, 5, 6, 7, 8, 9, 10, 11, 12], [12])])
def impl_PadText.B3 : List Nat := [0, 1, 0, 4, 12, 31, 0, 64, 192, 511, 0, 1472, 4095, 8191]
theorem impl_PadText.tab3 : rtab .any (opsOf Tryd.f119 3) = impl_PadText.T3 := by kernel_rfl
theorem impl_PadText.bits3 : waitsOk impl_PadText.T3.2 impl_PadText.B3 = true := by kernel_rfl
theorem impl_PadText.calls (a0 : ByteArray) (r : ByteArray) (w : World) (h : impl_PadText.f a0 = some r) :
 Calls Tryd.prog 119 #[.string a0] w fun e w' => e = .returned (.string r) ∧ Below w.heap.size w w' := by
 have HB := Aside0.mk (Below.refl w.heap.size w)
 have H := h
 unfold impl_PadText.f at H
 clear h
 by_cases c2 : a0.size + 1 ≤ 9223372036854775807
 rotate_left
 ·exact nn_ c2 H
 rw [if_pos c2] at H
 have c2b0 := eq_true c2
 have c2b1 : decide (a0.size + 1 ≤ 9223372036854775807) = true := decide_eq_true c2
 try have c2b2 : (9223372036854775807 < a0.size + 1) = False := eq_false (Nat.not_lt.2 c2)
 obtain ⟨ji3, hji3⟩ : ∃ j_ : Int, (Int.tmod (wrap64 (64 - (Int.tmod (wrap64 ((a0.size : Int) + 9)) 64))) 64) = j_ := ⟨_, rfl⟩
 replace H : (if 0 ≤ (ji3) then (if (ji3 : Int).toNat ≤ 281474976710656 then ((some (List.replicate (ji3 : Int).toNat 0 : List Int)).bind fun y270 => (if (a0 ++ (⟨#[128]⟩ : ByteArray)).size + (strOfNums y270).size ≤ 9223372036854775807 then ((impl_four.f ((wrap64 (8 * (a0.size : Int))) / 4294967296)).bind fun t273 => (if ((a0 ++ (⟨#[128]⟩ : ByteArray)) ++ (strOfNums y270)).size + t273.size ≤ 9223372036854775807 then ((impl_four.f (wrap64 (8 * (a0.size : Int)))).bind fun t274 => (if (((a0 ++ (⟨#[128]⟩ : ByteArray)) ++ (strOfNums y270)) ++ t273).size + t274.size ≤ 9223372036854775807 then (some ((((a0 ++ (⟨#[128]⟩ : ByteArray)) ++ (strOfNums y270)) ++ t273) ++ t274)) else (none))) else (none))) else (none))) else (none)) else (none)) = some r := by first | (rw [hji3] at H; exact H) | (simp only [hji3] at H ⊢; exact H)
 by_cases c4 : 0 ≤ (ji3)
 rotate_left
 ·exact nn_ c4 H
 rw [if_pos c4] at H
 have c4b0 := eq_true c4
 have c4b1 : decide (0 ≤ (ji3)) = true := decide_eq_true c4
 clear c4
 by_cases c5 : (ji3 : Int).toNat ≤ 281474976710656
 rotate_left
 ·exact nn_ c5 H
 rw [if_pos c5] at H
 have c5b0 := eq_true c5
 have c5b1 : decide ((ji3 : Int).toNat ≤ 281474976710656) = true := decide_eq_true c5
 clear c5
 obtain ⟨y270, hy270⟩ : ∃ y_ : List Int, y_ = (List.replicate (ji3 : Int).toNat 0) := ⟨_, rfl⟩
 replace H : (if (a0 ++ (⟨#[128]⟩ : ByteArray)).size + (strOfNums y270).size ≤ 9223372036854775807 then ((impl_four.f ((wrap64 (8 * (a0.size : Int))) / 4294967296)).bind fun t273 => (if ((a0 ++ (⟨#[128]⟩ : ByteArray)) ++ (strOfNums y270)).size + t273.size ≤ 9223372036854775807 then ((impl_four.f (wrap64 (8 * (a0.size : Int)))).bind fun t274 => (if (((a0 ++ (⟨#[128]⟩ : ByteArray)) ++ (strOfNums y270)) ++ t273).size + t274.size ≤ 9223372036854775807 then (some ((((a0 ++ (⟨#[128]⟩ : ByteArray)) ++ (strOfNums y270)) ++ t273) ++ t274)) else (none))) else (none))) else (none)) = some r := rp_ H hy270
 have Ny270 := Aside0.mk hy270
 clear hy270
 by_cases c6 : (a0 ++ (⟨#[128]⟩ : ByteArray)).size + (strOfNums y270).size ≤ 9223372036854775807
 rotate_left
 ·exact nn_ c6 H
 rw [if_pos c6] at H
 have c6b0 := eq_true c6
 have c6b1 : decide ((a0 ++ (⟨#[128]⟩ : ByteArray)).size + (strOfNums y270).size ≤ 9223372036854775807) = true := decide_eq_true c6
 try have c6b2 : (9223372036854775807 < (a0 ++ (⟨#[128]⟩ : ByteArray)).size + (strOfNums y270).size) = False := eq_false (Nat.not_lt.2 c6)
 try have c6b3 : (9223372036854775807 < a0.size + 1 + (strOfNums y270).size) = False := eq_false (by have h_ := c6; (repeat rw [ByteArray.size_append] at h_); exact Nat.not_lt.2 h_)
 replace H := bs_ H
 obtain ⟨t273, A7, H⟩ := H
 try dsimp only at H
 by_cases c8 : ((a0 ++ (⟨#[128]⟩ : ByteArray)) ++ (strOfNums y270)).size + t273.size ≤ 9223372036854775807
 rotate_left
 ·exact nn_ c8 H
 rw [if_pos c8] at H
 have c8b0 := eq_true c8
 have c8b1 : decide (((a0 ++ (⟨#[128]⟩ : ByteArray)) ++ (strOfNums y270)).size + t273.size ≤ 9223372036854775807) = true := decide_eq_true c8
 try have c8b2 : (9223372036854775807 < ((a0 ++ (⟨#[128]⟩ : ByteArray)) ++ (strOfNums y270)).size + t273.size) = False := eq_false (Nat.not_lt.2 c8)
 try have c8b3 : (9223372036854775807 < a0.size + 1 + (strOfNums y270).size + t273.size) = False := eq_false (by have h_ := c8; (repeat rw [ByteArray.size_append] at h_); exact Nat.not_lt.2 h_)
 replace H := bs_ H
 obtain ⟨t274, A9, H⟩ := H
 try dsimp only at H
 by_cases c10 : (((a0 ++ (⟨#[128]⟩ : ByteArray)) ++ (strOfNums y270)) ++ t273).size + t274.size ≤ 9223372036854775807
 rotate_left
 ·exact nn_ c10 H
 rw [if_pos c10] at H
 have c10b0 := eq_true c10
 have c10b1 : decide ((((a0 ++ (⟨#[128]⟩ : ByteArray)) ++ (strOfNums y270)) ++ t273).size + t274.size ≤ 9223372036854775807) = true := decide_eq_true c10
 try have c10b2 : (9223372036854775807 < (((a0 ++ (⟨#[128]⟩ : ByteArray)) ++ (strOfNums y270)) ++ t273).size + t274.size) = False := eq_false (Nat.not_lt.2 c10)
 try have c10b3 : (9223372036854775807 < a0.size + 1 + (strOfNums y270).size + t273.size + t274.size) = False := eq_false (by have h_ := c10; (repeat rw [ByteArray.size_append] at h_); exact Nat.not_lt.2 h_)
 obtain rfl := Option.some.inj H
 go_enter Tryd.func119, Tryd.ntmps119
 try go_wp2
 have n0_ := Aside0.mk (below_drew1 HB.out)
 clear HB
 have HB := n0_
 clear n0_
 refine start_ (n := 14) (S := fun w' => True) (ds := []) #[false, false, false, false, false, false, false, false, false, false, false, false, false, false] (by kernel_rfl) rfl rfl trivial (fun hHeld => ?_); refine with_tabW impl_PadText.tab3 impl_PadText.bits3 (fun HT_ HW_ => ?_)
 generalize w.drew = w11 at HB hHeld ⊢
 refine pu_ 0 14 HT_ ?_
 refine pu_ 1 15 HT_ ?_
 refine pu_ 2 16 HT_ ?_
 refine pu_ 6 20 HT_ ?_
 refine pu_ 7 21 HT_ ?_
 refine pu_ 10 24 HT_ ?_
 refine join_ (σ := Value) 2 #[true, true, true, true, true, true, true, true, true, true, true, true, false, false] (fun s_ => [(17, s_), (18, .string (strOfNums y270)), (22, .string t273), (25, .string t274), (19, .string ((a0 ++ (⟨#[128]⟩ : ByteArray)) ++ (strOfNums y270))), (23, .string (((a0 ++ (⟨#[128]⟩ : ByteArray)) ++ (strOfNums y270)) ++ t273))]) (fun s_ w' => (Kd.R (Kd.int .u8) 5 w' w.heap.size (fun _ => True) s_ y270) ∧ (Below w.heap.size w w')) ?_ ?_
 rotate_left
 ·intro hJ3_4_8_11
  refine join_ (σ := Value) 3 #[true, true, true, true, true, true, true, true, true, true, true, false, false, false] (fun s_ => [(17, s_), (18, .string (strOfNums y270)), (22, .string t273), (19, .string ((a0 ++ (⟨#[128]⟩ : ByteArray)) ++ (strOfNums y270))), (23, .string (((a0 ++ (⟨#[128]⟩ : ByteArray)) ++ (strOfNums y270)) ++ t273))]) (fun s_ w' => (Kd.R (Kd.int .u8) 5 w' w.heap.size (fun _ => True) s_ y270) ∧ (Below w.heap.size w w')) ?_ ?_
  rotate_left
  ·intro hJ3_4_8
   refine join_ (σ := Value) 5 #[true, true, true, true, false, false, true, true, true, false, true, true, false, false] (fun s_ => [(17, s_), (22, .string t273), (25, .string t274)]) (fun s_ w' => (Kd.R (Kd.int .u8) 5 w' w.heap.size (fun _ => True) s_ y270) ∧ (Below w.heap.size w w')) ?_ ?_
   rotate_left
   ·intro hJ3_8_11
    refine join_ (σ := Value) 5 #[true, true, true, true, true, true, true, true, false, false, true, false, false, false] (fun s_ => [(17, s_), (18, .string (strOfNums y270)), (19, .string ((a0 ++ (⟨#[128]⟩ : ByteArray)) ++ (strOfNums y270)))]) (fun s_ w' => (Kd.R (Kd.int .u8) 5 w' w.heap.size (fun _ => True) s_ y270) ∧ (Below w.heap.size w w')) ?_ ?_
    rotate_left
    ·intro hJ3_4
     refine join_ (σ := Value) 6 #[true, true, true, true, false, false, true, true, true, false, true, false, false, false] (fun s_ => [(17, s_), (22, .string t273)]) (fun s_ w' => (Kd.R (Kd.int .u8) 5 w' w.heap.size (fun _ => True) s_ y270) ∧ (Below w.heap.size w w')) ?_ ?_
     rotate_left
     ·intro hJ3_8
      refine join_ (σ := Unit) 6 #[true, true, true, false, false, false, true, true, true, false, true, true, false, false] (fun s_ => [(22, .string t273), (25, .string t274)]) (fun s_ w' => (Below w.heap.size w w')) ?_ ?_
      rotate_left
      ·intro hJ8_11
       refine join_ (σ := Value) 7 #[true, true, true, true, false, false, true, true, false, false, true, false, false, false] (fun s_ => [(17, s_)]) (fun s_ w' => (Kd.R (Kd.int .u8) 5 w' w.heap.size (fun _ => True) s_ y270) ∧ (Below w.heap.size w w')) ?_ ?_
       rotate_left
       ·intro hJ3
        refine join_ (σ := Unit) 7 #[true, true, true, false, false, false, true, true, true, false, true, false, false, false] (fun s_ => [(22, .string t273)]) (fun s_ w' => (Below w.heap.size w w')) ?_ ?_
        rotate_left
        ·intro hJ8
         refine two_ (i := 3) (j := 8) (Ni := some 17) (Nj := some 22) #[true, true, true, true, false, false, true, true, false, false, true, false, false, false] #[true, true, true, false, false, false, true, true, true, false, true, false, false, false] rfl rfl rfl rfl (two_of HT_.out (by kernel_rfl)) (by decide) (by decide) (fun K hK => ?_) (fun K hK => ?_)
         ·skip
          refine Kd.R_make_step (Kd.int .u8) _ 5 (by rfl) (N := 17) rfl 61 _ _ rfl ji3 rfl rfl Tryd.underlying61 (.int .u8 0) 1 info5 rfl (by decide) (by omega) 0 (ok := fun _ => True) (okp := fun _ => True) rfl (fun _ hk => hk) trivial (of_decide_eq_true as_) (Nat.le_trans (Nat.mul_le_mul_right _ (of_decide_eq_true as_ : ji3.toNat ≤ 281474976710656)) (by omega)) (Below.refl _ _) (Nat.le_refl _) ?_
          intro v271 w12 ho13 hb hg_ hnew_
          clear hg_ hnew_
          (first | rw [← Ny270.out] at ho13 | (simp only [Int.reduceToNat] at ho13; rw [← Ny270.out] at ho13))
          have n0_ := Aside0.mk (Kd.R_lower ho13 (below_size bl_))
          have n1_ := Aside0.mk (below_step bl_ hb)
          clear HB
          have HO272 := n0_
          have HB := n1_
          clear n0_ n1_
          clear hb ho13
          refine hK.out _ _ trivial (fun hHeld => ?_)
          clear hK K
          refine norm_ (a' := ?_) ?_ ?_
          rotate_left
          ·show Act.put _ (some 17) _ = _
           simp only [Act.put, List.setIfInBounds_toArray, List.set_cons_zero, List.set_cons_succ, i64_w, i32_w]
           rfl
          exact norm_ (by first | (simp only [putAll, Act.put, List.setIfInBounds_toArray, List.set_cons_zero, List.set_cons_succ]; done) | (simp only [putAll, Act.put, List.setIfInBounds_toArray, List.set_cons_zero, List.set_cons_succ]; rfl)) (hJ3 (v271) _ ⟨(ra_ HO272.out), bl_⟩)
         ·skip
          refine goes_ Tryd.func115 (by kernel_rfl) rfl #[.int .i64 ((wrap64 (8 * (a0.size : Int))) / 4294967296)] (by rfl) rfl rfl lm_ ?_
          with_reducible refine (impl_four.calls ((wrap64 (8 * (a0.size : Int))) / 4294967296) t273 _ A7.out).mono ?_
          rintro e w12 ⟨rfl, hb⟩
          refine ⟨_, rfl, ?_⟩
          have n0_ := Aside0.mk (below_step bl_ hb)
          clear HB
          have HB := n0_
          clear n0_
          (try clear hb)
          (try clear hb2)
          (try clear hk)
          (try clear hi)
          refine hK.out _ _ trivial (fun hHeld => ?_)
          clear hK K
          refine norm_ (a' := ?_) ?_ ?_
          rotate_left
          ·show Act.put _ (some 22) _ = _
           simp only [Act.put, List.setIfInBounds_toArray, List.set_cons_zero, List.set_cons_succ, i64_w, i32_w]
           rfl
          exact norm_ (by first | (simp only [putAll, Act.put, List.setIfInBounds_toArray, List.set_cons_zero, List.set_cons_succ]; done) | (simp only [putAll, Act.put, List.setIfInBounds_toArray, List.set_cons_zero, List.set_cons_succ]; rfl)) (hJ8 () _ bl_)
        ·skip
         rintro _ w13 h0_
         have n0_ : Aside0 (Below w.heap.size w w13) := ⟨h0_⟩
         clear HB
         clear h0_
         have HB := n0_
         clear n0_
         have hHeld := trivial
         refine norm_ (a' := ?_) ?_ ?_
         rotate_left
         ·simp only [putAll, Act.put, List.setIfInBounds_toArray, List.set_cons_zero, List.set_cons_succ]
          rfl
         refine two_ (i := 3) (j := 11) (Ni := some 17) (Nj := some 25) #[true, true, true, true, false, false, true, true, true, false, true, false, false, false] #[true, true, true, false, false, false, true, true, true, false, true, true, false, false] rfl rfl rfl rfl (two_of HT_.out (by kernel_rfl)) (by decide) (by decide) (fun K hK => ?_) (fun K hK => ?_)
         ·skip
          refine Kd.R_make_step (Kd.int .u8) _ 5 (by rfl) (N := 17) rfl 61 _ _ rfl ji3 rfl rfl Tryd.underlying61 (.int .u8 0) 1 info5 rfl (by decide) (by omega) 0 (ok := fun _ => True) (okp := fun _ => True) rfl (fun _ hk => hk) trivial (of_decide_eq_true as_) (Nat.le_trans (Nat.mul_le_mul_right _ (of_decide_eq_true as_ : ji3.toNat ≤ 281474976710656)) (by omega)) (Below.refl _ _) (Nat.le_refl _) ?_
          intro v271 w14 ho15 hb hg_ hnew_
          clear hg_ hnew_
          (first | rw [← Ny270.out] at ho15 | (simp only [Int.reduceToNat] at ho15; rw [← Ny270.out] at ho15))
          have n0_ := Aside0.mk (Kd.R_lower ho15 (below_size bl_))
          have n1_ := Aside0.mk (below_step bl_ hb)
          clear HB
          have HO272 := n0_
          have HB := n1_
          clear n0_ n1_
          clear hb ho15
          refine hK.out _ _ trivial (fun hHeld => ?_)
          clear hK K
          refine norm_ (a' := ?_) ?_ ?_
          rotate_left
          ·show Act.put _ (some 17) _ = _
           simp only [Act.put, List.setIfInBounds_toArray, List.set_cons_zero, List.set_cons_succ, i64_w, i32_w]
           rfl
          exact norm_ (by first | (simp only [putAll, Act.put, List.setIfInBounds_toArray, List.set_cons_zero, List.set_cons_succ]; done) | (simp only [putAll, Act.put, List.setIfInBounds_toArray, List.set_cons_zero, List.set_cons_succ]; rfl)) (hJ3_8 (v271) _ ⟨(ra_ HO272.out), bl_⟩)
         ·skip
          refine goes_ Tryd.func115 (by kernel_rfl) rfl #[.int .i64 (wrap64 (8 * (a0.size : Int)))] (by rfl) rfl rfl lm_ ?_
          with_reducible refine (impl_four.calls (wrap64 (8 * (a0.size : Int))) t274 _ A9.out).mono ?_
          rintro e w14 ⟨rfl, hb⟩
          refine ⟨_, rfl, ?_⟩
          have n0_ := Aside0.mk (below_step bl_ hb)
          clear HB
          have HB := n0_
          clear n0_
          (try clear hb)
          (try clear hb2)
          (try clear hk)
          (try clear hi)
          refine hK.out _ _ trivial (fun hHeld => ?_)
          clear hK K
          refine norm_ (a' := ?_) ?_ ?_
          rotate_left
          ·show Act.put _ (some 25) _ = _
           simp only [Act.put, List.setIfInBounds_toArray, List.set_cons_zero, List.set_cons_succ, i64_w, i32_w]
           rfl
          exact norm_ (by first | (simp only [putAll, Act.put, List.setIfInBounds_toArray, List.set_cons_zero, List.set_cons_succ]; done) | (simp only [putAll, Act.put, List.setIfInBounds_toArray, List.set_cons_zero, List.set_cons_succ]; rfl)) (hJ8_11 () _ bl_)
       ·skip
        rintro v271 w14 ⟨h0_, h1_⟩
        have n0_ : Aside0 (Kd.R (Kd.int .u8) 5 w14 w.heap.size (fun _ => True) v271 y270) := ⟨h0_⟩
        have n1_ : Aside0 (Below w.heap.size w w14) := ⟨h1_⟩
        clear HB
        clear h0_ h1_
        have HO272 := n0_
        have HB := n1_
        clear n0_ n1_
        have hHeld := trivial
        refine norm_ (a' := ?_) ?_ ?_
        rotate_left
        ·simp only [putAll, Act.put, List.setIfInBounds_toArray, List.set_cons_zero, List.set_cons_succ]
         rfl
        refine two_ (i := 4) (j := 8) (Ni := some 18) (Nj := some 22) #[true, true, true, true, true, false, true, true, false, false, true, false, false, false] #[true, true, true, true, false, false, true, true, true, false, true, false, false, false] rfl rfl rfl rfl (two_of HT_.out (by kernel_rfl)) (by decide) (by decide) (fun K hK => ?_) (fun K hK => ?_)
        ·skip
         have hcv15 := own_string (P := Tryd.prog) Tryd.underlying61 Tryd.underlying5 Tryd.underlying9 (Kd.own_of_R HO272.out)
         refine value_ (w1 := ?_) (v := ?_) (by rfl) rfl ?_ ?_
         rotate_left 2
         ·go_simp
          constructor
          ·rfl
          ·rfl
         clear hcv15
         refine hK.out _ _ trivial (fun hHeld => ?_)
         clear hK K
         refine norm_ (a' := ?_) ?_ ?_
         rotate_left
         ·show Act.put _ (some 18) _ = _
          simp only [Act.put, List.setIfInBounds_toArray, List.set_cons_zero, List.set_cons_succ, i64_w, i32_w]
          rfl
         refine pu_ 5 19 HT_ ?_
         exact norm_ (by first | (simp only [putAll, Act.put, List.setIfInBounds_toArray, List.set_cons_zero, List.set_cons_succ]; done) | (simp only [putAll, Act.put, List.setIfInBounds_toArray, List.set_cons_zero, List.set_cons_succ]; rfl)) (hJ3_4 (v271) _ ⟨(ra_ HO272.out), bl_⟩)
        ·skip
         refine goes_ Tryd.func115 (by kernel_rfl) rfl #[.int .i64 ((wrap64 (8 * (a0.size : Int))) / 4294967296)] (by rfl) rfl rfl lm_ ?_
         with_reducible refine (impl_four.calls ((wrap64 (8 * (a0.size : Int))) / 4294967296) t273 _ A7.out).mono ?_
         rintro e w15 ⟨rfl, hb⟩
         refine ⟨_, rfl, ?_⟩
         have n0_ := Aside0.mk (Kd.R_below (ra_ HO272.out) hb)
         have n1_ := Aside0.mk (below_step bl_ hb)
         clear HO272
         clear HB
         have HO272 := n0_
         have HB := n1_
         clear n0_ n1_
         (try clear hb)
         (try clear hb2)
         (try clear hk)
         (try clear hi)
         refine hK.out _ _ trivial (fun hHeld => ?_)
         clear hK K
         refine norm_ (a' := ?_) ?_ ?_
         rotate_left
         ·show Act.put _ (some 22) _ = _
          simp only [Act.put, List.setIfInBounds_toArray, List.set_cons_zero, List.set_cons_succ, i64_w, i32_w]
          rfl
         exact norm_ (by first | (simp only [putAll, Act.put, List.setIfInBounds_toArray, List.set_cons_zero, List.set_cons_succ]; done) | (simp only [putAll, Act.put, List.setIfInBounds_toArray, List.set_cons_zero, List.set_cons_succ]; rfl)) (hJ3_8 (v271) _ ⟨(ra_ HO272.out), bl_⟩)
      ·skip
       rintro _ w14 h0_
       have n0_ : Aside0 (Below w.heap.size w w14) := ⟨h0_⟩
       clear HB
       clear h0_
       have HB := n0_
       clear n0_
       have hHeld := trivial
       refine norm_ (a' := ?_) ?_ ?_
       rotate_left
       ·simp only [putAll, Act.put, List.setIfInBounds_toArray, List.set_cons_zero, List.set_cons_succ]
        rfl
       refine on_ 3 17 HT_ (fun K hK => ?_)
       refine Kd.R_make_step (Kd.int .u8) _ 5 (by rfl) (N := 17) rfl 61 _ _ rfl ji3 rfl rfl Tryd.underlying61 (.int .u8 0) 1 info5 rfl (by decide) (by omega) 0 (ok := fun _ => True) (okp := fun _ => True) rfl (fun _ hk => hk) trivial (of_decide_eq_true as_) (Nat.le_trans (Nat.mul_le_mul_right _ (of_decide_eq_true as_ : ji3.toNat ≤ 281474976710656)) (by omega)) (Below.refl _ _) (Nat.le_refl _) ?_
       intro v271 w15 ho16 hb hg_ hnew_
       clear hg_ hnew_
       (first | rw [← Ny270.out] at ho16 | (simp only [Int.reduceToNat] at ho16; rw [← Ny270.out] at ho16))
       have n0_ := Aside0.mk (Kd.R_lower ho16 (below_size bl_))
       have n1_ := Aside0.mk (below_step bl_ hb)
       clear HB
       have HO272 := n0_
       have HB := n1_
       clear n0_ n1_
       clear hb ho16
       refine hK.out _ _ trivial (fun hHeld => ?_)
       clear hK K
       refine norm_ (a' := ?_) ?_ ?_
       rotate_left
       ·show Act.put _ (some 17) _ = _
        simp only [Act.put, List.setIfInBounds_toArray, List.set_cons_zero, List.set_cons_succ, i64_w, i32_w]
        rfl
       exact norm_ (by first | (simp only [putAll, Act.put, List.setIfInBounds_toArray, List.set_cons_zero, List.set_cons_succ]; done) | (simp only [putAll, Act.put, List.setIfInBounds_toArray, List.set_cons_zero, List.set_cons_succ]; rfl)) (hJ3_8_11 (v271) _ ⟨(ra_ HO272.out), bl_⟩)
     ·skip
      rintro v271 w15 ⟨h0_, h1_⟩
      have n0_ : Aside0 (Kd.R (Kd.int .u8) 5 w15 w.heap.size (fun _ => True) v271 y270) := ⟨h0_⟩
      have n1_ : Aside0 (Below w.heap.size w w15) := ⟨h1_⟩
      clear HB
      clear h0_ h1_
      have HO272 := n0_
      have HB := n1_
      clear n0_ n1_
      have hHeld := trivial
      refine norm_ (a' := ?_) ?_ ?_
      rotate_left
      ·simp only [putAll, Act.put, List.setIfInBounds_toArray, List.set_cons_zero, List.set_cons_succ]
       rfl
      refine two_ (i := 4) (j := 11) (Ni := some 18) (Nj := some 25) #[true, true, true, true, true, false, true, true, true, false, true, false, false, false] #[true, true, true, true, false, false, true, true, true, false, true, true, false, false] rfl rfl rfl rfl (two_of HT_.out (by kernel_rfl)) (by decide) (by decide) (fun K hK => ?_) (fun K hK => ?_)
      ·skip
       have hcv16 := own_string (P := Tryd.prog) Tryd.underlying61 Tryd.underlying5 Tryd.underlying9 (Kd.own_of_R HO272.out)
       refine value_ (w1 := ?_) (v := ?_) (by rfl) rfl ?_ ?_
       rotate_left 2
       ·go_simp
        constructor
        ·rfl
        ·rfl
       clear hcv16
       refine hK.out _ _ trivial (fun hHeld => ?_)
       clear hK K
       refine norm_ (a' := ?_) ?_ ?_
       rotate_left
       ·show Act.put _ (some 18) _ = _
        simp only [Act.put, List.setIfInBounds_toArray, List.set_cons_zero, List.set_cons_succ, i64_w, i32_w]
        rfl
       refine pu_ 5 19 HT_ ?_
       refine pu_ 9 23 HT_ ?_
       exact norm_ (by first | (simp only [putAll, Act.put, List.setIfInBounds_toArray, List.set_cons_zero, List.set_cons_succ]; done) | (simp only [putAll, Act.put, List.setIfInBounds_toArray, List.set_cons_zero, List.set_cons_succ]; rfl)) (hJ3_4_8 (v271) _ ⟨(ra_ HO272.out), bl_⟩)
      ·skip
       refine goes_ Tryd.func115 (by kernel_rfl) rfl #[.int .i64 (wrap64 (8 * (a0.size : Int)))] (by rfl) rfl rfl lm_ ?_
       with_reducible refine (impl_four.calls (wrap64 (8 * (a0.size : Int))) t274 _ A9.out).mono ?_
       rintro e w16 ⟨rfl, hb⟩
       refine ⟨_, rfl, ?_⟩
       have n0_ := Aside0.mk (Kd.R_below (ra_ HO272.out) hb)
       have n1_ := Aside0.mk (below_step bl_ hb)
       clear HO272
       clear HB
       have HO272 := n0_
       have HB := n1_
       clear n0_ n1_
       (try clear hb)
       (try clear hb2)
       (try clear hk)
       (try clear hi)
       refine hK.out _ _ trivial (fun hHeld => ?_)
       clear hK K
       refine norm_ (a' := ?_) ?_ ?_
       rotate_left
       ·show Act.put _ (some 25) _ = _
        simp only [Act.put, List.setIfInBounds_toArray, List.set_cons_zero, List.set_cons_succ, i64_w, i32_w]
        rfl
       exact norm_ (by first | (simp only [putAll, Act.put, List.setIfInBounds_toArray, List.set_cons_zero, List.set_cons_succ]; done) | (simp only [putAll, Act.put, List.setIfInBounds_toArray, List.set_cons_zero, List.set_cons_succ]; rfl)) (hJ3_8_11 (v271) _ ⟨(ra_ HO272.out), bl_⟩)
    ·skip
     rintro v271 w15 ⟨h0_, h1_⟩
     have n0_ : Aside0 (Kd.R (Kd.int .u8) 5 w15 w.heap.size (fun _ => True) v271 y270) := ⟨h0_⟩
     have n1_ : Aside0 (Below w.heap.size w w15) := ⟨h1_⟩
     clear HB
     clear h0_ h1_
     have HO272 := n0_
     have HB := n1_
     clear n0_ n1_
     have hHeld := trivial
     refine norm_ (a' := ?_) ?_ ?_
     rotate_left
     ·simp only [putAll, Act.put, List.setIfInBounds_toArray, List.set_cons_zero, List.set_cons_succ]
      rfl
     refine on_ 8 22 HT_ (fun K hK => ?_)
     refine goes_ Tryd.func115 (by kernel_rfl) rfl #[.int .i64 ((wrap64 (8 * (a0.size : Int))) / 4294967296)] (by rfl) rfl rfl lm_ ?_
     with_reducible refine (impl_four.calls ((wrap64 (8 * (a0.size : Int))) / 4294967296) t273 _ A7.out).mono ?_
     rintro e w16 ⟨rfl, hb⟩
     refine ⟨_, rfl, ?_⟩
     have n0_ := Aside0.mk (Kd.R_below (ra_ HO272.out) hb)
     have n1_ := Aside0.mk (below_step bl_ hb)
     clear HO272
     clear HB
     have HO272 := n0_
     have HB := n1_
     clear n0_ n1_
     (try clear hb)
     (try clear hb2)
     (try clear hk)
     (try clear hi)
     refine hK.out _ _ trivial (fun hHeld => ?_)
     clear hK K
     refine norm_ (a' := ?_) ?_ ?_
     rotate_left
     ·show Act.put _ (some 22) _ = _
      simp only [Act.put, List.setIfInBounds_toArray, List.set_cons_zero, List.set_cons_succ, i64_w, i32_w]
      rfl
     refine pu_ 9 23 HT_ ?_
     exact norm_ (by first | (simp only [putAll, Act.put, List.setIfInBounds_toArray, List.set_cons_zero, List.set_cons_succ]; done) | (simp only [putAll, Act.put, List.setIfInBounds_toArray, List.set_cons_zero, List.set_cons_succ]; rfl)) (hJ3_4_8 (v271) _ ⟨(ra_ HO272.out), bl_⟩)
   ·skip
    rintro v271 w16 ⟨h0_, h1_⟩
    have n0_ : Aside0 (Kd.R (Kd.int .u8) 5 w16 w.heap.size (fun _ => True) v271 y270) := ⟨h0_⟩
    have n1_ : Aside0 (Below w.heap.size w w16) := ⟨h1_⟩
    clear HB
    clear h0_ h1_
    have HO272 := n0_
    have HB := n1_
    clear n0_ n1_
    have hHeld := trivial
    refine norm_ (a' := ?_) ?_ ?_
    rotate_left
    ·simp only [putAll, Act.put, List.setIfInBounds_toArray, List.set_cons_zero, List.set_cons_succ]
     rfl
    refine on_ 4 18 HT_ (fun K hK => ?_)
    have hcv17 := own_string (P := Tryd.prog) Tryd.underlying61 Tryd.underlying5 Tryd.underlying9 (Kd.own_of_R HO272.out)
    refine value_ (w1 := ?_) (v := ?_) (by rfl) rfl ?_ ?_
    rotate_left 2
    ·go_simp
     constructor
     ·rfl
     ·rfl
    clear hcv17
    refine hK.out _ _ trivial (fun hHeld => ?_)
    clear hK K
    refine norm_ (a' := ?_) ?_ ?_
    rotate_left
    ·show Act.put _ (some 18) _ = _
     simp only [Act.put, List.setIfInBounds_toArray, List.set_cons_zero, List.set_cons_succ, i64_w, i32_w]
     rfl
    refine pu_ 5 19 HT_ ?_
    refine pu_ 9 23 HT_ ?_
    exact norm_ (by first | (simp only [putAll, Act.put, List.setIfInBounds_toArray, List.set_cons_zero, List.set_cons_succ]; done) | (simp only [putAll, Act.put, List.setIfInBounds_toArray, List.set_cons_zero, List.set_cons_succ]; rfl)) (hJ3_4_8_11 (v271) _ ⟨(ra_ HO272.out), bl_⟩)
  ·skip
   rintro v271 w16 ⟨h0_, h1_⟩
   have n0_ : Aside0 (Kd.R (Kd.int .u8) 5 w16 w.heap.size (fun _ => True) v271 y270) := ⟨h0_⟩
   have n1_ : Aside0 (Below w.heap.size w w16) := ⟨h1_⟩
   clear HB
   clear h0_ h1_
   have HO272 := n0_
   have HB := n1_
   clear n0_ n1_
   have hHeld := trivial
   refine norm_ (a' := ?_) ?_ ?_
   rotate_left
   ·simp only [putAll, Act.put, List.setIfInBounds_toArray, List.set_cons_zero, List.set_cons_succ]
    rfl
   refine on_ 11 25 HT_ (fun K hK => ?_)
   refine goes_ Tryd.func115 (by kernel_rfl) rfl #[.int .i64 (wrap64 (8 * (a0.size : Int)))] (by rfl) rfl rfl lm_ ?_
   with_reducible refine (impl_four.calls (wrap64 (8 * (a0.size : Int))) t274 _ A9.out).mono ?_
   rintro e w17 ⟨rfl, hb⟩
   refine ⟨_, rfl, ?_⟩
   have n0_ := Aside0.mk (Kd.R_below (ra_ HO272.out) hb)
   have n1_ := Aside0.mk (below_step bl_ hb)
   clear HO272
   clear HB
   have HO272 := n0_
   have HB := n1_
   clear n0_ n1_
   (try clear hb)
   (try clear hb2)
   (try clear hk)
   (try clear hi)
   refine hK.out _ _ trivial (fun hHeld => ?_)
   clear hK K
   refine norm_ (a' := ?_) ?_ ?_
   rotate_left
   ·show Act.put _ (some 25) _ = _
    simp only [Act.put, List.setIfInBounds_toArray, List.set_cons_zero, List.set_cons_succ, i64_w, i32_w]
    rfl
   exact norm_ (by first | (simp only [putAll, Act.put, List.setIfInBounds_toArray, List.set_cons_zero, List.set_cons_succ]; done) | (simp only [putAll, Act.put, List.setIfInBounds_toArray, List.set_cons_zero, List.set_cons_succ]; rfl)) (hJ3_4_8_11 (v271) _ ⟨(ra_ HO272.out), bl_⟩)
 rintro v271 w17 ⟨h0_, h1_⟩
 have n0_ : Aside0 (Kd.R (Kd.int .u8) 5 w17 w.heap.size (fun _ => True) v271 y270) := ⟨h0_⟩
 have n1_ : Aside0 (Below w.heap.size w w17) := ⟨h1_⟩
 clear HB
 clear h0_ h1_
 have HO272 := n0_
 have HB := n1_
 clear n0_ n1_
 have hHeld := trivial
 refine norm_ (a' := ?_) ?_ ?_
 rotate_left
 ·simp only [putAll, Act.put, List.setIfInBounds_toArray, List.set_cons_zero, List.set_cons_succ]
  rfl
 refine pu_ 12 26 HT_ ?_
 refine pu_ 13 2 HT_ ?_
 refine done_ (done_of HT_.out (by kernel_rfl)) ?_
 try go_wp2
 go_ret
 exact ⟨by first | rfl | (simp [errW_none, errW_some] <;> rfl) | (simp only [← hji3]; first | rfl | (simp [errW_none, errW_some] <;> rfl)) | (simp [*, errW_none, errW_some] <;> rfl) | exact False.elim (Bool.noConfusion ((decide_eq_true (of_eq_true (by assumption))).symm.trans (by assumption))), bl_⟩


mutual
def impl_Digest.l0 : Nat → ByteArray → List Int → Int → Option (ByteArray)
 | 0, _, _, _ => none
 | k + 1, x3, x4, x5 => if x5 < (x3.size : Int) then (if 0 ≤ x5 then (if x5 ≤ (wrap64 (x5 + 64)) then (if (wrap64 (x5 + 64)) ≤ (x3.size : Int) then ((impl_ShaBlock.f x4 (x3.extract (x5 : Int).toNat ((wrap64 (x5 + 64)) : Int).toNat)).bind fun t282 => (impl_Digest.l0 k x3 t282 (wrap64 (x5 + 64)))) else (none)) else (none)) else (none)) else (impl_Digest.l1 k (⟨#[]⟩ : ByteArray) x4 (x4.length : Int) 0)
def impl_Digest.l1 : Nat → ByteArray → List Int → Int → Int → Option (ByteArray)
 | 0, _, _, _, _ => none
 | k + 1, x6, x25, x26, x27 => if x27 < x26 then (if 0 ≤ x27 then (if x27 < (x25.length : Int) then ((impl_four.f (rd x25 x27)).bind fun t286 => (if x6.size + t286.size ≤ 9223372036854775807 then (impl_Digest.l1 k (x6 ++ t286) x25 x26 (wrap64 (x27 + 1))) else (none))) else (none)) else (none)) else (some x6)
end
def impl_Digest.f (k : Nat) (a0 : ByteArray) : Option (ByteArray) := (impl_PadText.f a0).bind fun t278 => ((impl_ShaStart.f).bind fun t279 => (impl_Digest.l0 k t278 t279 0))
theorem impl_Digest.mono_l : ∀ k, (∀ y0 y1 y2, LeO (impl_Digest.l0 k y0 y1 y2) (impl_Digest.l0 (k + 1) y0 y1 y2)) ∧ (∀ y0 y1 y2 y3, LeO (impl_Digest.l1 k y0 y1 y2 y3) (impl_Digest.l1 (k + 1) y0 y1 y2 y3))
 | 0 => ⟨fun _ _ _ r h => by simp [impl_Digest.l0] at h, fun _ _ _ _ r h => by simp [impl_Digest.l1] at h⟩
 | k + 1 => by
  obtain ⟨ih0, ih1⟩ := impl_Digest.mono_l k
  refine ⟨?_, ?_⟩
  ·intro y0 y1 y2
   unfold impl_Digest.l0
   exact mo_
  ·intro y0 y1 y2 y3
   unfold impl_Digest.l1
   exact mo_
theorem impl_Digest.mono : ∀ a0 k, LeO (impl_Digest.f k a0) (impl_Digest.f (k + 1) a0) := by
 intro a0 k
 obtain ⟨ih0, ih1⟩ := impl_Digest.mono_l k
 unfold impl_Digest.f
 exact mo_
theorem impl_Digest.calls (k : Nat) (a0 : ByteArray) (r : ByteArray) (w : World) (hT : Tab w) (h : impl_Digest.f k a0 = some r) :
 Calls Tryd.prog 86 #[.string a0] w fun e w' => e = .returned (.string r) ∧ Below w.heap.size w w' := by
 have HT := Aside0.mk hT
 clear hT
 have HB := Aside0.mk (Below.refl w.heap.size w)
 have H := h
 unfold impl_Digest.f at H
 clear h
 replace H := bs_ H
 obtain ⟨t278, A2, H⟩ := H
 try dsimp only at H
 replace H := bs_ H
 obtain ⟨t279, A3, H⟩ := H
 try dsimp only at H
 have H' := Aside0.mk H
 clear H
 go_enter Tryd.func86, Tryd.ntmps86
 go_wp2_with (first | ((with_reducible refine gate_callee (f := 119) rfl ?_); refine gs_ (some 10) Tryd.func119 #[.string a0] ?_; (with_reducible refine (impl_PadText.calls a0 t278 _ A2.out).mono ?_); rintro e w4 ⟨rfl, hb⟩; refine ⟨_, rfl, ?_⟩; replace HB := Aside0.mk (below_step bl_ hb); (try clear hb)) | ((with_reducible refine gate_callee (f := 120) rfl ?_); refine gs_ (some 11) Tryd.func120 #[] ?_; (with_reducible refine (impl_ShaStart.calls  t279 _ A3.out).mono ?_); rintro e w5 ⟨v280, rfl, ho0, hb⟩; refine ⟨_, rfl, ?_⟩; have HO281 := Aside0.mk (Kd.R_lower ho0 (below_size bl_)); replace HB := Aside0.mk (below_step bl_ hb); (try clear hb); (try clear ho0)))
 go_loopg [4, 5] k (fun kq v4 v5 w' => ∃ (x4_1 : List Int) (x5_1 : Int), v5 = .int .i64 x5_1 ∧ Aside0 (impl_Digest.l0 kq t278 x4_1 x5_1 = some r) ∧ Aside0 (kq ≤ k) ∧ Aside0 (Kd.R (Kd.int .i64) 3 w' w.heap.size (fun _ => True) v4 x4_1) ∧ Aside0 (Below w.heap.size w w'))
 case atStart => exact ⟨(t279), (0), (sr_), H', ⟨Nat.le_refl _⟩, ⟨ra_ HO281.out⟩, ⟨bl_⟩⟩
 clear H'
 obtain ⟨x4_1, x5_1, rfl, HA, HK1, HO_4, HB⟩ := hrel
 cases gk with
 | zero => exact absurd HA.out (by simp [impl_Digest.l0])
 | succ k1 => ?_
 have H := HA.out
 clear HA
 simp only [impl_Digest.l0] at H
 by_cases c6 : x5_1 < (t278.size : Int)
 ·rw [if_pos c6] at H
  have c6b0 := decide_eq_true c6
  clear c6
  by_cases c7 : 0 ≤ x5_1
  rotate_left
  ·exact nn_ c7 H
  rw [if_pos c7] at H
  have c7b0 := eq_true c7
  have c7b1 : decide (0 ≤ x5_1) = true := decide_eq_true c7
  clear c7
  by_cases c8 : x5_1 ≤ (wrap64 (x5_1 + 64))
  rotate_left
  ·exact nn_ c8 H
  rw [if_pos c8] at H
  have c8b0 := eq_true c8
  have c8b1 : decide (x5_1 ≤ (wrap64 (x5_1 + 64))) = true := decide_eq_true c8
  by_cases c9 : (wrap64 (x5_1 + 64)) ≤ (t278.size : Int)
  rotate_left
  ·exact nn_ c9 H
  rw [if_pos c9] at H
  have c9b0 := eq_true c9
  have c9b1 : decide ((wrap64 (x5_1 + 64)) ≤ (t278.size : Int)) = true := decide_eq_true c9
  replace H := bs_ H
  obtain ⟨t282, A10, H⟩ := H
  try dsimp only at H
  have H' := Aside0.mk H
  clear H
  obtain ⟨Ao11, co11, eo11⟩ := Kd.R_slice HO_4.out
  subst eo11
  go_wp2_with (first | ((with_reducible refine gate_callee (f := 121) rfl ?_); refine gs_ (some 24) Tryd.func121 #[.slice Ao11 x4_1.length co11, .string (t278.extract (x5_1 : Int).toNat ((wrap64 (x5_1 + 64)) : Int).toNat)] ?_; (with_reducible refine (impl_ShaBlock.calls _ _ x4_1 (t278.extract (x5_1 : Int).toNat ((wrap64 (x5_1 + 64)) : Int).toNat) t282 _ ?side1 ?side2 ?side3 A10.out).mono ?_); (case side1 => exact cs_ ((Kd.R_reads' HO_4.out).2.2)); (case side2 => exact (Kd.R_reads' HO_4.out).2.1); (case side3 => exact tab_of HT.out bl_); rintro e w12 ⟨v283, rfl, ho0, hb⟩; refine ⟨_, rfl, ?_⟩; have HO284 := Aside0.mk (Kd.R_lower (Kd.R_new' ho0 (Kd.R_lt (ra_ HO_4.out))) (below_size bl_)); replace HO_4 := Aside0.mk (Kd.R_elder' (ra_ HO_4.out) (Kd.R_base ho0) hb); replace HB := Aside0.mk (below_step bl_ hb); (try clear hb); (try clear ho0)))
  go_roundg k1
  case measure => have := HK1.out; omega
  case rel => exact ⟨(t282), (wrap64 (x5_1 + 64)), (sr_), H', ⟨by have := HK1.out; omega⟩, ⟨by (with_reducible repeat (first | apply Kd.R_alloc | apply Kd.R_drewN | apply Kd.R_drew)); exact Kd.R_mono HO284.out (fun _ hk => trivial)⟩, ⟨bl_⟩⟩
 rw [if_neg c6] at H
 have c6b0 := decide_eq_false c6
 clear c6
 have H' := Aside0.mk H
 clear H
 obtain ⟨Ao13, co13, eo13⟩ := Kd.R_slice HO_4.out
 subst eo13
 go_wp2
 go_loopg [6, 27] k1 (fun kq v6 v27 w' => ∃ (x6_2 : ByteArray) (x27_2 : Int), v6 = .string x6_2 ∧ v27 = .int .i64 x27_2 ∧ Aside0 (impl_Digest.l1 kq x6_2 x4_1 (x4_1.length : Int) x27_2 = some r) ∧ Aside0 (kq ≤ k1) ∧ Aside0 (Kd.R (Kd.int .i64) 3 w' w.heap.size (fun _ => True) (.slice Ao13 x4_1.length co13) x4_1) ∧ Aside0 (Below w.heap.size w w'))
 case atStart => exact ⟨((⟨#[]⟩ : ByteArray)), (0), (sr_), (sr_), H', ⟨Nat.le_refl _⟩, ⟨ra_ HO_4.out⟩, ⟨bl_⟩⟩
 clear H'
 try clear c6
 try clear c6b0
 obtain ⟨x6_2, x27_2, rfl, rfl, HA, HK2, HO_25, HB⟩ := hrel
 cases gk with
 | zero => exact absurd HA.out (by simp [impl_Digest.l1])
 | succ k2 => ?_
 have H := HA.out
 clear HA
 simp only [impl_Digest.l1] at H
 by_cases c14 : x27_2 < (x4_1.length : Int)
 rotate_left
 ·rw [if_neg c14] at H
  have c14b0 := decide_eq_false c14
  clear c14
  obtain rfl := Option.some.inj H
  go_wp2
  go_ret
  exact ⟨er_, bl_⟩
 rw [if_pos c14] at H
 have c14b0 := decide_eq_true c14
 clear c14
 by_cases c15 : 0 ≤ x27_2
 rotate_left
 ·exact nn_ c15 H
 rw [if_pos c15] at H
 have c15b0 := decide_eq_true c15
 clear c15
 by_cases c16 : x27_2 < (x4_1.length : Int)
 rotate_left
 ·exact nn_ c16 H
 rw [if_pos c16] at H
 have c16b0 := decide_eq_true c16
 clear c16
 replace H := bs_ H
 obtain ⟨t286, A17, H⟩ := H
 try dsimp only at H
 by_cases c18 : x6_2.size + t286.size ≤ 9223372036854775807
 rotate_left
 ·exact nn_ c18 H
 rw [if_pos c18] at H
 have c18b0 := eq_true c18
 have c18b1 : decide (x6_2.size + t286.size ≤ 9223372036854775807) = true := decide_eq_true c18
 try have c18b2 : (9223372036854775807 < x6_2.size + t286.size) = False := eq_false (Nat.not_lt.2 c18)
 have H' := Aside0.mk H
 clear H
 have p285 : 0 ≤ (x27_2 : Int) := of_decide_eq_true as_
 have q285 : x27_2 < (x4_1.length : Int) := of_decide_eq_true as_
 obtain ⟨ad285, e285, hx285_0⟩ := Kd.at_int (Kd.R_reads' HO_25.out).2.2 x27_2 p285 q285
 cases e285
 replace p285 := eq_true p285
 replace q285 := eq_true q285
 go_wp2_with (first | ((with_reducible refine gate_callee (f := 115) rfl ?_); refine gs_ (some 33) Tryd.func115 #[.int .i64 (rd x4_1 x27_2)] ?_; (with_reducible refine (impl_four.calls (rd x4_1 x27_2) t286 _ A17.out).mono ?_); rintro e w19 ⟨rfl, hb⟩; refine ⟨_, rfl, ?_⟩; replace HO_25 := Aside0.mk (Kd.R_below (ra_ HO_25.out) hb); replace HB := Aside0.mk (below_step bl_ hb); (try clear hb)))
 go_roundg k2
 case measure => have := HK1.out; have := HK2.out; omega
 case rel => exact ⟨(x6_2 ++ t286), (wrap64 (x27_2 + 1)), (sr_), (sr_), H', ⟨by have := HK1.out; have := HK2.out; omega⟩, ⟨ra_ HO_25.out⟩, ⟨bl_⟩⟩

end Go.Proofs.YtdhjolglbcoijaaDoor.PA
