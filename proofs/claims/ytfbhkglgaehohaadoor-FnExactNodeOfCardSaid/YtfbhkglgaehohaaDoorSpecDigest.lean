import Derived.Test.YtfbhkglgaehohaaDoorSpecPad
import Derived.StillTailTactics
namespace Go.Proofs.YtfbhkglgaehohaaDoor.PH
open Go.RowKit Go.Proofs.YtfbhkglgaehohaaDoorW.PrintWords Go.Proofs.YtfbhkglgaehohaaDoorW.PrintLast Go.Proofs.YtfbhkglgaehohaaDoorW.PrintMore
attribute [local go_sem] max2_int min2_int max_two min_two max_three min_three max_four min_four
set_option linter.unusedVariables false
set_option linter.unusedSimpArgs false
theorem still_row {P : Program} {ops : Array Oper} {rest : List Oper} {o : Oper} {a : Act} {Q : Act → Prop} {W : World} (hw : Region.wanted o (yielded ops a.tmps) = true) {t : TypeId} {p : Operand} (ho : o.op = .load t p) (g : Nat) (hp : a.eval p = .pointer (some ⟨g, 0, none⟩)) {cs : Array Value} {t' : TypeId} {fr : Nat × Nat} (hg : W.heap[g]? = some (.cells cs t' fr)) {n : Nat} {e : TypeId} (hu : P.underlying t = some (.array n e)) (hi : (P.info? t).map (·.size) = some cs.size)
    (h : wpStill P ops W Q rest (a.put o.dst (.agg cs))) : wpStill P ops W Q (o :: rest) a := by
  refine wpStill_step fun K hK => ?_
  rw [if_pos hw]
  have hr : (execOp a.eval o).run P W = .ok (.value (.agg cs)) W := by
    unfold execOp
    rw [ho]
    show (do let x ← Instr.loadAt t (a.eval p); pure (Next.value x) : Sem Next).run P W = _
    rw [hp]
    simp only [Instr.loadAt, Instr.sureAddr, Sem.run_bind, Sem.run_pure, Result.andThen, run_loadVar_row W g t' t cs fr _ hg hu rfl hi]
  unfold Oper.still
  rw [hr, Oper.stillUpon_value]
  exact hK _ h
theorem hFirst_len : hFirst.length = 8 := rfl
theorem shaB_len (l : List Int) (t : ByteArray) (h : l.length = 8) : (shaB l t).length = 8 := outs_len _ _ _ h (Nat.le_refl _)
/-- The state behind j blocks of a text. -/
def hs (p : ByteArray) : Nat → List Int
  | 0 => hFirst
  | j + 1 => shaB (hs p j) (p.extract (64 * j) (64 * j + 64))
theorem hs_len (p : ByteArray) : ∀ j, (hs p j).length = 8
  | 0 => rfl
  | j + 1 => shaB_len _ _ (hs_len p j)
def padS (a0 : ByteArray) : ByteArray := strOfNums (padBytes a0 8)
def blocks (n : Nat) : Nat := (n + 72) / 64
theorem padBytes_len (a0 : ByteArray) : (padBytes a0 8).length = 64 * blocks a0.size := by
  simp [padBytes, bytesOf_length, blocks, padZ]; omega
theorem strOfNums_size (l : List Int) : (strOfNums l).size = l.length := by
  simp [strOfNums, ByteArray.size]
theorem padS_size (a0 : ByteArray) : (padS a0).size = 64 * blocks a0.size := by
  unfold padS; rw [strOfNums_size, padBytes_len]
theorem kWords_len : kWords.length = 64 := by decide
def f4 (x : Int) : List Int := [x / 16777216 % 256, x / 65536 % 256, x / 256 % 256, x % 256]
theorem f4_len (l : List Int) : (l.flatMap f4).length = 4 * l.length := by
  induction l with
  | nil => rfl
  | cons x l ih => rw [List.flatMap_cons, List.length_append, ih]; simp [f4]; omega
def outB (l : List Int) (n : Nat) : List Int := (l.take n).flatMap f4 ++ List.replicate (32 - 4 * n) 0
theorem outB_len (l : List Int) (n : Nat) (h : l.length = 8) (hn : n ≤ 8) : (outB l n).length = 32 := by
  unfold outB
  rw [List.length_append, f4_len, List.length_replicate, List.length_take]
  omega
theorem outB_next (l : List Int) (n : Nat) (h : l.length = 8) (hn : n < 8) : ((((outB l n).set (4 * n) (l.getD n 0 / 16777216 % 256)).set (4 * n + 1) (l.getD n 0 / 65536 % 256)).set (4 * n + 2) (l.getD n 0 / 256 % 256)).set (4 * n + 3) (l.getD n 0 % 256) = outB l (n + 1) := by
  have h1 : ((l.take n).flatMap f4).length = 4 * n := by rw [f4_len, List.length_take]; omega
  unfold outB
  rw [show 32 - 4 * n = (32 - 4 * (n + 1)) + 1 + 1 + 1 + 1 by omega]
  simp only [List.replicate_succ]
  rw [List.set_append_right _ _ (by omega), h1, Nat.sub_self, List.set_cons_zero, List.set_append_right _ _ (by omega), h1, show 4 * n + 1 - 4 * n = 1 by omega,
    List.set_append_right _ _ (by omega), h1, show 4 * n + 2 - 4 * n = 2 by omega, List.set_append_right _ _ (by omega), h1, show 4 * n + 3 - 4 * n = 3 by omega]
  rw [List.take_succ_eq_append_getElem (by omega), List.flatMap_append, List.append_assoc]
  simp [List.getD, f4, show n < l.length by omega]
set_option maxHeartbeats 2000000 in
set_option maxRecDepth 100000 in
theorem digest_calls (a0 : ByteArray) (w : World) (hs0 : a0.size ≤ 1073741824) :
    Calls Tryd.prog 28 #[.string a0] w fun e w' => e = .returned (.string (strOfNums ((hs (padS a0) (blocks a0.size)).flatMap f4))) ∧ Below w.heap.size w w' := by
  have HB := Aside0.mk (Below.refl w.heap.size w)
  have HS := Aside0.mk hs0
  clear hs0
  go_enter Tryd.func28, Tryd.ntmps28
  go_wp2_with (first
    | (go_at_call 40; (with_reducible refine (first_calls _).mono ?_); rintro e w1 ⟨rfl, hb⟩; have n1_ := Aside0.mk (below_step HB.out hb); clear HB; have HB := n1_; clear n1_ hb)
    | ((with_reducible refine gate_dst (N := 3) rfl ?_); refine box_event rfl (N := 3) rfl (cs := U (List.replicate 8 0)) (t := 58) (by kernel_rfl) ?_; intro g3 hg w3 hbox hb; have B3 := Aside0.mk hbox; have G3 := Aside0.mk (by rw [hg]; exact below_size HB.out : w.heap.size ≤ g3); have n1_ := Aside0.mk (below_step HB.out hb); clear HB; have HB := n1_; clear n1_ hbox hb hg)
    | ((with_reducible refine gate_store (t := 58) (p := 3) (v := .tmp 9) rfl ?_); refine store_row rfl rfl rfl g3 rfl (cs := U hFirst) (old := U (List.replicate 8 0)) rfl B3.out (by rw [U_size]; exact info58) rfl (U_one _) ?_; intro w4 e4; have n0_ := Aside0.mk (show w4.heap[g3]? = some (.cells (U hFirst) 58 (0, 0)) by rw [e4]; exact setRow_heap _ _ _ _ _ _ B3.out); have n1_ := Aside0.mk (show Below w.heap.size w w4 by rw [e4]; exact below_setRow HB.out G3.out _); clear HB B3 e4; have B3 := n0_; have HB := n1_; clear n0_ n1_)
    | (go_at_call 41; (with_reducible refine (keys_calls _).mono ?_); rintro e w5 ⟨rfl, hb⟩; have n1_ := Aside0.mk (below_step HB.out hb); have n2_ := Aside0.mk (blk_below B3.out hb); clear HB B3; have HB := n1_; have B3 := n2_; clear n1_ n2_ hb)
    | ((with_reducible refine gate_dst (N := 4) rfl ?_); refine box_event rfl (N := 4) rfl (cs := U (List.replicate 64 0)) (t := 60) (by kernel_rfl) ?_; intro g4 hg w6 hbox hb; have B4 := Aside0.mk hbox; have G4 := Aside0.mk (by rw [hg]; exact below_size HB.out : w.heap.size ≤ g4); have n1_ := Aside0.mk (below_step HB.out hb); have n2_ := Aside0.mk (blk_below B3.out hb); have N34 := Aside0.mk (by rw [hg]; exact Nat.ne_of_lt (blk_lt B3.out) : g3 ≠ g4); clear HB B3; have HB := n1_; have B3 := n2_; clear n1_ n2_ hbox hb hg)
    | ((with_reducible refine gate_store (t := 60) (p := 4) (v := .tmp 10) rfl ?_); refine store_row rfl rfl rfl g4 rfl (cs := U kWords) (old := U (List.replicate 64 0)) rfl B4.out (by rw [U_size]; exact info60) rfl (U_one _) ?_; intro w7 e7; have n0_ := Aside0.mk (show w7.heap[g4]? = some (.cells (U kWords) 60 (0, 0)) by rw [e7]; exact setRow_heap _ _ _ _ _ _ B4.out); have n1_ := Aside0.mk (show Below w.heap.size w w7 by rw [e7]; exact below_setRow HB.out G4.out _); have n2_ := Aside0.mk (show w7.heap[g3]? = some (.cells (U hFirst) 58 (0, 0)) by rw [e7, setRow_other _ _ _ _ N34.out]; exact B3.out); clear HB B3 B4 e7; have B4 := n0_; have HB := n1_; have B3 := n2_; clear n0_ n1_ n2_)
    | (go_at_call 42; (with_reducible refine (pad_calls _ _ HS.out).mono ?_); rintro e w8 ⟨rfl, hb⟩; have n1_ := Aside0.mk (below_step HB.out hb); have n2_ := Aside0.mk (blk_below B3.out hb); have n3_ := Aside0.mk (blk_below B4.out hb); clear HB B3 B4; have HB := n1_; have B3 := n2_; have B4 := n3_; clear n1_ n2_ n3_ hb))
  rw [show strOfNums (padBytes a0 8) = padS a0 from rfl]
  have hps := padS_size a0
  obtain ⟨nb, hnb⟩ : ∃ nb, blocks a0.size = nb := ⟨_, rfl⟩
  obtain ⟨p, hp⟩ : ∃ p, padS a0 = p := ⟨_, rfl⟩
  have hnbl : nb ≤ 16777218 := by rw [← hnb]; unfold blocks; have := HS.out; omega
  rw [hp, hnb] at hps
  rw [hp]
  have HPS := Aside0.mk hps
  have HNB := Aside0.mk hnbl
  clear hps hnbl
  go_loopg [6] nb (fun kq v6 w' => ∃ (j : Nat), v6 = .int .i64 (64 * (j : Int)) ∧ Aside0 (j + kq = nb) ∧ Aside0 (w'.heap[g3]? = some (.cells (U (hs p j)) 58 (0, 0))) ∧ Aside0 (w'.heap[g4]? = some (.cells (U kWords) 60 (0, 0))) ∧ Aside0 (Below w.heap.size w w'))
  case atStart => exact ⟨0, rfl, ⟨by omega⟩, B3, B4, HB⟩
  case round =>
    clear HB B3 B4
    obtain ⟨j, rfl, HJ, B3, B4, HB⟩ := hrel
    have HSZ : (p.size : Int) = 64 * (nb : Int) := by have := HPS.out; omega
    cases gk with
    | succ k1 =>
      have hjl : decide (j < nb) = true := decide_eq_true (by have := HJ.out; omega)
      go_wp2_with (fail)
      have e64 : IntKind.i64.wrap (64 * (j : Int) + 64) = 64 * (j : Int) + 64 := by rw [i64_w, w64 (by have := HJ.out; have := HNB.out; omega) (by have := HJ.out; have := HNB.out; omega)]
      have lo0 : (0 : Int) ≤ 64 * (j : Int) := by omega
      have lo1 : 64 * (j : Int) ≤ 64 * (j : Int) + 64 := by omega
      have lo2 : 64 * (j : Int) + 64 ≤ (p.size : Int) := by have := HJ.out; omega
      have ks : ∀ W : World, (Instr.slice 9 (.string p) (some (.int .i64 (64 * (j : Int)))) (some (.int .i64 (64 * (j : Int) + 64))) none).run Tryd.prog W = .ok (.string (p.extract (64 * j) (64 * j + 64))) W := by
        intro W
        rw [run_slice_string W 9 p _ _ _ _ Tryd.underlying9 lo0 lo1 lo2, show ((64 * (j : Int)).toNat) = 64 * j by omega, show ((64 * (j : Int) + 64).toNat) = 64 * j + 64 by omega]
      have hex : (p.extract (64 * j) (64 * j + 64)).size = 64 := by rw [ByteArray.size_extract]; omega
      have HEX := Aside0.mk hex
      clear hex
      refine wp_region_still_tail 7 (by kernel_rfl) (by kernel_rfl) ?_
      simp only [List.take_succ_cons, List.take_zero, List.drop_succ_cons, List.drop_zero]
      refine still_row (by rfl) rfl g3 rfl (blk_drew B3.out) und58 (by rw [U_size, hs_len]; exact info58) ?_
      still_step
      still_step
      still_step
      still_step
      still_step
      refine still_row (by rfl) rfl g4 rfl (blk_drew B4.out) und60 (by rw [U_size]; exact info60) ?_
      refine wpStill_nil ?_
      change wpList _ _ _ _ _ wr.drew
      have n1_ := Aside0.mk (below_drew1 HB.out)
      have n2_ := Aside0.mk (blk_drew B3.out)
      have n3_ := Aside0.mk (blk_drew B4.out)
      clear HB B3 B4
      generalize wr.drew = wq at n1_ n2_ n3_ ⊢
      have HB := n1_
      have B3 := n2_
      have B4 := n3_
      clear n1_ n2_ n3_
      go_wp2_with (first
        | (go_at_call 43; (with_reducible refine (block_calls _ _ _ (hs_len p j) HEX.out).mono ?_); rintro e w8 ⟨rfl, hb⟩; have n1_ := Aside0.mk (below_step HB.out hb); have n2_ := Aside0.mk (blk_below B3.out hb); have n3_ := Aside0.mk (blk_below B4.out hb); clear HB B3 B4; have HB := n1_; have B3 := n2_; have B4 := n3_; clear n1_ n2_ n3_ hb)
        | ((with_reducible refine gate_store (t := 58) (p := 3) (v := .tmp 26) rfl ?_); refine store_row rfl rfl rfl g3 rfl (cs := U (hs p (j + 1))) (old := U (hs p j)) rfl B3.out (by rw [U_size, hs_len]; exact info58) (by rw [U_size, U_size, hs_len, hs_len]) (U_one _) ?_; intro w9 e9; have n0_ := Aside0.mk (show w9.heap[g3]? = some (.cells (U (hs p (j + 1))) 58 (0, 0)) by rw [e9]; exact setRow_heap _ _ _ _ _ _ B3.out); have n1_ := Aside0.mk (show Below w.heap.size w w9 by rw [e9]; exact below_setRow HB.out G3.out _); have n2_ := Aside0.mk (show w9.heap[g4]? = some (.cells (U kWords) 60 (0, 0)) by rw [e9, setRow_other _ _ _ _ (fun h_ => N34.out h_.symm)]; exact B4.out); clear HB B3 B4 e9; have B3 := n0_; have HB := n1_; have B4 := n2_; clear n0_ n1_ n2_))
      go_roundg k1
      case measure => have := HJ.out; omega
      case rel => exact ⟨j + 1, by simp; omega, ⟨by have := HJ.out; omega⟩, B3, B4, HB⟩
    | zero =>
      obtain rfl : j = nb := by have := HJ.out; omega
      clear HJ
      go_wp2_with (first
        | ((with_reducible refine gate_dst (N := 27) rfl ?_); refine Kd.R_make (Kd.int .u8) _ 5 rfl (N := 27) rfl 63 _ _ rfl 32 rfl rfl Tryd.underlying63 (.int .u8 0) 1 info5 rfl (by decide) (by omega) 0 (ok := fun _ => True) (okp := fun _ => True) rfl (fun _ hk => hk) trivial (by omega) (by decide) (Below.refl _ _) (Nat.le_refl _) ?_; intro v7 w10 ho hb hg_ hnew_; clear hg_ hnew_; have n0_ := Aside0.mk (Kd.R_lower ho (below_size HB.out)); have n1_ := Aside0.mk (below_step HB.out hb); have n2_ := Aside0.mk (blk_below B3.out hb); have N3 := Aside0.mk (blk_lt B3.out); clear HB B3; have HO := n0_; have HB := n1_; have B3 := n2_; clear n0_ n1_ n2_ ho hb))
      have n0_ := HO
      rw [show List.replicate (Int.toNat 32) 0 = outB (hs p j) 0 from rfl] at n0_
      clear HO
      have HO := n0_
      clear n0_
      obtain ⟨A2, cb, rfl, _, hC2⟩ := Kd.R_reads HO.out
      obtain ⟨ad2, rfl, _⟩ := hC2.2.2 (by rw [outB_len _ _ (hs_len p j) (by omega)]; decide)
      obtain ⟨gb, rfl⟩ := Kd.R_head HO.out
      have hgb : g3 ≠ gb := by
        intro e_; exact Kd.R_ne HO.out B3.out (by decide) (by rw [e_]; rfl)
      have hbs : w.heap.size ≤ gb := Kd.R_base HO.out gb rfl
      have HGB := Aside0.mk hgb
      have HBS := Aside0.mk hbs
      clear hgb hbs hC2
      have n0_ := HO
      rw [outB_len _ _ (hs_len p j) (by omega)] at n0_
      clear HO
      have HO := n0_
      clear n0_
      rw [outB_len _ _ (hs_len p j) (by omega)]
      go_loopg [8] 8 (fun kq v8 w' => ∃ (n : Nat), v8 = .int .i64 n ∧ Aside0 (n + kq = 8) ∧ Aside0 (w'.heap[g3]? = some (.cells (U (hs p j)) 58 (0, 0))) ∧ Aside0 ((Kd.int .u8).R 5 w' w.heap.size (fun _ => True) (.slice (some ⟨gb, 0, none⟩) 32 cb) (outB (hs p j) n)) ∧ Aside0 (Below w.heap.size w w'))
      case atStart => exact ⟨0, rfl, ⟨rfl⟩, B3, HO, HB⟩
      case round =>
        clear HB B3 HO
        obtain ⟨n, rfl, HJ, B3, HO, HB⟩ := hrel
        cases gk with
        | succ k1 =>
          have hn : n < 8 := by have := HJ.out; omega
          have HN := Aside0.mk hn
          have hjl : decide ((n : Int) < 8) = true := decide_eq_true (by omega)
          obtain ⟨q0, hq0⟩ : ∃ q, 4 * n = q := ⟨_, rfl⟩
          obtain ⟨q1, hq1⟩ : ∃ q, q0 + 1 = q := ⟨_, rfl⟩
          obtain ⟨q2, hq2⟩ : ∃ q, q0 + 2 = q := ⟨_, rfl⟩
          obtain ⟨q3, hq3⟩ : ∃ q, q0 + 3 = q := ⟨_, rfl⟩
          have e0 : IntKind.i64.wrap (4 * (n : Int)) = (q0 : Int) := by rw [i64_w, w64 (by omega) (by omega)]; omega
          have e1 : IntKind.i64.wrap ((q0 : Int) + 1) = (q1 : Int) := by rw [i64_w, w64 (by omega) (by omega)]; omega
          have e2 : IntKind.i64.wrap ((q0 : Int) + 2) = (q2 : Int) := by rw [i64_w, w64 (by omega) (by omega)]; omega
          have e3 : IntKind.i64.wrap ((q0 : Int) + 3) = (q3 : Int) := by rw [i64_w, w64 (by omega) (by omega)]; omega
          have l0 : q0 < 32 := by omega
          have l1 : q1 < 32 := by omega
          have l2 : q2 < 32 := by omega
          have l3 : q3 < 32 := by omega
          have HQ := Aside0.mk (show q0 < 32 ∧ q1 < 32 ∧ q2 < 32 ∧ q3 < 32 from ⟨l0, l1, l2, l3⟩)
          have HQ0 := Aside0.mk hq0
          have HQ1 := Aside0.mk hq1
          have HQ2 := Aside0.mk hq2
          have HQ3 := Aside0.mk hq3
          clear hq0 hq1 hq2 hq3
          obtain ⟨x, hx⟩ : ∃ x, (hs p j).getD n 0 = x := ⟨_, rfl⟩
          have HX := Aside0.mk hx
          clear hx
          obtain ⟨hc0, hz0⟩ := Kd.R_celln (0 : Int) HO.out (q0 : Int) (by omega) (by have := HQ.out; omega)
          rw [Int.toNat_natCast] at hc0 hz0
          obtain ⟨hc1, hz1⟩ := Kd.R_celln (0 : Int) HO.out (q1 : Int) (by omega) (by have := HQ.out; omega)
          rw [Int.toNat_natCast] at hc1 hz1
          obtain ⟨hc2, hz2⟩ := Kd.R_celln (0 : Int) HO.out (q2 : Int) (by omega) (by have := HQ.out; omega)
          rw [Int.toNat_natCast] at hc2 hz2
          obtain ⟨hc3, hz3⟩ := Kd.R_celln (0 : Int) HO.out (q3 : Int) (by omega) (by have := HQ.out; omega)
          rw [Int.toNat_natCast] at hc3 hz3
          have hx0 := U_cell B3.out n (by rw [hs_len]; exact HN.out)
          rw [HX.out] at hx0
          have hgb := HGB.out
          have d01 : q0 ≠ q1 := by have := HQ0.out; have := HQ1.out; omega
          have d02 : q0 ≠ q2 := by have := HQ0.out; have := HQ2.out; omega
          have d03 : q0 ≠ q3 := by have := HQ0.out; have := HQ3.out; omega
          have d12 : q1 ≠ q2 := by have := HQ1.out; have := HQ2.out; omega
          have d13 : q1 ≠ q3 := by have := HQ1.out; have := HQ3.out; omega
          have d23 : q2 ≠ q3 := by have := HQ2.out; have := HQ3.out; omega
          go_wp2_with (fail)
          go_roundg k1
          case measure => have := HJ.out; omega
          case rel =>
            refine ⟨n + 1, by simp, ⟨by have := HJ.out; omega⟩, ⟨?_⟩, ⟨?_⟩, ⟨?_⟩⟩
            · exact blk_far (blk_far (blk_far (blk_far B3.out HGB.out _) HGB.out _) HGB.out _) HGB.out _
            · rw [← outB_next _ n (hs_len p j) HN.out, HX.out, HQ0.out, HQ1.out, HQ2.out, HQ3.out]
              have r0 := Kd.R_putn HO.out (q0 : Int) (x / 16777216 % 256)
              have r1 := Kd.R_putn r0 (q1 : Int) (x / 65536 % 256)
              have r2 := Kd.R_putn r1 (q2 : Int) (x / 256 % 256)
              have r3 := Kd.R_putn r2 (q3 : Int) (x % 256)
              simp only [Int.toNat_natCast] at r3
              exact r3
            · exact below_set (below_set (below_set (below_set HB.out HBS.out) HBS.out) HBS.out) HBS.out
        | zero =>
          obtain rfl : n = 8 := by have := HJ.out; omega
          obtain ⟨A3, c3, e3, _, hC3⟩ := Kd.R_reads HO.out
          rw [outB_len _ _ (hs_len p j) (Nat.le_refl _)] at e3
          cases e3
          rw [outB_len _ _ (hs_len p j) (Nat.le_refl _)] at hC3
          have kc := Kd.C_string (P := Tryd.prog) (c := cb) Tryd.underlying63 Tryd.underlying5 Tryd.underlying9 hC3
          go_wp2_with (fail)
          go_ret
          refine ⟨?_, HB.out⟩
          have e_ : outB (hs p j) 8 = (hs p j).flatMap f4 := by
            unfold outB; rw [List.take_of_length_le (Nat.le_of_eq (hs_len p j))]; simp
          rw [← e_]
          rfl
end Go.Proofs.YtfbhkglgaehohaaDoor.PH
namespace Go.Proofs.YtfbhkglgaehohaaDoor.PA
open Go.RowKit Go.Proofs.YtfbhkglgaehohaaDoorW.PrintWords Go.Proofs.YtfbhkglgaehohaaDoorW.PrintLast Go.Proofs.YtfbhkglgaehohaaDoorW.PrintMore
def spec_Digest.f (a0 : ByteArray) : Option ByteArray := if a0.size ≤ 1073741824 then some (strOfNums ((PH.hs (PH.padS a0) (PH.blocks a0.size)).flatMap PH.f4)) else none
theorem spec_Digest.calls (a0 : ByteArray) (r : ByteArray) (w : World) (h : spec_Digest.f a0 = some r) :
    Calls Tryd.prog 28 #[.string a0] w fun e w' => e = .returned (.string r) ∧ Below w.heap.size w w' := by
  unfold spec_Digest.f at h
  split at h
  · rename_i hc
    obtain rfl := Option.some.inj h
    exact PH.digest_calls a0 w hc
  · cases h
end Go.Proofs.YtfbhkglgaehohaaDoor.PA
