import Derived.Test.YtfbhkglgaehohaaDoorShaWalk
import Derived.Laws.Rows
import Derived.Laws.Tables
import Derived.Laws.CopyOwn
import Derived.Laws.CopyRow
import Derived.Deep.WholeRow
namespace Go.Proofs.YtfbhkglgaehohaaDoor.PH
open Go.RowKit Go.Proofs.YtfbhkglgaehohaaDoorW.PrintWords Go.Proofs.YtfbhkglgaehohaaDoorW.PrintLast Go.Proofs.YtfbhkglgaehohaaDoorW.PrintMore
attribute [local go_sem] max2_int min2_int max_two min_two max_three min_three max_four min_four
set_option linter.unusedVariables false
set_option linter.unusedSimpArgs false
section
variable {P : Program} {ops : Array Oper} {rest : List Oper} {o : Oper} {a : Act} {Q : Exit → Act → World → Prop} {W : World}
/-- A whole array read out of its block. -/
theorem load_row (hgd : o.guard = none) {N : Tmp} (_hd : o.dst = some N) {t : TypeId} {p : Operand} (ho : o.op = .load t p) (g : Nat) (hp : a.eval p = .pointer (some ⟨g, 0, none⟩)) {cs : Array Value} {t' : TypeId} {fr : Nat × Nat} (hg : W.heap[g]? = some (.cells cs t' fr)) {n : Nat} {e : TypeId} (hu : P.underlying t = some (.array n e)) (hi : (P.info? t).map (·.size) = some cs.size)
    (h : wpList P ops Q rest (a.put o.dst (.agg cs)) W) : wpList P ops Q (o :: rest) a W := by
  refine Kd.event_run hgd ?_ h
  unfold execOp
  rw [ho]
  show (do let x ← Instr.loadAt t (a.eval p); pure (Next.value x) : Sem Next).run P W = _
  rw [hp]
  simp only [Instr.loadAt, Instr.sureAddr, Sem.run_bind, Sem.run_pure, Result.andThen, run_loadVar_row W g t' t cs fr _ hg hu rfl hi]
/-- A whole array stored into its block. -/
theorem store_row (hgd : o.guard = none) (hN : o.dst = none) {t : TypeId} {p : Tmp} {x : Operand} (ho : o.op = .store t (.tmp p) x) (g : Nat) (hp : a.eval (.tmp p) = .pointer (some ⟨g, 0, none⟩)) {cs old : Array Value} (hx : a.eval x = .agg cs) {t' : TypeId} (hg : W.heap[g]? = some (.cells old t' (0, 0))) (hi : (P.info? t).map (·.size) = some cs.size) (hs : old.size = cs.size) (h1 : cs.all (·.oneCell') = true)
    (h : ∀ w', w' = W.setRow g cs → wpList P ops Q rest a w') : wpList P ops Q (o :: rest) a W := by
  refine store_event hgd ho hN (w1 := W.setRow g cs) ?_ h
  unfold execOp
  rw [ho]
  show (do Instr.storeAt t (a.eval (.tmp p)) (a.eval x); pure Next.skip : Sem Next).run P W = _
  rw [hp, hx]
  simp only [Instr.storeAt, Instr.sureAddr, Sem.run_bind, Sem.run_pure, Result.andThen, run_storeVar_row W g t' t old cs hg hi hs h1]
end
theorem U_one (l : List Int) : (U l).all (·.oneCell') = true := by
  simp [U, Value.oneCell']
theorem U_size (l : List Int) : (U l).size = l.length := by simp [U]
def hFirst : List Int := [1779033703, 3144134277, 1013904242, 2773480762, 1359893119, 2600822924, 528734635, 1541459225]
theorem info58 : (Tryd.prog.info? 58).map (·.size) = some 8 := by kernel_rfl
theorem info60 : (Tryd.prog.info? 60).map (·.size) = some 64 := by kernel_rfl
theorem und58 : Tryd.prog.underlying 58 = some (.array 8 57) := by kernel_rfl
theorem und60 : Tryd.prog.underlying 60 = some (.array 64 57) := by kernel_rfl
set_option maxHeartbeats 8000000 in
set_option maxRecDepth 100000 in
theorem first_calls (w : World) : Calls Tryd.prog 40 #[] w fun e w' => e = .returned (.agg (U hFirst)) ∧ Below w.heap.size w w' := by
  have HB := Aside0.mk (Below.refl w.heap.size w)
  go_enter Tryd.func40, Tryd.ntmps40
  go_wp2_with (fail)
  refine bodyPost_ret (results_cell_row rfl _ _ w.heap.size 58 (U hFirst) (0, 0) _ rfl (blk_new w _) und58 rfl (by rw [U_size]; exact info58)) rfl ⟨rfl, below_alloc HB.out _⟩
set_option maxHeartbeats 400000 in
set_option maxRecDepth 100000 in
theorem keys_calls (w : World) : Calls Tryd.prog 41 #[] w fun e w' => e = .returned (.agg (U kWords)) ∧ Below w.heap.size w w' := by
  have HB := Aside0.mk (Below.refl w.heap.size w)
  go_enter Tryd.func41, Tryd.ntmps41
  go_wp2_with (first
    | ((with_reducible refine gate_dst (N := 1) rfl ?_); refine Kd.event_run rfl (v := .agg (U kWords)) (w1 := w.alloc (.cells (U (List.replicate 64 0)) 60)) ?hr ?_; (case hr => kernel_rfl))
    | ((with_reducible refine gate_store (t := 60) (p := 0) (v := .tmp 1) rfl ?_); refine store_row rfl rfl rfl w.heap.size rfl (cs := U kWords) (old := U (List.replicate 64 0)) rfl (blk_new w _) (by rw [U_size]; exact info60) (by rw [U_size, U_size]; rfl) (U_one _) ?_; intro w5 e5))
  subst e5
  rw [World.setRow_alloc_new]
  refine bodyPost_ret (results_cell_row rfl _ _ w.heap.size 60 (U kWords) (0, 0) _ rfl (blk_new w _) und60 rfl (by rw [U_size]; exact info60)) rfl ⟨rfl, below_alloc HB.out _⟩
theorem ofInt_32_64 (x : Int) : BitVec.ofInt 32 x = (BitVec.ofInt 64 x).setWidth 32 := by
  apply BitVec.eq_of_toNat_eq
  rw [BitVec.toNat_setWidth, BitVec.toNat_ofInt, BitVec.toNat_ofInt]
  omega
theorem or_u32 (x y : Int) : Go.bits .or .u32 x y = Go.bits .or .i64 x y % 4294967296 := by
  have e : (BitVec.ofInt 32 x ||| BitVec.ofInt 32 y).toNat = (BitVec.ofInt 64 x ||| BitVec.ofInt 64 y).toNat % 2 ^ 32 := by
    rw [ofInt_32_64, ofInt_32_64, ← BitVec.setWidth_or, BitVec.toNat_setWidth]
  simp only [Go.bits, IntKind.wrap]
  show (if (IntKind.u32.signed && _) = true then _ else ((BitVec.ofInt 32 x ||| BitVec.ofInt 32 y).toNat : Int) % 2 ^ 32) = (if (true && decide (((BitVec.ofInt 64 x ||| BitVec.ofInt 64 y).toNat : Int) % 2 ^ 64 ≥ 2 ^ (64 - 1))) = true then ((BitVec.ofInt 64 x ||| BitVec.ofInt 64 y).toNat : Int) % 2 ^ 64 - 2 ^ 64 else ((BitVec.ofInt 64 x ||| BitVec.ofInt 64 y).toNat : Int) % 2 ^ 64) % 4294967296
  rw [e, if_neg (by simp [IntKind.signed])]
  have h := (BitVec.ofInt 64 x ||| BitVec.ofInt 64 y).isLt
  split
  · omega
  · omega
theorem bits_u32_mod (op : BinOp) (x y : Int) : Go.bits op .u32 (x % 4294967296) y = Go.bits op .u32 x y := by
  have : BitVec.ofInt 32 (x % 4294967296) = BitVec.ofInt 32 x := by
    apply BitVec.eq_of_toNat_eq
    rw [BitVec.toNat_ofInt, BitVec.toNat_ofInt]
    omega
  simp only [Go.bits, IntKind.bits, this]
theorem bits_u32_mod' (op : BinOp) (x y : Int) : Go.bits op .u32 x (y % 4294967296) = Go.bits op .u32 x y := by
  have : BitVec.ofInt 32 (y % 4294967296) = BitVec.ofInt 32 y := by
    apply BitVec.eq_of_toNat_eq
    rw [BitVec.toNat_ofInt, BitVec.toNat_ofInt]
    omega
  simp only [Go.bits, IntKind.bits, this]
theorem bt_rng (t : ByteArray) (i : Int) : 0 ≤ bt t i ∧ bt t i ≤ 255 := by
  unfold bt
  split
  · rename_i h
    have := (t[i.toNat]'h).toNat_lt
    constructor <;> omega
  · constructor <;> omega
theorem word_spec (t : ByteArray) (i : Int) :
    bits BinOp.or IntKind.u32 (bits BinOp.or IntKind.u32 (bits BinOp.or IntKind.u32 (bt t i % 4294967296 * 16777216 % 4294967296) (bt t (i + 1) % 4294967296 * 65536 % 4294967296)) (bt t (i + 2) % 4294967296 * 256 % 4294967296)) (bt t (i + 3) % 4294967296) = fourV t i % 4294967296 := by
  have m (x : Int) : x % 4294967296 % 4294967296 = x % 4294967296 := by omega
  have h0 := bt_rng t i
  have h1 := bt_rng t (i + 1)
  have h2 := bt_rng t (i + 2)
  have h3 := bt_rng t (i + 3)
  unfold fourV
  rw [w64 (x := bt t i) (by omega) (by omega), w64 (x := bt t (i + 1)) (by omega) (by omega), w64 (x := bt t (i + 2)) (by omega) (by omega), w64 (x := bt t (i + 3)) (by omega) (by omega),
    w64 (by omega) (by omega), w64 (by omega) (by omega), w64 (by omega) (by omega)]
  rw [show bt t i % 4294967296 = bt t i by omega, show bt t (i + 1) % 4294967296 = bt t (i + 1) by omega, show bt t (i + 2) % 4294967296 = bt t (i + 2) by omega]
  have key (x y z : Int) : bits .or .u32 (bits .or .i64 x y) z = bits .or .u32 (bits .or .u32 x y) z := by
    rw [← bits_u32_mod .or (bits .or .i64 x y) z, ← or_u32]
  rw [← or_u32, key, key]
  simp only [bits_u32_mod, bits_u32_mod']
theorem turn7 (x : Int) : spec_l03Turn.f x 7 = some (rl x (-7)) := by rw [rl_rr x (-7) 7 (by decide) (by decide)]; rfl
theorem turnAll (x n k : Int) (h : Go.bits .and .u64 (IntKind.u64.wrap k) 31 = 32 - n) (h2 : IntKind.u64.wrap n = n) (h0 : 0 ≤ n) (h3 : IntKind.u64.wrap (32 - n) = 32 - n) (h4 : 0 ≤ 32 - n) : spec_l03Turn.f x n = some (rl x k) := by
  rw [rl_rr x k n h h2]; unfold spec_l03Turn.f; rw [if_pos h0, h3, if_pos h4]
theorem t7 (x : Int) : spec_l03Turn.f x 7 = some (rl x (-7)) := turnAll x 7 (-7) (by decide) (by decide) (by decide) (by decide) (by decide)
theorem t18 (x : Int) : spec_l03Turn.f x 18 = some (rl x (-18)) := turnAll x 18 (-18) (by decide) (by decide) (by decide) (by decide) (by decide)
theorem t17 (x : Int) : spec_l03Turn.f x 17 = some (rl x (-17)) := turnAll x 17 (-17) (by decide) (by decide) (by decide) (by decide) (by decide)
theorem t19 (x : Int) : spec_l03Turn.f x 19 = some (rl x (-19)) := turnAll x 19 (-19) (by decide) (by decide) (by decide) (by decide) (by decide)
theorem t6 (x : Int) : spec_l03Turn.f x 6 = some (rl x (-6)) := turnAll x 6 (-6) (by decide) (by decide) (by decide) (by decide) (by decide)
theorem t11 (x : Int) : spec_l03Turn.f x 11 = some (rl x (-11)) := turnAll x 11 (-11) (by decide) (by decide) (by decide) (by decide) (by decide)
theorem t25 (x : Int) : spec_l03Turn.f x 25 = some (rl x (-25)) := turnAll x 25 (-25) (by decide) (by decide) (by decide) (by decide) (by decide)
theorem t2 (x : Int) : spec_l03Turn.f x 2 = some (rl x (-2)) := turnAll x 2 (-2) (by decide) (by decide) (by decide) (by decide) (by decide)
theorem t13 (x : Int) : spec_l03Turn.f x 13 = some (rl x (-13)) := turnAll x 13 (-13) (by decide) (by decide) (by decide) (by decide) (by decide)
theorem t22 (x : Int) : spec_l03Turn.f x 22 = some (rl x (-22)) := turnAll x 22 (-22) (by decide) (by decide) (by decide) (by decide) (by decide)
theorem turn_q (x n k : Int) (h : spec_l03Turn.f x n = some (rl x k)) (w : World) (m : Nat) : Calls Tryd.prog 51 #[.int .u32 x, .int .u64 n] (w.drewN m) fun e w'' => e = .returned (.int .u32 (rl x k)) ∧ ∃ m', w'' = w.drewN m' := by
  refine Calls.quiet_of ((spec_l03Turn.calls x n _ _ h).mono ?_)
  rintro e w1 ⟨rfl, ⟨nd, rfl⟩⟩
  exact ⟨rfl, nd, rfl⟩
def rv8 (w : World) (g : Nat) (x0 x1 x2 x3 x4 x5 x6 x7 : Int) : World :=
  (((((((w.setCell ⟨g, 7, none⟩ (.int .u32 x7)).setCell ⟨g, 6, none⟩ (.int .u32 x6)).setCell ⟨g, 5, none⟩ (.int .u32 x5)).setCell ⟨g, 4, none⟩ (.int .u32 x4)).setCell ⟨g, 3, none⟩ (.int .u32 x3)).setCell ⟨g, 2, none⟩ (.int .u32 x2)).setCell ⟨g, 1, none⟩ (.int .u32 x1)).setCell ⟨g, 0, none⟩ (.int .u32 x0)
theorem rv8_blk {w : World} {g t : Nat} {a0 a1 a2 a3 a4 a5 a6 a7 : Int} (h : w.heap[g]? = some (.cells (U [a0, a1, a2, a3, a4, a5, a6, a7]) t (0, 0))) (x0 x1 x2 x3 x4 x5 x6 x7 : Int) :
    (rv8 w g x0 x1 x2 x3 x4 x5 x6 x7).heap[g]? = some (.cells (U [x0, x1, x2, x3, x4, x5, x6, x7]) t (0, 0)) :=
  U_put (U_put (U_put (U_put (U_put (U_put (U_put (U_put h 7 x7) 6 x6) 5 x5) 4 x4) 3 x3) 2 x2) 1 x1) 0 x0
theorem rv8_far {w : World} {g g' t : Nat} {cs : Array Value} (h : w.heap[g']? = some (.cells cs t (0, 0))) (hg : g' ≠ g) (x0 x1 x2 x3 x4 x5 x6 x7 : Int) :
    (rv8 w g x0 x1 x2 x3 x4 x5 x6 x7).heap[g']? = some (.cells cs t (0, 0)) :=
  blk_far (blk_far (blk_far (blk_far (blk_far (blk_far (blk_far (blk_far h (p := ⟨g, 7, none⟩) hg _) (p := ⟨g, 6, none⟩) hg _) (p := ⟨g, 5, none⟩) hg _) (p := ⟨g, 4, none⟩) hg _) (p := ⟨g, 3, none⟩) hg _) (p := ⟨g, 2, none⟩) hg _) (p := ⟨g, 1, none⟩) hg _) (p := ⟨g, 0, none⟩) hg _
theorem rv8_below {w W : World} {g : Nat} (h : Below w.heap.size w W) (hg : w.heap.size ≤ g) (x0 x1 x2 x3 x4 x5 x6 x7 : Int) : Below w.heap.size w (rv8 W g x0 x1 x2 x3 x4 x5 x6 x7) :=
  below_set (below_set (below_set (below_set (below_set (below_set (below_set (below_set h hg) hg) hg) hg) hg) hg) hg) hg
theorem not_comm (e : Int) : bits BinOp.xor IntKind.u32 e 4294967295 = bits BinOp.xor IntKind.u32 IntKind.u32.max e := by
  have : IntKind.u32.max = 4294967295 := by decide
  rw [this]
  simp [Go.bits, BitVec.xor_comm]
theorem outs_getD (l v : List Int) (n : Nat) (h : l.length = 8) (hn : n < 8) : (outs l v n).getD n 0 = l.getD n 0 := by
  have := outs_at l v n h hn
  unfold rdOf at this
  rwa [Int.toNat_natCast] at this
theorem outs_len (l v : List Int) (n : Nat) (h : l.length = 8) (hn : n ≤ 8) : (outs l v n).length = 8 := by
  unfold outs; simp; omega
set_option maxHeartbeats 2000000 in
set_option maxRecDepth 100000 in
theorem block_calls (h0 : List Int) (a1 : ByteArray) (w : World) (h8 : h0.length = 8) (h64 : a1.size = 64) :
    Calls Tryd.prog 43 #[.agg (U h0), .string a1, .agg (U kWords)] w fun e w' => e = .returned (.agg (U (shaB h0 a1))) ∧ Below w.heap.size w w' := by
  have HB := Aside0.mk (Below.refl w.heap.size w)
  have H8 := Aside0.mk h8
  have H64 := Aside0.mk h64
  clear h8 h64
  generalize hks : kWords = ks
  have HK := Aside0.mk hks
  clear hks
  go_enter Tryd.func43, Tryd.ntmps43
  go_wp2_with (first
    | ((with_reducible refine gate_dst (N := 3) rfl ?_); refine box_event rfl (N := 3) rfl (cs := U h0) (t := 58) rfl ?_; intro g3 hg w3 hbox hb; have B3 := Aside0.mk hbox; have G3 := Aside0.mk (by rw [hg]; exact below_size HB.out : w.heap.size ≤ g3); have n1_ := Aside0.mk (below_step HB.out hb); clear HB; have HB := n1_; clear n1_ hbox hb hg)
    | ((with_reducible refine gate_dst (N := 5) rfl ?_); refine box_event rfl (N := 5) rfl (cs := U ks) (t := 60) rfl ?_; intro g5 hg w5 hbox hb; have B5 := Aside0.mk hbox; have G5 := Aside0.mk (by rw [hg]; exact below_size HB.out : w.heap.size ≤ g5); have n1_ := Aside0.mk (below_step HB.out hb); have n2_ := Aside0.mk (blk_below B3.out hb); have N35 := Aside0.mk (by rw [hg]; exact Nat.ne_of_lt (blk_lt B3.out) : g3 ≠ g5); clear HB B3; have HB := n1_; have B3 := n2_; clear n1_ n2_ hbox hb hg)
    | ((with_reducible refine gate_dst (N := 6) rfl ?_); refine box_event rfl (N := 6) rfl (cs := U (List.replicate 8 0)) (t := 58) (by kernel_rfl) ?_; intro g6 hg w6 hbox hb; have B6 := Aside0.mk hbox; have G6 := Aside0.mk (by rw [hg]; exact below_size HB.out : w.heap.size ≤ g6); have n1_ := Aside0.mk (below_step HB.out hb); have n2_ := Aside0.mk (blk_below B3.out hb); have n3_ := Aside0.mk (blk_below B5.out hb); have N36 := Aside0.mk (by rw [hg]; exact Nat.ne_of_lt (blk_lt B3.out) : g3 ≠ g6); have N56 := Aside0.mk (by rw [hg]; exact Nat.ne_of_lt (blk_lt B5.out) : g5 ≠ g6); clear HB B3 B5; have HB := n1_; have B3 := n2_; have B5 := n3_; clear n1_ n2_ n3_ hbox hb hg)
    | ((with_reducible refine gate_dst (N := 21) rfl ?_); refine Kd.event_run rfl (v := .agg (U (List.replicate 64 0))) (w1 := w6) (by kernel_rfl) ?_)
    | ((with_reducible refine gate_dst (N := 7) rfl ?_); refine box_event rfl (N := 7) rfl (cs := U (List.replicate 64 0)) (t := 60) (by kernel_rfl) ?_; intro g7 hg w7 hbox hb; have B7 := Aside0.mk hbox; have G7 := Aside0.mk (by rw [hg]; exact below_size HB.out : w.heap.size ≤ g7); have n1_ := Aside0.mk (below_step HB.out hb); have n2_ := Aside0.mk (blk_below B3.out hb); have n3_ := Aside0.mk (blk_below B5.out hb); have n4_ := Aside0.mk (blk_below B6.out hb); have N37 := Aside0.mk (by rw [hg]; exact Nat.ne_of_lt (blk_lt B3.out) : g3 ≠ g7); have N57 := Aside0.mk (by rw [hg]; exact Nat.ne_of_lt (blk_lt B5.out) : g5 ≠ g7); have N67 := Aside0.mk (by rw [hg]; exact Nat.ne_of_lt (blk_lt B6.out) : g6 ≠ g7); clear HB B3 B5 B6; have HB := n1_; have B3 := n2_; have B5 := n3_; have B6 := n4_; clear n1_ n2_ n3_ n4_ hbox hb hg)
    | ((with_reducible refine gate_store (t := 60) (p := 7) (v := .tmp 21) rfl ?_); refine store_row rfl rfl rfl g7 rfl (cs := U (List.replicate 64 0)) (old := U (List.replicate 64 0)) rfl B7.out (by rw [U_size]; exact info60) rfl (U_one _) ?_; intro w8 e8; rw [setRow_self _ _ _ _ _ B7.out] at e8; subst e8))
  go_loopg [8] 16 (fun kq v8 w' => ∃ (j : Nat), v8 = .int .i64 j ∧ Aside0 (j + kq = 16) ∧ Aside0 (w'.heap[g3]? = some (.cells (U h0) 58 (0, 0))) ∧ Aside0 (w'.heap[g5]? = some (.cells (U ks) 60 (0, 0))) ∧ Aside0 (w'.heap[g6]? = some (.cells (U (List.replicate 8 0)) 58 (0, 0))) ∧ Aside0 (w'.heap[g7]? = some (.cells (U ((List.range j).map (wordOf a1) ++ List.replicate (64 - j) 0)) 60 (0, 0))) ∧ Aside0 (Below w.heap.size w w'))
  case atStart => exact ⟨0, rfl, ⟨rfl⟩, B3, B5, B6, B7, HB⟩
  case round =>
    clear B3 B5 B6 B7 HB
    obtain ⟨j, rfl, HJ, B3, B5, B6, B7, HB⟩ := hrel
    cases gk with
    | succ k1 =>
      have hj : j < 16 := by have := HJ.out; omega
      have hjl : decide ((j : Int) < 16) = true := decide_eq_true (by omega)
      have hcv : ∃ u, wr.cell? ⟨g7, j, none⟩ = some (.int .u32 u) := ⟨_, U_cell B7.out j (by simp; omega)⟩
      obtain ⟨u, hcv⟩ := hcv
      have hfz := blk_frozen B7.out j
      obtain ⟨x0, hx0⟩ : ∃ x0, 4 * (j : Int) = x0 := ⟨_, rfl⟩
      have hw0 : IntKind.i64.wrap (4 * (j : Int)) = x0 := by rw [i64_w, w64 (by omega) (by omega), hx0]
      obtain ⟨x1, hx1⟩ : ∃ x1, x0 + 1 = x1 := ⟨_, rfl⟩
      have hw1 : IntKind.i64.wrap (x0 + 1) = x1 := by rw [i64_w, w64 (by omega) (by omega), hx1]
      obtain ⟨x2, hx2⟩ : ∃ x2, x0 + 2 = x2 := ⟨_, rfl⟩
      have hw2 : IntKind.i64.wrap (x0 + 2) = x2 := by rw [i64_w, w64 (by omega) (by omega), hx2]
      obtain ⟨x3, hx3⟩ : ∃ x3, x0 + 3 = x3 := ⟨_, rfl⟩
      have hw3 : IntKind.i64.wrap (x0 + 3) = x3 := by rw [i64_w, w64 (by omega) (by omega), hx3]
      have h64 := H64.out
      have p0 := eq_true (show 0 ≤ x0 by omega)
      have q0 := eq_true (show x0 < (a1.size : Int) by omega)
      have p1 := eq_true (show 0 ≤ x1 by omega)
      have q1 := eq_true (show x1 < (a1.size : Int) by omega)
      have p2 := eq_true (show 0 ≤ x2 by omega)
      have q2 := eq_true (show x2 < (a1.size : Int) by omega)
      have p3 := eq_true (show 0 ≤ x3 by omega)
      have q3 := eq_true (show x3 < (a1.size : Int) by omega)
      have b0 := bt_at a1 x0
      have b1 := bt_at a1 x1
      have b2 := bt_at a1 x2
      have b3 := bt_at a1 x3
      have X0 := Aside0.mk hx0
      have X1 := Aside0.mk hx1
      have X2 := Aside0.mk hx2
      have X3 := Aside0.mk hx3
      clear hx0 hx1 hx2 hx3 h64
      go_wp2_with (fail)
      go_region
      go_wp2
      go_roundg k1
      case measure => have := HJ.out; omega
      case rel =>
        have hv := word_spec a1 x0
        rw [X1.out, X2.out, X3.out, ← X0.out] at hv
        rw [X0.out] at hv
        refine ⟨j + 1, by simp, ⟨by have := HJ.out; omega⟩, ⟨?_⟩, ⟨?_⟩, ⟨?_⟩, ⟨?_⟩, ⟨?_⟩⟩
        · exact blk_drew (blk_far B3.out N37.out _)
        · exact blk_drew (blk_far B5.out N57.out _)
        · exact blk_drew (blk_far B6.out N67.out _)
        · rw [← words_set (wordOf a1) 64 j (by omega)]
          rw [hv]
          have e_ : fourV a1 x0 % 4294967296 = wordOf a1 j := by unfold wordOf; rw [X0.out]
          rw [e_]
          exact blk_drew (U_put B7.out j _)
        · exact below_drew1 (below_set HB.out G7.out)
    | zero =>
      obtain rfl : j = 16 := HJ.out
      go_wp2_with (fail)
      go_loopg [9] 48 (fun kq v9 w' => ∃ (m : Nat), v9 = .int .i64 m ∧ Aside0 (m + kq = 64 ∧ 16 ≤ m) ∧ Aside0 (w'.heap[g3]? = some (.cells (U h0) 58 (0, 0))) ∧ Aside0 (w'.heap[g5]? = some (.cells (U ks) 60 (0, 0))) ∧ Aside0 (w'.heap[g6]? = some (.cells (U (List.replicate 8 0)) 58 (0, 0))) ∧ Aside0 (w'.heap[g7]? = some (.cells (U (sch a1 (m - 16))) 60 (0, 0))) ∧ Aside0 (Below w.heap.size w w'))
      case atStart => exact ⟨16, rfl, ⟨rfl, by omega⟩, B3, B5, B6, B7, HB⟩
      case round =>
        clear B3 B5 B6 B7 HB HJ
        obtain ⟨m, rfl, HJ, B3, B5, B6, B7, HB⟩ := hrel
        cases gk with
        | succ k1 =>
          have hm1 : m < 64 := by have := HJ.out; omega
          have hm0 : 16 ≤ m := HJ.out.2
          have hjl : decide ((m : Int) < 64) = true := decide_eq_true (by omega)
          go_wp2_with (fail)
          have e15 : IntKind.i64.wrap ((m : Int) - 15) = ((m - 15 : Nat) : Int) := by simp [IntKind.wrap, IntKind.bits, IntKind.signed]; omega
          have hc15 := U_cell B7.out (m - 15) (by rw [sch_len]; omega)
          have i15 : m - 15 < 64 := by omega
          have hwa : ∃ wa, (sch a1 (m - 16)).getD (m - 15) 0 = wa := ⟨_, rfl⟩
          obtain ⟨wa, hwa⟩ := hwa
          rw [hwa] at hc15
          have HWA := Aside0.mk hwa
          clear hwa
          go_quiet ((go_at_call 51; first | (with_reducible exact turn_q _ 7 _ (t7 _) _ _) | (with_reducible exact turn_q _ 18 _ (t18 _) _ _)))
          obtain ⟨xa, hxa⟩ : ∃ xa, bits BinOp.xor IntKind.u32 (bits BinOp.xor IntKind.u32 (rl wa (-7)) (rl wa (-18))) (wa / 8) = xa := ⟨_, rfl⟩
          try rw [hxa]
          have HXA := Aside0.mk hxa
          clear hxa
          go_wp2_with (fail)
          have n3_ := Aside0.mk (blk_drewN B3.out nq)
          have n5_ := Aside0.mk (blk_drewN B5.out nq)
          have n6_ := Aside0.mk (blk_drewN B6.out nq)
          have n7_ := Aside0.mk (blk_drewN B7.out nq)
          have nb_ := Aside0.mk (pw_below_drewN HB.out nq)
          clear B3 B5 B6 B7 HB hc15 e15 i15
          generalize wr.drewN nq = wq at n3_ n5_ n6_ n7_ nb_ ⊢
          have B3 := n3_
          have B5 := n5_
          have B6 := n6_
          have B7 := n7_
          have HB := nb_
          clear n3_ n5_ n6_ n7_ nb_
          have e2 : IntKind.i64.wrap ((m : Int) - 2) = ((m - 2 : Nat) : Int) := by simp [IntKind.wrap, IntKind.bits, IntKind.signed]; omega
          have hc2 := U_cell B7.out (m - 2) (by rw [sch_len]; omega)
          have i2 : m - 2 < 64 := by omega
          have hwb : ∃ wb, (sch a1 (m - 16)).getD (m - 2) 0 = wb := ⟨_, rfl⟩
          obtain ⟨wb, hwb⟩ := hwb
          rw [hwb] at hc2
          have HWB := Aside0.mk hwb
          clear hwb
          go_quiet ((go_at_call 51; first | (with_reducible exact turn_q _ 17 _ (t17 _) _ _) | (with_reducible exact turn_q _ 19 _ (t19 _) _ _)))
          obtain ⟨xb, hxb⟩ : ∃ xb, bits BinOp.xor IntKind.u32 (bits BinOp.xor IntKind.u32 (rl wb (-17)) (rl wb (-19))) (wb / 1024) = xb := ⟨_, rfl⟩
          try rw [hxb]
          have HXB := Aside0.mk hxb
          clear hxb
          go_wp2_with (fail)
          rename_i nq1
          have n3_ := Aside0.mk (blk_drewN B3.out nq)
          have n5_ := Aside0.mk (blk_drewN B5.out nq)
          have n6_ := Aside0.mk (blk_drewN B6.out nq)
          have n7_ := Aside0.mk (blk_drewN B7.out nq)
          have nb_ := Aside0.mk (pw_below_drewN HB.out nq)
          clear B3 B5 B6 B7 HB hc2 e2 i2
          generalize wq.drewN nq = wz at n3_ n5_ n6_ n7_ nb_ ⊢
          have B3 := n3_
          have B5 := n5_
          have B6 := n6_
          have B7 := n7_
          have HB := nb_
          clear n3_ n5_ n6_ n7_ nb_
          have e16 : IntKind.i64.wrap ((m : Int) - 16) = ((m - 16 : Nat) : Int) := by simp [IntKind.wrap, IntKind.bits, IntKind.signed]; omega
          have e7 : IntKind.i64.wrap ((m : Int) - 7) = ((m - 7 : Nat) : Int) := by simp [IntKind.wrap, IntKind.bits, IntKind.signed]; omega
          have hc16 := U_cell B7.out (m - 16) (by rw [sch_len]; omega)
          have hc7 := U_cell B7.out (m - 7) (by rw [sch_len]; omega)
          have hcm := U_cell B7.out m (by rw [sch_len]; omega)
          have hfm := blk_frozen B7.out m
          have i16 : m - 16 < 64 := by omega
          have i7 : m - 7 < 64 := by omega
          generalize hwc : (sch a1 (m - 16)).getD (m - 16) 0 = wc at hc16
          generalize hwd : (sch a1 (m - 16)).getD (m - 7) 0 = wd at hc7
          generalize hwe : (sch a1 (m - 16)).getD m 0 = we at hcm
          have HWC := Aside0.mk hwc
          have HWD := Aside0.mk hwd
          clear hwc hwd hwe
          go_region
          go_wp2
          go_roundg k1
          case measure => have := HJ.out; omega
          case rel =>
            refine ⟨m + 1, by simp, ⟨by have := HJ.out; omega⟩, ⟨?_⟩, ⟨?_⟩, ⟨?_⟩, ⟨?_⟩, ⟨?_⟩⟩
            · exact blk_drew (blk_far B3.out N37.out _)
            · exact blk_drew (blk_far B5.out N57.out _)
            · exact blk_drew (blk_far B6.out N67.out _)
            · rw [show sch a1 (m + 1 - 16) = (sch a1 (m - 16)).set m ((wc + xa + wd + xb) % 4294967296) by
                rw [show m + 1 - 16 = (m - 16) + 1 by omega]
                show stepW (sch a1 (m - 16)) (16 + (m - 16)) = _
                unfold stepW
                rw [show 16 + (m - 16) = m by omega, HWA.out, HWB.out, HWC.out, HWD.out]
                unfold sg0 sg1
                rw [HXA.out, HXB.out]]
              exact blk_drew (U_put B7.out m _)
            · exact below_drew1 (below_set HB.out G7.out)
        | zero =>
          obtain rfl : m = 64 := by have := HJ.out.1; omega
          go_wp2_with (first
            | ((with_reducible refine gate_dst (N := 110) rfl ?_); refine load_row rfl rfl (t := 58) (p := .tmp 3) rfl g3 rfl B3.out und58 (by rw [U_size, H8.out]; exact info58) ?_)
            | ((with_reducible refine gate_dst (N := 12) rfl ?_); refine box_event rfl (N := 12) rfl (cs := U (List.replicate 8 0)) (t := 58) (by kernel_rfl) ?_; intro g12 hg w12 hbox hb; have B12 := Aside0.mk hbox; have G12 := Aside0.mk (by rw [hg]; exact below_size HB.out : w.heap.size ≤ g12); have n1_ := Aside0.mk (below_step HB.out hb); have n2_ := Aside0.mk (blk_below B3.out hb); have n3_ := Aside0.mk (blk_below B5.out hb); have n4_ := Aside0.mk (blk_below B6.out hb); have n5_ := Aside0.mk (blk_below B7.out hb); have M3 := Aside0.mk (by rw [hg]; exact Nat.ne_of_lt (blk_lt B3.out) : g3 ≠ g12); have M5 := Aside0.mk (by rw [hg]; exact Nat.ne_of_lt (blk_lt B5.out) : g5 ≠ g12); have M6 := Aside0.mk (by rw [hg]; exact Nat.ne_of_lt (blk_lt B6.out) : g6 ≠ g12); have M7 := Aside0.mk (by rw [hg]; exact Nat.ne_of_lt (blk_lt B7.out) : g7 ≠ g12); clear HB B3 B5 B6 B7; have HB := n1_; have B3 := n2_; have B5 := n3_; have B6 := n4_; have B7 := n5_; clear n1_ n2_ n3_ n4_ n5_ hbox hb hg)
            | ((with_reducible refine gate_store (t := 58) (p := 12) (v := .tmp 110) rfl ?_); refine store_row rfl rfl rfl g12 rfl (cs := U h0) (old := U (List.replicate 8 0)) rfl B12.out (by rw [U_size, H8.out]; exact info58) (by rw [U_size, U_size, H8.out]; rfl) (U_one _) ?_; intro w13 e13; have n0_ := Aside0.mk (show w13.heap[g12]? = some (.cells (U h0) 58 (0, 0)) by rw [e13]; exact setRow_heap _ _ _ _ _ _ B12.out); have n1_ := Aside0.mk (show Below w.heap.size w w13 by rw [e13]; exact below_setRow HB.out G12.out _); have n2_ := Aside0.mk (show w13.heap[g3]? = some (.cells (U h0) 58 (0, 0)) by rw [e13, setRow_other _ _ _ _ M3.out]; exact B3.out); have n3_ := Aside0.mk (show w13.heap[g5]? = some (.cells (U ks) 60 (0, 0)) by rw [e13, setRow_other _ _ _ _ M5.out]; exact B5.out); have n4_ := Aside0.mk (show w13.heap[g6]? = some (.cells (U (List.replicate 8 0)) 58 (0, 0)) by rw [e13, setRow_other _ _ _ _ M6.out]; exact B6.out); have n5_ := Aside0.mk (show w13.heap[g7]? = some (.cells (U (sch a1 48)) 60 (0, 0)) by rw [e13, setRow_other _ _ _ _ M7.out]; exact B7.out); clear HB B3 B5 B6 B7 B12 e13; have B12 := n0_; have HB := n1_; have B3 := n2_; have B5 := n3_; have B6 := n4_; have B7 := n5_; clear n0_ n1_ n2_ n3_ n4_ n5_))
          go_loopg [13] 64 (fun kq v13 w' => ∃ (n : Nat) (v0 v1 v2' v3 v4 v5 v6 v7 : Int), v13 = .int .i64 n ∧ Aside0 (n + kq = 64) ∧ Aside0 (rnds h0 (sch a1 48) n = [v0, v1, v2', v3, v4, v5, v6, v7]) ∧ Aside0 (w'.heap[g3]? = some (.cells (U h0) 58 (0, 0))) ∧ Aside0 (w'.heap[g5]? = some (.cells (U ks) 60 (0, 0))) ∧ Aside0 (w'.heap[g6]? = some (.cells (U (List.replicate 8 0)) 58 (0, 0))) ∧ Aside0 (w'.heap[g7]? = some (.cells (U (sch a1 48)) 60 (0, 0))) ∧ Aside0 (w'.heap[g12]? = some (.cells (U [v0, v1, v2', v3, v4, v5, v6, v7]) 58 (0, 0))) ∧ Aside0 (Below w.heap.size w w'))
          case atStart =>
            obtain ⟨v0, v1, v2', v3, v4, v5, v6, v7, e8⟩ := eight h0 H8.out
            exact ⟨0, v0, v1, v2', v3, v4, v5, v6, v7, rfl, ⟨rfl⟩, ⟨e8⟩, B3, B5, B6, B7, ⟨by rw [← e8]; exact B12.out⟩, HB⟩
          case round =>
            clear B3 B5 B6 B7 B12 HB HJ
            obtain ⟨n, a0, b1, a2, a3, a4, a5, a6, a7, rfl, HJ, HRN, B3, B5, B6, B7, B12, HB⟩ := hrel
            cases gk with
            | succ k1 =>
              have hn : n < 64 := by have := HJ.out; omega
              have hjl : decide ((n : Int) < 64) = true := decide_eq_true (by omega)
              go_wp2_with (fail)
              have hc4 : wr.cell? ⟨g12, 4, none⟩ = some (.int .u32 a4) := U_cell B12.out 4 (by simp)
              go_quiet ((go_at_call 51; first | (with_reducible exact turn_q _ 6 _ (t6 _) _ _) | (with_reducible exact turn_q _ 11 _ (t11 _) _ _) | (with_reducible exact turn_q _ 25 _ (t25 _) _ _)))
              obtain ⟨s1, hs1⟩ : ∃ x, bits BinOp.xor IntKind.u32 (bits BinOp.xor IntKind.u32 (rl a4 (-6)) (rl a4 (-11))) (rl a4 (-25)) = x := ⟨_, rfl⟩
              try rw [hs1]
              have HS1 := Aside0.mk (show S1 a4 = s1 from hs1)
              clear hs1 hc4
              have n_B3 := Aside0.mk (blk_drewN B3.out nq)
              have n_B5 := Aside0.mk (blk_drewN B5.out nq)
              have n_B6 := Aside0.mk (blk_drewN B6.out nq)
              have n_B7 := Aside0.mk (blk_drewN B7.out nq)
              have n_B12 := Aside0.mk (blk_drewN B12.out nq)
              have n_HB := Aside0.mk (pw_below_drewN HB.out nq)
              clear B3 B5 B6 B7 B12 HB
              generalize wr.drewN nq = wq at n_B3 n_B5 n_B6 n_B7 n_B12 n_HB ⊢
              have B3 := n_B3
              have B5 := n_B5
              have B6 := n_B6
              have B7 := n_B7
              have B12 := n_B12
              have HB := n_HB
              clear n_B3 n_B5 n_B6 n_B7 n_B12 n_HB
              have hc0 : wq.cell? ⟨g12, 0, none⟩ = some (.int .u32 a0) := U_cell B12.out 0 (by simp)
              have hc1 : wq.cell? ⟨g12, 1, none⟩ = some (.int .u32 b1) := U_cell B12.out 1 (by simp)
              have hc2 : wq.cell? ⟨g12, 2, none⟩ = some (.int .u32 a2) := U_cell B12.out 2 (by simp)
              have hc3 : wq.cell? ⟨g12, 3, none⟩ = some (.int .u32 a3) := U_cell B12.out 3 (by simp)
              have hc4 : wq.cell? ⟨g12, 4, none⟩ = some (.int .u32 a4) := U_cell B12.out 4 (by simp)
              have hc5 : wq.cell? ⟨g12, 5, none⟩ = some (.int .u32 a5) := U_cell B12.out 5 (by simp)
              have hc6 : wq.cell? ⟨g12, 6, none⟩ = some (.int .u32 a6) := U_cell B12.out 6 (by simp)
              have hc7 : wq.cell? ⟨g12, 7, none⟩ = some (.int .u32 a7) := U_cell B12.out 7 (by simp)
              go_wp2_with (fail)
              obtain ⟨ch, hch⟩ : ∃ x, bits BinOp.xor IntKind.u32 (bits BinOp.and IntKind.u32 a4 a5) (bits BinOp.and IntKind.u32 (bits BinOp.xor IntKind.u32 a4 4294967295) a6) = x := ⟨_, rfl⟩
              try rw [hch]
              have HCH := Aside0.mk hch
              clear hch
              have hk := U_cell B5.out n (by rw [← HK.out]; exact hn)
              have hw := U_cell B7.out n (by rw [sch_len]; omega)
              obtain ⟨kk, hkk⟩ : ∃ kk, ks.getD n 0 = kk := ⟨_, rfl⟩
              obtain ⟨ww, hww⟩ : ∃ ww, (sch a1 48).getD n 0 = ww := ⟨_, rfl⟩
              rw [hkk] at hk
              rw [hww] at hw
              have HKK := Aside0.mk hkk
              have HWW := Aside0.mk hww
              clear hkk hww
              go_quiet (fail)
              go_wp2_with (fail)
              rename_i nq1
              obtain ⟨one, hone⟩ : ∃ x, ((a7 + s1 + ch + kk) % 4294967296 + ww) % 4294967296 = x := ⟨_, rfl⟩
              rw [hone]
              have HONE := Aside0.mk (show (a7 + s1 + ch + kk + ww) % 4294967296 = one by omega)
              clear hone hc0 hc1 hc2 hc3 hc4 hc5 hc6 hc7 hk hw
              have n_B3 := Aside0.mk (blk_drewN B3.out nq)
              have n_B5 := Aside0.mk (blk_drewN B5.out nq)
              have n_B6 := Aside0.mk (blk_drewN B6.out nq)
              have n_B7 := Aside0.mk (blk_drewN B7.out nq)
              have n_B12 := Aside0.mk (blk_drewN B12.out nq)
              have n_HB := Aside0.mk (pw_below_drewN HB.out nq)
              clear B3 B5 B6 B7 B12 HB
              generalize wq.drewN nq = wy at n_B3 n_B5 n_B6 n_B7 n_B12 n_HB ⊢
              have B3 := n_B3
              have B5 := n_B5
              have B6 := n_B6
              have B7 := n_B7
              have B12 := n_B12
              have HB := n_HB
              clear n_B3 n_B5 n_B6 n_B7 n_B12 n_HB
              have hc0 : wy.cell? ⟨g12, 0, none⟩ = some (.int .u32 a0) := U_cell B12.out 0 (by simp)
              go_quiet ((go_at_call 51; first | (with_reducible exact turn_q _ 2 _ (t2 _) _ _) | (with_reducible exact turn_q _ 13 _ (t13 _) _ _) | (with_reducible exact turn_q _ 22 _ (t22 _) _ _)))
              obtain ⟨s0, hs0⟩ : ∃ x, bits BinOp.xor IntKind.u32 (bits BinOp.xor IntKind.u32 (rl a0 (-2)) (rl a0 (-13))) (rl a0 (-22)) = x := ⟨_, rfl⟩
              try rw [hs0]
              have HS0 := Aside0.mk (show S0 a0 = s0 from hs0)
              clear hs0 hc0
              rename_i nq2
              have n_B3 := Aside0.mk (blk_drewN B3.out nq)
              have n_B5 := Aside0.mk (blk_drewN B5.out nq)
              have n_B6 := Aside0.mk (blk_drewN B6.out nq)
              have n_B7 := Aside0.mk (blk_drewN B7.out nq)
              have n_B12 := Aside0.mk (blk_drewN B12.out nq)
              have n_HB := Aside0.mk (pw_below_drewN HB.out nq)
              clear B3 B5 B6 B7 B12 HB
              generalize wy.drewN nq = wx at n_B3 n_B5 n_B6 n_B7 n_B12 n_HB ⊢
              have B3 := n_B3
              have B5 := n_B5
              have B6 := n_B6
              have B7 := n_B7
              have B12 := n_B12
              have HB := n_HB
              clear n_B3 n_B5 n_B6 n_B7 n_B12 n_HB
              have hc0 : wx.cell? ⟨g12, 0, none⟩ = some (.int .u32 a0) := U_cell B12.out 0 (by simp)
              have hc1 : wx.cell? ⟨g12, 1, none⟩ = some (.int .u32 b1) := U_cell B12.out 1 (by simp)
              have hc2 : wx.cell? ⟨g12, 2, none⟩ = some (.int .u32 a2) := U_cell B12.out 2 (by simp)
              have hc3 : wx.cell? ⟨g12, 3, none⟩ = some (.int .u32 a3) := U_cell B12.out 3 (by simp)
              have hc4 : wx.cell? ⟨g12, 4, none⟩ = some (.int .u32 a4) := U_cell B12.out 4 (by simp)
              have hc5 : wx.cell? ⟨g12, 5, none⟩ = some (.int .u32 a5) := U_cell B12.out 5 (by simp)
              have hc6 : wx.cell? ⟨g12, 6, none⟩ = some (.int .u32 a6) := U_cell B12.out 6 (by simp)
              have hc7 : wx.cell? ⟨g12, 7, none⟩ = some (.int .u32 a7) := U_cell B12.out 7 (by simp)
              have hfz0 := blk_frozen B12.out 0
              have hfz1 := blk_frozen B12.out 1
              have hfz2 := blk_frozen B12.out 2
              have hfz3 := blk_frozen B12.out 3
              have hfz4 := blk_frozen B12.out 4
              have hfz5 := blk_frozen B12.out 5
              have hfz6 := blk_frozen B12.out 6
              have hfz7 := blk_frozen B12.out 7
              go_wp2_with (fail)
              go_roundg k1
              case measure => have := HJ.out; omega
              case rel =>
                refine ⟨n + 1, _, _, _, _, _, _, _, _, by simp, ⟨by have := HJ.out; omega⟩, ⟨?_⟩, ⟨rv8_far B3.out M3.out _ _ _ _ _ _ _ _⟩, ⟨rv8_far B5.out M5.out _ _ _ _ _ _ _ _⟩, ⟨rv8_far B6.out M6.out _ _ _ _ _ _ _ _⟩, ⟨rv8_far B7.out M7.out _ _ _ _ _ _ _ _⟩, ⟨rv8_blk B12.out _ _ _ _ _ _ _ _⟩, ⟨rv8_below HB.out G12.out _ _ _ _ _ _ _ _⟩⟩
                have hch : Ch a4 a5 a6 = ch := by unfold Ch; rw [← not_comm]; exact HCH.out
                have e1 : (a7 + S1 a4 + Ch a4 a5 a6 + kk + ww + S0 a0 + Mj a0 b1 a2) % 4294967296 = (one + (s0 + Mj a0 b1 a2)) % 4294967296 := by
                  have h1 := HONE.out
                  rw [HS1.out, HS0.out, hch]; omega
                have e4 : (a3 + (a7 + S1 a4 + Ch a4 a5 a6 + kk + ww)) % 4294967296 = (a3 + one) % 4294967296 := by
                  have h1 := HONE.out
                  rw [HS1.out, hch]; omega
                show rnd (rnds h0 (sch a1 48) n) (kWords.getD n 0) ((sch a1 48).getD n 0) = _
                rw [HRN.out, HK.out, HKK.out, HWW.out]
                show [(a7 + S1 a4 + Ch a4 a5 a6 + kk + ww + S0 a0 + Mj a0 b1 a2) % 4294967296, a0, b1, a2, (a3 + (a7 + S1 a4 + Ch a4 a5 a6 + kk + ww)) % 4294967296, a4, a5, a6] = _
                rw [e1, e4]
                rfl
            | zero =>
              obtain rfl : n = 64 := by have := HJ.out; omega
              clear HJ
              go_wp2_with (fail)
              go_loopg [20] 8 (fun kq v20 w' => ∃ (n : Nat), v20 = .int .i64 n ∧ Aside0 (n + kq = 8) ∧ Aside0 (w'.heap[g3]? = some (.cells (U (outs h0 [a0, b1, a2, a3, a4, a5, a6, a7] n)) 58 (0, 0))) ∧ Aside0 (w'.heap[g6]? = some (.cells (U (List.replicate 8 0)) 58 (0, 0))) ∧ Aside0 (w'.heap[g12]? = some (.cells (U [a0, b1, a2, a3, a4, a5, a6, a7]) 58 (0, 0))) ∧ Aside0 (Below w.heap.size w w'))
              case atStart => exact ⟨0, rfl, ⟨rfl⟩, B3, B6, B12, HB⟩
              case round =>
                clear B3 B5 B6 B7 B12 HB
                obtain ⟨n, rfl, HJ, B3, B6, B12, HB⟩ := hrel
                cases gk with
                | succ k1 =>
                  have hn : n < 8 := by have := HJ.out; omega
                  have hjl : decide ((n : Int) < 8) = true := decide_eq_true (by omega)
                  have hcv := U_cell B12.out n (by simp; omega)
                  have hco := U_cell B3.out n (by rw [outs_len _ _ _ H8.out (by omega)]; exact hn)
                  rw [outs_getD _ _ _ H8.out hn] at hco
                  have hfz := blk_frozen B3.out n
                  obtain ⟨xo, hxo⟩ : ∃ xo, h0.getD n 0 = xo := ⟨_, rfl⟩
                  obtain ⟨xv, hxv⟩ : ∃ xv, [a0, b1, a2, a3, a4, a5, a6, a7].getD n 0 = xv := ⟨_, rfl⟩
                  rw [hxo] at hco
                  rw [hxv] at hcv
                  have HXO := Aside0.mk hxo
                  have HXV := Aside0.mk hxv
                  clear hxo hxv
                  go_wp2_with (fail)
                  go_region
                  go_wp2
                  go_roundg k1
                  case measure => have := HJ.out; omega
                  case rel =>
                    refine ⟨n + 1, by simp, ⟨by have := HJ.out; omega⟩, ⟨?_⟩, ⟨?_⟩, ⟨?_⟩, ⟨?_⟩⟩
                    · rw [← outs_set h0 [a0, b1, a2, a3, a4, a5, a6, a7] n H8.out hn, HXO.out, HXV.out]
                      exact blk_drew (U_put B3.out n _)
                    · exact blk_drew (blk_far B6.out (fun e_ => N36.out e_.symm) _)
                    · exact blk_drew (blk_far B12.out (fun e_ => M3.out e_.symm) _)
                    · exact below_drew1 (below_set HB.out G3.out)
                | zero =>
                  obtain rfl : n = 8 := by have := HJ.out; omega
                  go_wp2_with (first
                    | ((with_reducible refine gate_dst (N := 223) rfl ?_); refine load_row rfl rfl (t := 58) (p := .tmp 3) rfl g3 rfl B3.out und58 (by rw [U_size, outs_len _ _ _ H8.out (Nat.le_refl _)]; exact info58) ?_)
                    | ((with_reducible refine gate_store (t := 58) (p := 6) (v := .tmp 223) rfl ?_); refine store_row rfl rfl rfl g6 rfl (cs := U (outs h0 [a0, b1, a2, a3, a4, a5, a6, a7] 8)) (old := U (List.replicate 8 0)) rfl B6.out (by rw [U_size, outs_len _ _ _ H8.out (Nat.le_refl _)]; exact info58) (by rw [U_size, U_size, outs_len _ _ _ H8.out (Nat.le_refl _)]; rfl) (U_one _) ?_; intro w14 e14))
                  refine bodyPost_ret (results_cell_row rfl _ _ g6 58 (U (outs h0 [a0, b1, a2, a3, a4, a5, a6, a7] 8)) (0, 0) _ rfl (setRow_heap _ _ _ _ _ _ B6.out) und58 rfl (by rw [U_size, outs_len _ _ _ H8.out (Nat.le_refl _)]; exact info58)) rfl ⟨?_, ?_⟩
                  · unfold shaB
                    rw [HRN.out]
                  · exact below_setRow HB.out G6.out _
end Go.Proofs.YtfbhkglgaehohaaDoor.PH
