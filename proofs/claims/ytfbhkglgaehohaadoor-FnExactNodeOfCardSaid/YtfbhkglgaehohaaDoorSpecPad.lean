import Derived.Test.YtfbhkglgaehohaaDoorSpecBlock
import Derived.Laws.AppendOwn
import Derived.Laws.IdiomCopy
import Derived.Laws.CopyOwn
namespace Go.Proofs.YtfbhkglgaehohaaDoor.PH
open Go.RowKit Go.Proofs.YtfbhkglgaehohaaDoorW.PrintWords Go.Proofs.YtfbhkglgaehohaaDoorW.PrintLast Go.Proofs.YtfbhkglgaehohaaDoorW.PrintMore
theorem append_room1 {P : Program} (w : World) {t ty e : TypeId} {i : TypeInfo} (ht : P.underlying t = some (.slice e)) (hi : P.info? e = some i) (hs : i.size = 1) (g n cap : Nat) (cur : Array Value) (fr : Nat × Nat) (hg : w.heap[g]? = some (.cells cur e fr))
    (hfz : w.frozen? ⟨g, n, none⟩ = false) (a : Addr) (c : Nat) (v : Value) (hv : w.cell? a = some v) (ho : v.oneCell' = true) (hroom : n + 1 ≤ cap) (hfit : n < cur.size) :
    (Builtin.append_ #[t, t] ty #[.slice (some ⟨g, 0, none⟩) n cap, .slice (some a) 1 c]).run P w = .ok (.slice (some ⟨g, 0, none⟩) (n + 1) cap) (w.setCell ⟨g, n, none⟩ v) := by
  have ha : a.add 0 = a := by unfold Addr.add; simp
  have hf := run_firstCells_some (P := P) w i.size 1 a 1 c [v] (by simp [hs]) (fun j u hj => by
    cases j with
    | zero => simp at hj; subst hj; rw [ha]; exact hv
    | succ j => simp at hj)
  have hst := run_storeCells_cells (P := P) g n [v] 0 w (fun j hj => by
      have : j = 0 := by simpa using hj
      subst this
      rw [cell_of_row w g _ cur e fr hg]; simp; exact hfit) (fun j hj => by
      have : j = 0 := by simpa using hj
      subst this
      simpa using hfz) (fun u hu => by simp at hu; subst hu; exact ho)
  simp only [Nat.add_zero, World.setCells] at hst
  rw [hs] at hf
  simp [Builtin.append_, run_underlying ht, sizeOf, typeInfo, hi, Builtin.lenOf, hroom, hf, Addr.add_lit, hst, hs]
/-- A slice of bytes of one's own, its block marked as a conversion marks it or not. -/
def MB (w : World) (base : Nat) (v : Value) (xs : List Int) : Prop :=
  ∃ g cap cur fr, v = .slice (some ⟨g, 0, none⟩) xs.length cap ∧ base ≤ g ∧ w.heap[g]? = some (.cells cur 5 fr) ∧ (fr = (0, 0) ∨ fr = (cur.size, cur.size + 1)) ∧ xs.length ≤ cap ∧ cap ≤ maxLen ∧ cur.size = cap ∧ cur.toList.take xs.length = xs.map (Value.int .u8)
theorem blk_set_any {w : World} {g t : Nat} {cs : Array Value} {fr : Nat × Nat} (h : w.heap[g]? = some (.cells cs t fr)) (i : Nat) (v : Value) : (w.setCell ⟨g, i, none⟩ v).heap[g]? = some (.cells (cs.setIfInBounds i v) t fr) := by
  simp [World.setCell, Array.getElem?_modify, h]
theorem MB_append {w0 w : World} {v : Value} {xs : List Int} {ty : TypeId} (h : MB w w0.heap.size v xs) (hb : Below w0.heap.size w0 w) (a : Addr) (x : Int) (hv : w.cell? a = some (.int .u8 x)) (hl : xs.length + 1 ≤ 1073741925) :
    ∃ v' w', (Builtin.append_ #[63, 63] ty #[v, .slice (some a) 1 1]).run Tryd.prog w = .ok v' w' ∧ MB w' w0.heap.size v' (xs ++ [x]) ∧ Below w0.heap.size w0 w' := by
  have hbase := below_size hb
  obtain ⟨g, cap, cur, fr, rfl, hg, hh, hfr, hn, hm, hcs, ht⟩ := h
  obtain ⟨i, hi, hz⟩ := Option.map_eq_some_iff.1 info5
  have hz0 : i.zero = some (.int .u8 0) := by injection hz
  have hz1 : i.size = 1 := by simp at hz; exact hz.2.1
  have hz2 : i.bytes = 1 := by simp at hz; exact hz.2.2
  by_cases hroom : xs.length + 1 ≤ cap
  · have hfz : w.frozen? ⟨g, xs.length, none⟩ = false := by
      unfold World.frozen?
      rcases hfr with rfl | rfl
      · simp [hh]
      · simp [hh]; omega
    refine ⟨_, _, append_room1 w Tryd.underlying63 hi hz1 g xs.length cap cur fr hh hfz a 1 _ hv rfl hroom (by omega), ⟨g, cap, _, fr, by simp, hg, blk_set_any hh _ _, ?_, by simpa using hroom, hm, by simpa using hcs, ?_⟩, below_set hb hg⟩
    · simpa using hfr
    · rw [List.map_append, List.length_append]
      have hl : (xs.map (Value.int .u8)).length = xs.length := by simp
      show List.take (xs.length + 1) _ = _
      rw [Array.toList_setIfInBounds, List.take_add_one, List.take_set_of_le (Nat.le_refl _), ht]
      have : (cur.toList.set xs.length (Value.int .u8 x))[xs.length]? = some (Value.int .u8 x) := by
        rw [List.getElem?_set_self (by simp; omega)]
      simp [this]
  · have holds : ∀ j u, (xs.map (Value.int .u8))[j]? = some u → w.cell? ((⟨g, 0, none⟩ : Addr).add j) = some u := by
      intro j u hu
      have hadd : (⟨g, 0, none⟩ : Addr).add j = ⟨g, j, none⟩ := by unfold Addr.add; split <;> simp_all
      rw [hadd, cell_of_row w g j cur 5 fr hh]
      rw [← ht, List.getElem?_take] at hu
      split at hu
      · simpa using hu
      · cases hu
    have ha : a.add 0 = a := by unfold Addr.add; simp
    have hr := run_append_grow (P := Tryd.prog) w 63 ty 5 i (.int .u8 0) Tryd.underlying63 hi hz0 ⟨g, 0, none⟩ xs.length cap (xs.map (Value.int .u8)) (by simp [hz1]) holds a 1 1 [.int .u8 x] (by simp [hz1]) (fun j u hj => by
      cases j with
      | zero => simp at hj; subst hj; rw [ha]; exact hv
      | succ j => simp at hj) (by omega) (by omega) (growslice_fits (by omega) (by rw [hz2]; omega))
    have hge := grownCap_ge w (xs.length + 1) cap 5
    have hcm : grownCap w (xs.length + 1) cap 5 ≤ maxLen := grownCap_le_maxLen w _ cap 5 (by simp only [maxLen]; omega)
    refine ⟨_, _, hr, ⟨w.heap.size, _, _, (0, 0), by simp, hbase, heap_alloc_new w.drew _, .inl rfl, by simpa using hge, hcm, ?_, ?_⟩, below_alloc (below_drew1 hb) _⟩
    · simp only [Array.size_append, List.size_toArray, size_zeroCells]
      simp [Value.cells]
      omega
    · simp only [Array.toList_append, List.append_assoc]
      rw [← List.append_assoc, List.map_append, List.length_append]
      exact List.take_left' (by simp)
theorem bytesCells_list (w : World) (s : ByteArray) : (Lib.bytesCells w 5 s).toList = (bytesOf s).map (Value.int .u8) ++ List.replicate (grownCap w s.size 0 5 - s.size) (.int .u8 0) := by
  simp [Lib.bytesCells, bytesOf]
theorem MB_bytes (w0 w : World) (s : ByteArray) (hs : s.size ≤ 9223372036854775807) (hb : Below w0.heap.size w0 w) :
    MB (Lib.bytesWorld w 5 s) w0.heap.size (.slice (some ⟨w.heap.size, 0, none⟩) s.size (grownCap w s.size 0 5)) (bytesOf s) ∧ Below w0.heap.size w0 (Lib.bytesWorld w 5 s) := by
  have hge := grownCap_ge w s.size 0 5
  have hl := bytesOf_length s
  refine ⟨⟨w.heap.size, _, _, _, by rw [hl], below_size hb, Lib.bytesWorld_at_new w 5 s, .inr rfl, by rw [hl]; exact hge, grownCap_le_maxLen w _ 0 5 (by simp only [maxLen]; omega), ?_, ?_⟩, bytes_below hb (below_size hb) 5 s⟩
  · rw [← Array.length_toList, bytesCells_list]
    simp [hl]; omega
  · rw [bytesCells_list]
    exact List.take_left' (by simp)
theorem MB_reads {w : World} {base : Nat} {v : Value} {xs : List Int} (h : MB w base v xs) : ∃ A c, v = .slice A xs.length c ∧ ReadsInt w .u8 A xs.length xs := by
  obtain ⟨g, cap, cur, fr, rfl, hg, hh, hfr, hn, hm, hcs, ht⟩ := h
  refine ⟨_, _, rfl, rfl, Nat.le_trans hn hm, fun _ => ⟨_, rfl, fun j hj => ?_⟩⟩
  rw [show (⟨g, 0, none⟩ : Addr).add j = ⟨g, j, none⟩ by unfold Addr.add; split <;> simp_all, cell_of_row w g j cur 5 fr hh]
  have := congrArg (fun l => l[j]?) ht
  simp only [List.getElem?_take, if_pos hj] at this
  rw [← Array.getElem?_toList, this]
  simp [List.getElem?_eq_getElem hj]
section
variable {ops : Array Oper} {rest : List Oper} {o : Oper} {a : Act} {Q : Exit → Act → World → Prop} {W : World}
theorem MB_event {w0 : World} (hgd : o.guard = none) (s x : Operand) (ho : o.op = .call { callee := .builtin .append, args := #[s, x], argTypes := #[63, 63] })
    {v : Value} {xs : List Int} (hs : a.eval s = v) (h : MB W w0.heap.size v xs) (hb : Below w0.heap.size w0 W) (ad : Addr) (y : Int) (hx : a.eval x = .slice (some ad) 1 1) (hv : W.cell? ad = some (.int .u8 y)) (hl : xs.length + 1 ≤ 1073741925)
    (hk : ∀ v' w', MB w' w0.heap.size v' (xs ++ [y]) → Below w0.heap.size w0 w' → wpList Tryd.prog ops Q rest (a.put o.dst v') w') : wpList Tryd.prog ops Q (o :: rest) a W := by
  obtain ⟨v', w', hr, h2, h3⟩ := MB_append (ty := o.type) h hb ad y hv hl
  refine wpList_plain hgd fun K hK => ?_
  unfold Oper.wp execOp
  simp only [ho, resolve, invoke, builtin, Sem.run_bind, Sem.run_pure, Result.andThen_ok, List.map_toArray, List.map_cons, List.map_nil, hs, hx, hr]
  exact hK _ _ (hk v' w' h2 h3)
theorem MB_conv {w0 : World} (hgd : o.guard = none) {N : Tmp} (_hd : o.dst = some N) (x : Operand) (ho : o.op = .convert 9 63 x) (s : ByteArray) (hx : a.eval x = .string s) (hs : s.size ≤ 9223372036854775807) (hb : Below w0.heap.size w0 W)
    (hk : ∀ v' w', MB w' w0.heap.size v' (bytesOf s) → Below w0.heap.size w0 w' → wpList Tryd.prog ops Q rest (a.put o.dst v') w') : wpList Tryd.prog ops Q (o :: rest) a W := by
  obtain ⟨h1, h2⟩ := MB_bytes w0 W s hs hb
  refine Kd.event_run hgd ?_ (hk _ _ h1 h2)
  unfold execOp
  rw [ho]
  show (do let y ← convert 9 63 (a.eval x); pure (Next.value y) : Sem Next).run Tryd.prog W = _
  rw [hx, Sem.run_bind, print_bytes (P := Tryd.prog) 9 63 5 Tryd.underlying9 Tryd.underlying63 Tryd.underlying5 s W]
  rfl
end
theorem MB_alloc {w : World} {base : Nat} {v : Value} {xs : List Int} (h : MB w base v xs) (o : Obj) : MB (w.alloc o) base v xs := by
  obtain ⟨g, cap, cur, fr, e, hg, hh, r⟩ := h
  refine ⟨g, cap, cur, fr, e, hg, ?_, r⟩
  exact blk_alloc hh o
theorem MB_val {w : World} {base n : Nat} {v : Value} {xs : List Int} (h : MB w base v xs) (hn : xs.length = n) : ∃ g c, v = .slice (some ⟨g, 0, none⟩) n c := by
  obtain ⟨g, cap, cur, fr, e, _⟩ := h
  exact ⟨g, cap, by rw [e, hn]⟩
theorem new_cell (w : World) (v : Value) : (w.alloc (.cells #[v] 5)).cell? ⟨w.heap.size, 0, none⟩ = some v := by
  rw [cell_of_row _ _ 0 #[v] 5 (0, 0) (blk_new w _)]; rfl
/-- The zeros that fill a text up. -/
def padZ (n : Nat) : Nat := (64 - (n + 9) % 64) % 64
def padBytes (a0 : ByteArray) (j : Nat) : List Int := bytesOf a0 ++ 128 :: (List.replicate (padZ a0.size) 0 ++ (List.range j).map (fun q => 8 * (a0.size : Int) / 2 ^ (8 * (7 - q)) % 256))
attribute [local go_sem] max2_int min2_int max_two min_two max_three min_three max_four min_four
set_option linter.unusedVariables false
set_option linter.unusedSimpArgs false
set_option maxHeartbeats 2000000 in
set_option maxRecDepth 100000 in
theorem pad_calls (a0 : ByteArray) (w : World) (hs : a0.size ≤ 1073741824) :
    Calls Tryd.prog 42 #[.string a0] w fun e w' => e = .returned (.string (strOfNums (padBytes a0 8))) ∧ Below w.heap.size w w' := by
  have HB := Aside0.mk (Below.refl w.heap.size w)
  have HS := Aside0.mk hs
  have hl := bytesOf_length a0
  have HL := Aside0.mk hl
  clear hs hl
  go_enter Tryd.func42, Tryd.ntmps42
  go_wp2_with (first
    | ((with_reducible refine gate_dst (N := 7) rfl ?_); refine MB_conv (w0 := w) rfl (N := 7) rfl (.tmp 6) rfl a0 rfl (by have := HS.out; omega) HB.out ?_; intro v1 w1 hm hb; clear HB; have HM := Aside0.mk hm; have HB := Aside0.mk hb; clear hm hb)
    | ((with_reducible refine gate_builtin (b := .append) (xs := #[.tmp 8, .tmp 9]) rfl ?_); refine MB_event (w0 := w) rfl (.tmp 8) (.tmp 9) rfl rfl (MB_alloc HM.out _) (below_alloc HB.out _) _ 128 rfl (new_cell _ _) (by have := HS.out; have := HL.out; omega) ?_; intro v2 w2 hm hb; clear HB HM; have HM := Aside0.mk hm; have HB := Aside0.mk hb; clear hm hb))
  go_loopg [3] (padZ a0.size) (fun kq v3 w' => ∃ (j g c : Nat), v3 = .slice (some ⟨g, 0, none⟩) (a0.size + 1 + j) c ∧ Aside0 (j + kq = padZ a0.size) ∧ Aside0 (MB w' w.heap.size v3 (bytesOf a0 ++ 128 :: List.replicate j 0)) ∧ Aside0 (Below w.heap.size w w'))
  case atStart =>
    obtain ⟨g, c, e⟩ := MB_val HM.out (n := a0.size + 1 + 0) (by have := HL.out; simp; omega)
    exact ⟨0, g, c, e, ⟨by omega⟩, HM, HB⟩
  case round =>
    clear HB HM
    obtain ⟨j, g, c, rfl, HJ, HM, HB⟩ := hrel
    cases gk with
    | succ k1 =>
      have hne : ((((a0.size : Int) + 1 + (j : Int)) % 64) != 56) = true := by
        have h1 := HJ.out
        unfold padZ at h1
        have : ((a0.size : Int) + 1 + (j : Int)) % 64 ≠ 56 := by omega
        simpa using this
      go_wp2_with (first
        | ((with_reducible refine gate_builtin (b := .append) (xs := #[.tmp 15, .tmp 16]) rfl ?_); refine MB_event (w0 := w) rfl (.tmp 15) (.tmp 16) rfl rfl (MB_alloc HM.out _) (below_alloc HB.out _) _ 0 rfl (new_cell _ _) (by have := HS.out; have := HL.out; have := HJ.out; unfold padZ at this; simp; omega) ?_; intro v2' w2' hm hb; clear HB HM; have HM := Aside0.mk hm; have HB := Aside0.mk hb; clear hm hb))
      go_roundg k1
      case measure => have := HJ.out; omega
      case rel =>
        have hm := HM.out
        rw [List.append_assoc, List.cons_append, ← List.replicate_succ'] at hm
        obtain ⟨g', c', e'⟩ := MB_val hm (n := a0.size + 1 + (j + 1)) (by have := HL.out; simp; omega)
        exact ⟨j + 1, g', c', e', ⟨by have := HJ.out; omega⟩, ⟨hm⟩, HB⟩
    | zero =>
      have hne : ((((a0.size : Int) + 1 + (j : Int)) % 64) != 56) = false := by
        have h1 := HJ.out
        unfold padZ at h1
        have : ((a0.size : Int) + 1 + (j : Int)) % 64 = 56 := by omega
        simpa using this
      have e8 : IntKind.i64.wrap (8 * (a0.size : Int)) = 8 * (a0.size : Int) := by rw [i64_w, w64 (by have := HS.out; omega) (by have := HS.out; omega)]
      have hj : j = padZ a0.size := by have := HJ.out; omega
      subst hj
      clear HJ
      go_wp2_with (fail)
      clear hne
      go_loopg [5, 3] 8 (fun kq v5 v3 w' => ∃ (j g c : Nat), v5 = .int .i64 (7 - (j : Int)) ∧ v3 = .slice (some ⟨g, 0, none⟩) (a0.size + 1 + padZ a0.size + j) c ∧ Aside0 (j + kq = 8) ∧ Aside0 (MB w' w.heap.size v3 (padBytes a0 j)) ∧ Aside0 (Below w.heap.size w w'))
      case atStart => exact ⟨0, g, c, rfl, rfl, ⟨rfl⟩, ⟨by have := HM.out; simpa [padBytes] using this⟩, HB⟩
      case round =>
        clear HB HM
        obtain ⟨j, g, c, rfl, rfl, HJ, HM, HB⟩ := hrel
        cases gk with
        | succ k1 =>
          have hj8 : j < 8 := by have := HJ.out; omega
          have hge : decide ((j : Int) ≤ 7) = true := decide_eq_true (by omega)
          go_wp2_with (first
            | ((with_reducible refine gate_builtin (b := .append) (xs := #[.tmp 25, .tmp 32]) rfl ?_); refine MB_event (w0 := w) rfl (.tmp 25) (.tmp 32) rfl rfl (MB_alloc HM.out _) (below_alloc HB.out _) _ (8 * (a0.size : Int) / 2 ^ (8 * (7 - j)) % 256) rfl (new_cell _ _) (by have := HS.out; have := HL.out; have : padZ a0.size < 64 := (by unfold padZ; omega); simp [padBytes]; omega) ?_; intro v2' w2' hm hb; clear HB HM; have HM := Aside0.mk hm; have HB := Aside0.mk hb; clear hm hb))
          go_roundg k1
          case measure => have := HJ.out; omega
          case rel =>
            have hm := HM.out
            have e_ : padBytes a0 j ++ [8 * (a0.size : Int) / 2 ^ (8 * (7 - j)) % 256] = padBytes a0 (j + 1) := by
              unfold padBytes
              rw [List.range_succ, List.map_append]
              simp
            rw [e_] at hm
            obtain ⟨g', c', e'⟩ := MB_val hm (n := a0.size + 1 + padZ a0.size + (j + 1)) (by have := HL.out; simp [padBytes]; omega)
            exact ⟨j + 1, g', c', by simp; omega, e', ⟨by have := HJ.out; omega⟩, ⟨hm⟩, HB⟩
        | zero =>
          obtain rfl : j = 8 := by have := HJ.out; omega
          obtain ⟨A, c2, e2, hr⟩ := MB_reads HM.out
          have kc := string_of_reads (P := Tryd.prog) (c := c2) Tryd.underlying63 Tryd.underlying5 Tryd.underlying9 hr
          go_wp2_with (fail)
          go_ret
          exact ⟨rfl, HB.out⟩
end Go.Proofs.YtfbhkglgaehohaaDoor.PH
