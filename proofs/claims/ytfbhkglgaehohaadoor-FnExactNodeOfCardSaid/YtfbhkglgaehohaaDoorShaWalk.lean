import Derived.Test.YtfbhkglgaehohaaDoorPHx
import Derived.Lib.LaidTab
import Derived.RegionTactic
import Derived.ChangeAlike
import Derived.BigRegion
import Derived.StillTailTactics
namespace Go.Proofs.YtfbhkglgaehohaaDoor.PH
open Go.RowKit Go.Proofs.YtfbhkglgaehohaaDoorW.PrintWords Go.Proofs.YtfbhkglgaehohaaDoorW.PrintLast Go.Proofs.YtfbhkglgaehohaaDoorW.PrintMore
attribute [local go_sem] max2_int min2_int max_two min_two max_three min_three max_four min_four
set_option linter.unusedVariables false
set_option linter.unusedSimpArgs false

def U (l : List Int) : Array Value := (l.map (Value.int .u32)).toArray
theorem U_cell {w : World} {g t : Nat} {l : List Int} (hb : w.heap[g]? = some (.cells (U l) t (0, 0))) (i : Nat) (hi : i < l.length) : w.cell? ⟨g, i, none⟩ = some (.int .u32 (l.getD i 0)) := by
  rw [blk_cell hb i]; simp [U, hi]
theorem U_set (l : List Int) (i : Nat) (x : Int) : (U l).setIfInBounds i (.int .u32 x) = U (l.set i x) := by
  simp [U, List.map_set]
theorem U_put {w : World} {g t : Nat} {l : List Int} (hb : w.heap[g]? = some (.cells (U l) t (0, 0))) (i : Nat) (x : Int) : (w.setCell ⟨g, i, none⟩ (.int .u32 x)).heap[g]? = some (.cells (U (l.set i x)) t (0, 0)) := blk_put hb i _ (U_set l i x)


theorem info3' : (Tryd.prog.info? 3).map (fun i => (i.zero, i.size, i.bytes)) = some (some (.int .i64 0), 1, 8) := by kernel_rfl
def fourV (t : ByteArray) (i : Int) : Int := (Go.bits .or .i64 (Go.bits .or .i64 (Go.bits .or .i64 (wrap64 ((wrap64 (bt t i)) * 16777216)) (wrap64 ((wrap64 (bt t (i + 1))) * 65536))) (wrap64 ((wrap64 (bt t (i + 2))) * 256))) (wrap64 (bt t (i + 3))))
theorem w64 {x : Int} (h0 : -9223372036854775808 ≤ x) (h1 : x ≤ 9223372036854775807) : wrap64 x = x := by unfold wrap64; omega
theorem fourAt_impl (t : ByteArray) (i : Int) (h0 : 0 ≤ i) (h1 : i + 4 ≤ (t.size : Int)) (hb : t.size ≤ 140737488351232) : impl_fourAt.f t i = some (fourV t i) := by
  unfold impl_fourAt.f
  rw [w64 (x := i + 1) (by omega) (by omega), w64 (x := i + 2) (by omega) (by omega), w64 (x := i + 3) (by omega) (by omega),
    if_pos (by omega), if_pos (by omega), if_pos (by omega), if_pos (by omega), if_pos (by omega), if_pos (by omega), if_pos (by omega), if_pos (by omega)]
  rfl
def wordOf (t : ByteArray) (j : Nat) : Int := fourV t (4 * (j : Int)) % 4294967296
theorem words_set (f : Nat → Int) (n j : Nat) (hj : j < n) : ((List.range j).map f ++ List.replicate (n - j) 0).set j (f j) = (List.range (j + 1)).map f ++ List.replicate (n - (j + 1)) 0 := by
  have h1 : ((List.range j).map f).length = j := by simp
  rw [show n - j = (n - (j + 1)) + 1 by omega, List.replicate_succ, List.set_append_right _ _ (by omega), h1, Nat.sub_self, List.set_cons_zero, List.range_succ, List.map_append, List.append_assoc]
  rfl
theorem wrap_u64_nonneg (n : Int) : 0 ≤ IntKind.u64.wrap n := by
  simp [IntKind.wrap, IntKind.bits, IntKind.signed]; omega
theorem bits_u64_nonneg (op : BinOp) (x y : Int) : 0 ≤ Go.bits op .u64 x y := by
  unfold Go.bits; exact wrap_u64_nonneg _
def rl (x k : Int) : Int := Go.bits .or .u32 (shl .u32 x (Go.bits .and .u64 (IntKind.u64.wrap k) 31)) (shr .u32 x (IntKind.u64.wrap (32 - (Go.bits .and .u64 (IntKind.u64.wrap k) 31))))
theorem rotf (x k : Int) : bits_RotateLeft32.f x k = some (rl x k) := by
  unfold bits_RotateLeft32.f rl
  rw [if_pos (bits_u64_nonneg _ _ _), if_pos (wrap_u64_nonneg _)]
theorem rl_rr (x k n : Int) (h : Go.bits .and .u64 (IntKind.u64.wrap k) 31 = 32 - n) (h2 : IntKind.u64.wrap n = n) : rl x k = Go.bits .or .u32 (shr .u32 x n) (shl .u32 x (32 - n)) := by
  unfold rl
  rw [h, show 32 - (32 - n) = n by omega, h2]
  simp [Go.bits, BitVec.or_comm]
def rr (x n : Int) : Int := Go.bits .or .u32 (shr .u32 x n) (shl .u32 x (32 - n))
def sg0 (x : Int) : Int := Go.bits .xor .u32 (Go.bits .xor .u32 (rl x (-7)) (rl x (-18))) (x / 8)
def sg1 (x : Int) : Int := Go.bits .xor .u32 (Go.bits .xor .u32 (rl x (-17)) (rl x (-19))) (x / 1024)
def stepW (ws : List Int) (i : Nat) : List Int := ws.set i ((ws.getD (i - 16) 0 + sg0 (ws.getD (i - 15) 0) + ws.getD (i - 7) 0 + sg1 (ws.getD (i - 2) 0)) % 4294967296)
def sch (t : ByteArray) : Nat → List Int
  | 0 => (List.range 16).map (wordOf t) ++ List.replicate (64 - 16) 0
  | n + 1 => stepW (sch t n) (16 + n)
theorem sch_len (t : ByteArray) : ∀ n, (sch t n).length = 64
  | 0 => by simp [sch]
  | n + 1 => by unfold sch stepW; rw [List.length_set]; exact sch_len t n
def outs (l v : List Int) (n : Nat) : List Int := (List.range n).map (fun i => (l.getD i 0 + v.getD i 0) % 4294967296) ++ l.drop n
theorem outs_at (l v : List Int) (n : Nat) (h : l.length = 8) (hn : n < 8) : rdOf (0 : Int) (outs l v n) (n : Int) = l.getD n 0 := by
  have h1 : ((List.range n).map (fun i => (l.getD i 0 + v.getD i 0) % 4294967296)).length = n := by simp
  unfold rdOf outs
  rw [Int.toNat_natCast, List.getD, List.getElem?_append_right (by omega), h1, Nat.sub_self, List.getElem?_drop, Nat.add_zero]
  rfl
theorem outs_set (l v : List Int) (n : Nat) (h : l.length = 8) (hn : n < 8) : (outs l v n).set n ((l.getD n 0 + v.getD n 0) % 4294967296) = outs l v (n + 1) := by
  have h1 : ((List.range n).map (fun i => (l.getD i 0 + v.getD i 0) % 4294967296)).length = n := by simp
  unfold outs
  rw [List.set_append_right _ _ (by omega), h1, Nat.sub_self, List.drop_eq_getElem_cons (by omega), List.set_cons_zero, List.range_succ, List.map_append, List.append_assoc]
  rfl
def st8 (w : World) (g : Nat) (x0 x1 x2 x3 x4 x5 x6 x7 : Int) : World :=
  (((((((w.setCell ⟨g, 0, none⟩ (.int .u32 x0)).setCell ⟨g, 1, none⟩ (.int .u32 x1)).setCell ⟨g, 2, none⟩ (.int .u32 x2)).setCell ⟨g, 3, none⟩ (.int .u32 x3)).setCell ⟨g, 4, none⟩ (.int .u32 x4)).setCell ⟨g, 5, none⟩ (.int .u32 x5)).setCell ⟨g, 6, none⟩ (.int .u32 x6)).setCell ⟨g, 7, none⟩ (.int .u32 x7)
theorem st8_blk {w : World} {g t : Nat} {a0 a1 a2 a3 a4 a5 a6 a7 : Int} (h : w.heap[g]? = some (.cells (U [a0, a1, a2, a3, a4, a5, a6, a7]) t (0, 0))) (x0 x1 x2 x3 x4 x5 x6 x7 : Int) :
    (st8 w g x0 x1 x2 x3 x4 x5 x6 x7).heap[g]? = some (.cells (U [x0, x1, x2, x3, x4, x5, x6, x7]) t (0, 0)) :=
  U_put (U_put (U_put (U_put (U_put (U_put (U_put (U_put h 0 x0) 1 x1) 2 x2) 3 x3) 4 x4) 5 x5) 6 x6) 7 x7
theorem st8_far {w : World} {g g' t : Nat} {cs : Array Value} (h : w.heap[g']? = some (.cells cs t (0, 0))) (hg : g' ≠ g) (x0 x1 x2 x3 x4 x5 x6 x7 : Int) :
    (st8 w g x0 x1 x2 x3 x4 x5 x6 x7).heap[g']? = some (.cells cs t (0, 0)) :=
  blk_far (blk_far (blk_far (blk_far (blk_far (blk_far (blk_far (blk_far h (p := ⟨g, 0, none⟩) hg _) (p := ⟨g, 1, none⟩) hg _) (p := ⟨g, 2, none⟩) hg _) (p := ⟨g, 3, none⟩) hg _) (p := ⟨g, 4, none⟩) hg _) (p := ⟨g, 5, none⟩) hg _) (p := ⟨g, 6, none⟩) hg _) (p := ⟨g, 7, none⟩) hg _
theorem st8_R {w : World} {g t base : Nat} {ok : Nat → Prop} {v : Value} {l : List Int} {cs : Array Value} (h : (Kd.int .i64).R 3 w base ok v l) (hb : w.heap[g]? = some (.cells cs t (0, 0))) (ht : 3 ≠ t) (x0 x1 x2 x3 x4 x5 x6 x7 : Int) :
    (Kd.int .i64).R 3 (st8 w g x0 x1 x2 x3 x4 x5 x6 x7) base ok v l := by
  have hq : ∀ q, q ∈ 3 :: (Kd.int .i64).E → q ≠ t := by intro q hq; simp [Kd.int, Kd.scalar] at hq; subst hq; exact ht
  exact Kd.R_set (Kd.R_set (Kd.R_set (Kd.R_set (Kd.R_set (Kd.R_set (Kd.R_set (Kd.R_set h hb hq 0 _) (blk_set hb 0 _) hq 1 _) (blk_set (blk_set hb 0 _) 1 _) hq 2 _) (blk_set (blk_set (blk_set hb 0 _) 1 _) 2 _) hq 3 _) (blk_set (blk_set (blk_set (blk_set hb 0 _) 1 _) 2 _) 3 _) hq 4 _)
    (blk_set (blk_set (blk_set (blk_set (blk_set hb 0 _) 1 _) 2 _) 3 _) 4 _) hq 5 _) (blk_set (blk_set (blk_set (blk_set (blk_set (blk_set hb 0 _) 1 _) 2 _) 3 _) 4 _) 5 _) hq 6 _) (blk_set (blk_set (blk_set (blk_set (blk_set (blk_set (blk_set hb 0 _) 1 _) 2 _) 3 _) 4 _) 5 _) 6 _) hq 7 _
theorem st8_below {w W : World} {g : Nat} (h : Below w.heap.size w W) (hg : w.heap.size ≤ g) (x0 x1 x2 x3 x4 x5 x6 x7 : Int) : Below w.heap.size w (st8 W g x0 x1 x2 x3 x4 x5 x6 x7) :=
  below_set (below_set (below_set (below_set (below_set (below_set (below_set (below_set h hg) hg) hg) hg) hg) hg) hg) hg
theorem eight (l : List Int) (h : l.length = 8) : ∃ a b c d e f g i, l = [a, b, c, d, e, f, g, i] := by
  match l, h with
  | [a, b, c, d, e, f, g, i], _ => exact ⟨a, b, c, d, e, f, g, i, rfl⟩
def kWords : List Int := [1116352408, 1899447441, 3049323471, 3921009573, 961987163, 1508970993, 2453635748, 2870763221, 3624381080, 310598401, 607225278, 1426881987, 1925078388, 2162078206, 2614888103, 3248222580, 3835390401, 4022224774, 264347078, 604807628, 770255983, 1249150122, 1555081692, 1996064986, 2554220882, 2821834349, 2952996808, 3210313671, 3336571891, 3584528711, 113926993, 338241895, 666307205, 773529912, 1294757372, 1396182291, 1695183700, 1986661051, 2177026350, 2456956037, 2730485921, 2820302411, 3259730800, 3345764771, 3516065817, 3600352804, 4094571909, 275423344, 430227734, 506948616, 659060556, 883997877, 958139571, 1322822218, 1537002063, 1747873779, 1955562222, 2024104815, 2227730452, 2361852424, 2428436474, 2756734187, 3204031479, 3329325298]
def Tab (w : World) : Prop := Lib.TabIs Tryd.prog w "loop.example/g00397/impl.shaWords" .u32 kWords
theorem shaGlobal : Tryd.prog.globalNamed "loop.example/g00397/impl.shaWords" = some 0 := by kernel_rfl
theorem tab_cell {w : World} (h : Tab w) (i : Nat) (hi : i < 64) : w.cell? ⟨0, i, none⟩ = some (.int .u32 (kWords.getD i 0)) := h.cell shaGlobal i hi
def S1 (x : Int) : Int := bits BinOp.xor IntKind.u32 (bits BinOp.xor IntKind.u32 (rl x (-6)) (rl x (-11))) (rl x (-25))
def S0 (x : Int) : Int := bits BinOp.xor IntKind.u32 (bits BinOp.xor IntKind.u32 (rl x (-2)) (rl x (-13))) (rl x (-22))
def Ch (e f g : Int) : Int := bits BinOp.xor IntKind.u32 (bits BinOp.and IntKind.u32 e f) (bits BinOp.and IntKind.u32 (bits BinOp.xor IntKind.u32 IntKind.u32.max e) g)
def Mj (a b c : Int) : Int := bits BinOp.xor IntKind.u32 (bits BinOp.xor IntKind.u32 (bits BinOp.and IntKind.u32 a b) (bits BinOp.and IntKind.u32 a c)) (bits BinOp.and IntKind.u32 b c)
def rnd (v : List Int) (k w : Int) : List Int :=
  [(v.getD 7 0 + S1 (v.getD 4 0) + Ch (v.getD 4 0) (v.getD 5 0) (v.getD 6 0) + k + w + S0 (v.getD 0 0) + Mj (v.getD 0 0) (v.getD 1 0) (v.getD 2 0)) % 4294967296, v.getD 0 0, v.getD 1 0, v.getD 2 0,
   (v.getD 3 0 + (v.getD 7 0 + S1 (v.getD 4 0) + Ch (v.getD 4 0) (v.getD 5 0) (v.getD 6 0) + k + w)) % 4294967296, v.getD 4 0, v.getD 5 0, v.getD 6 0]
def rnds (v : List Int) (ws : List Int) : Nat → List Int
  | 0 => v
  | n + 1 => rnd (rnds v ws n) (kWords.getD n 0) (ws.getD n 0)
/-- One block of SHA-256, as the program reckons it. -/
def shaB (l : List Int) (t : ByteArray) : List Int := outs l (rnds l (sch t 48) 64) 8
theorem U_zero (n : Nat) : U (List.replicate n 0) = Array.replicate n (Value.int .u32 0) := by simp [U]
theorem half_rng {x : Int} (h : impl_HalfOk.f x = some true) : 0 ≤ x ∧ x ≤ 4294967295 := by
  unfold impl_HalfOk.f impl_within.f at h
  by_cases c : x ≥ 0
  · simp [c] at h; omega
  · simp [c] at h
theorem take_set (l : List Int) (n j : Nat) (hn : l.length = n) (hj : j < n) : (l.take j ++ List.replicate (n - j) 0).set j (l.getD j 0) = l.take (j + 1) ++ List.replicate (n - (j + 1)) 0 := by
  have h1 : (l.take j).length = j := by simp; omega
  rw [show n - j = (n - (j + 1)) + 1 by omega, List.replicate_succ, List.set_append_right _ _ (by omega), h1, Nat.sub_self, List.set_cons_zero, List.take_succ_eq_append_getElem (by omega), List.append_assoc]
  simp [List.getD, show j < l.length by omega]
set_option maxHeartbeats 8000000 in
set_option maxRecDepth 100000 in
theorem sha_calls (A0 : Option Addr) (c0 : Nat) (l0 : List Int) (a1 : ByteArray) (w : World) (hr0 : Kd.C (Kd.int .i64) w A0 l0.length l0) (hc0 : l0.length ≤ c0)
    (h8 : l0.length = 8) (h64 : a1.size = 64) (hf : ∀ x ∈ l0, impl_HalfOk.f x = some true) (hT : Tab w) :
    Calls Tryd.prog 46 #[.slice A0 l0.length c0, .string a1] w fun e w' => ∃ v0_ : Value, e = .returned (v0_) ∧ Kd.R (Kd.int .i64) 3 w' w.heap.size (fun _ => True) v0_ (shaB l0 a1) ∧ Below w.heap.size w w' := by
  have HB := Aside0.mk (Below.refl w.heap.size w)
  obtain ⟨ad, rfl, _⟩ := hr0.2.2 (by omega)
  have HR0 := Aside0.mk (show Kd.C (Kd.int .i64) w (some ad) 8 l0 by rw [h8] at hr0; exact hr0)
  have H8 := Aside0.mk h8
  have H64 := Aside0.mk h64
  have HF := Aside0.mk hf
  have HT := Aside0.mk hT
  clear hT
  have b64 : ((a1.size : Int) != 64) = false := by rw [bne_eq_false_iff_eq]; omega
  clear h64 hf hr0 hc0
  rw [h8]
  clear h8
  go_enter Tryd.func46, Tryd.ntmps46
  go_wp2_with (first
    | ((with_reducible refine gate_dst (N := 25) rfl ?_); refine Kd.R_lit (Kd.int .i64) _ 3 ?hg (N := 25) ?hd (xs := ([] : List Int)) (inner := []) (ok := fun _ => True) (okp := fun _ => True) ?hr ?hp (fun _ hk => hk) trivial (Below.refl _ _) (Nat.le_refl _) (by simp) ?_; (case hd => rfl); (case hg => rfl); (case hr => first | (go_simp; done) | (go_simp; rfl)); (case hp => exact (Reps.none _ _)); intro v1 w3 ho4 hb hg_ hnew_; clear hg_ hnew_; have n0_ := Aside0.mk (Kd.R_lower ho4 (below_size HB.out)); have n1_ := Aside0.mk (below_step HB.out hb); clear HB; have HO1 := n0_; have HB := n1_; clear n0_ n1_; clear hb ho4)
    | ((with_reducible refine gate_builtin (b := .append) (xs := #[.tmp 25, .tmp 26]) rfl ?_); at_builtin; refine Kd.R_append_rows (Kd.int .i64) (w0 := w) w.heap.size rfl (.tmp 25) (.tmp 26) 65 3 (.int .i64 0) 8 rfl Tryd.underlying65 info3 rfl (by decide) (by omega) v1 ([] : List Int) l0 _ _ _ (fun _ => True) (fun _ => False) rfl rfl ?aO ?aR (fun _ _ h => h) (fun _ h => h.elim) ?aF ?aB ?aS ?aL ?_; (case aO => exact HO1.out); (case aR => exact Kd.C_below HR0.out HB.out); (case aF => exact fun _ _ => trivial); (case aB => exact HB.out); (case aS => exact below_size HB.out); (case aL => simp); intro v2 w4 ho5 hb hg_ hnew_; clear hg_ hnew_ HO1 HB; have HO2 := Aside0.mk ho5; have HB := Aside0.mk hb; clear ho5 hb))

  have BKV := Aside0.mk (show (w4.alloc (.cells #[Value.int .u32 0, Value.int .u32 0, Value.int .u32 0, Value.int .u32 0, Value.int .u32 0, Value.int .u32 0, Value.int .u32 0, Value.int .u32 0] 58)).heap[w4.heap.size]? = some (.cells (U (l0.take 0 ++ List.replicate (8 - 0) 0)) 58 (0, 0)) from blk_new w4 _)
  have GEV := Aside0.mk (below_size HB.out)
  have n0_ := Aside0.mk (below_alloc HB.out (.cells #[Value.int .u32 0, Value.int .u32 0, Value.int .u32 0, Value.int .u32 0, Value.int .u32 0, Value.int .u32 0, Value.int .u32 0, Value.int .u32 0] 58))
  have n1_ := Aside0.mk (Kd.R_alloc HO2.out (.cells #[Value.int .u32 0, Value.int .u32 0, Value.int .u32 0, Value.int .u32 0, Value.int .u32 0, Value.int .u32 0, Value.int .u32 0, Value.int .u32 0] 58))
  clear HB HO2
  generalize w4.alloc (.cells #[Value.int .u32 0, Value.int .u32 0, Value.int .u32 0, Value.int .u32 0, Value.int .u32 0, Value.int .u32 0, Value.int .u32 0, Value.int .u32 0] 58) = w5 at BKV n0_ n1_ ⊢
  generalize w4.heap.size = gv at BKV GEV ⊢
  have HB := n0_
  have HO2 : Aside0 ((Kd.int .i64).R 3 w5 w.heap.size (fun _ => True) v2 l0) := n1_
  clear n0_ n1_
  go_loopg [39] 8 (fun kq v39 w' => ∃ (j : Nat), v39 = .int .i64 j ∧ Aside0 (j + kq = 8) ∧ Aside0 (w'.heap[gv]? = some (.cells (U (l0.take j ++ List.replicate (8 - j) 0)) 58 (0, 0))) ∧ Aside0 ((Kd.int .i64).R 3 w' w.heap.size (fun _ => True) v2 l0) ∧ Aside0 (Below w.heap.size w w'))
  case atStart => exact ⟨0, rfl, ⟨rfl⟩, BKV, HO2, HB⟩
  case round =>
    clear HB BKV HO2
    obtain ⟨j, rfl, HJ, BKV, HO2, HB⟩ := hrel
    cases gk with
    | succ k1 =>
      have hj : j < 8 := by have := HJ.out; omega
      have hl : j < l0.length := by have := H8.out; omega
      obtain ⟨ad', e', hx⟩ := Kd.at_int HR0.out (j : Int) (by omega) (by omega)
      cases e'
      replace hx := pw_cell_below HB.out hx
      rw [Int.toNat_natCast] at hx
      have hrd : rd l0 (j : Int) = l0.getD j 0 := by simp [rd]
      rw [hrd] at hx
      have hmem : l0.getD j 0 ∈ l0 := by simp [List.getD, hl]
      have HH := Aside0.mk (HF.out _ hmem)
      obtain ⟨r0, r1⟩ := half_rng HH.out
      have hjl : decide ((j : Int) < 8) = true := decide_eq_true (by omega)
      have hlen : (U (l0.take j ++ List.replicate (8 - j) 0)).size = 8 := by simp [U]; omega
      have hset := Aside0.mk (take_set l0 8 j H8.out hj)
      clear hrd hmem
      generalize l0.getD j 0 = x at hx HH r0 r1 hset ⊢
      have hcv : ∃ u, wr.cell? ⟨gv, j, none⟩ = some (.int .u32 u) := ⟨_, U_cell BKV.out j (by simp; omega)⟩
      obtain ⟨u, hcv⟩ := hcv
      have hfz := blk_frozen BKV.out j
      go_wp2_with (first | (go_at_call 52; (with_reducible refine (impl_HalfOk.calls x true _ HH.out).mono ?_); rintro e w1 ⟨rfl, ⟨nd, rfl⟩⟩))
      go_roundg k1
      case measure => have := HJ.out; omega
      case rel =>
        refine ⟨j + 1, by simp, ⟨by have := HJ.out; omega⟩, ⟨?_⟩, ⟨?_⟩, ⟨?_⟩⟩
        · rw [← hset.out]; exact U_put (blk_drewN BKV.out nd) j x
        · exact Kd.R_set (Kd.R_drewN HO2.out nd) (blk_drewN BKV.out nd) (by simp [Kd.int, Kd.scalar]) j _
        · exact below_set (pw_below_drewN HB.out nd) GEV.out
    | zero =>
      obtain rfl : j = 8 := HJ.out
      have n0_ := Aside0.mk (show wr.heap[gv]? = some (.cells (U l0) 58 (0, 0)) from by have h_ := BKV.out; rw [List.take_of_length_le (by have := H8.out; omega)] at h_; simpa using h_)
      clear BKV
      have BKV := n0_
      clear n0_
      go_wp2_with (fail)
      have BKW := Aside0.mk (show (wr.alloc (.cells (U (List.replicate 64 0)) 60)).heap[wr.heap.size]? = some (.cells (U (List.replicate 64 0)) 60 (0, 0)) from blk_new wr _)
      have GEW := Aside0.mk (below_size HB.out)
      have n0_ := Aside0.mk (below_alloc HB.out (.cells (U (List.replicate 64 0)) 60))
      have n1_ := Aside0.mk (Kd.R_alloc HO2.out (.cells (U (List.replicate 64 0)) 60))
      have n2_ := Aside0.mk (blk_alloc BKV.out (.cells (U (List.replicate 64 0)) 60))
      have hgw : gv ≠ wr.heap.size := Nat.ne_of_lt (blk_lt BKV.out)
      clear HB HO2 BKV
      rw [show (Obj.cells #[Value.int .u32 0, Value.int .u32 0, Value.int .u32 0, Value.int .u32 0, Value.int .u32 0, Value.int .u32 0, Value.int .u32 0, Value.int .u32 0, Value.int .u32 0, Value.int .u32 0, Value.int .u32 0, Value.int .u32 0, Value.int .u32 0, Value.int .u32 0, Value.int .u32 0, Value.int .u32 0, Value.int .u32 0, Value.int .u32 0, Value.int .u32 0, Value.int .u32 0, Value.int .u32 0, Value.int .u32 0, Value.int .u32 0, Value.int .u32 0, Value.int .u32 0, Value.int .u32 0, Value.int .u32 0, Value.int .u32 0, Value.int .u32 0, Value.int .u32 0, Value.int .u32 0, Value.int .u32 0, Value.int .u32 0, Value.int .u32 0, Value.int .u32 0, Value.int .u32 0, Value.int .u32 0, Value.int .u32 0, Value.int .u32 0, Value.int .u32 0, Value.int .u32 0, Value.int .u32 0, Value.int .u32 0, Value.int .u32 0, Value.int .u32 0, Value.int .u32 0, Value.int .u32 0, Value.int .u32 0, Value.int .u32 0, Value.int .u32 0, Value.int .u32 0, Value.int .u32 0, Value.int .u32 0, Value.int .u32 0, Value.int .u32 0, Value.int .u32 0, Value.int .u32 0, Value.int .u32 0, Value.int .u32 0, Value.int .u32 0, Value.int .u32 0, Value.int .u32 0, Value.int .u32 0, Value.int .u32 0] 60) = Obj.cells (U (List.replicate 64 0)) 60 from rfl]
      generalize wr.alloc (.cells (U (List.replicate 64 0)) 60) = w6 at BKW n0_ n1_ n2_ ⊢
      generalize wr.heap.size = gw at BKW GEW hgw ⊢
      have HGW := Aside0.mk hgw
      clear hgw
      have HB := n0_
      have HO2 := n1_
      have BKV := n2_
      clear n0_ n1_ n2_
      go_loopg [53] 16 (fun kq v53 w' => ∃ (j : Nat), v53 = .int .i64 j ∧ Aside0 (j + kq = 16) ∧ Aside0 (w'.heap[gv]? = some (.cells (U l0) 58 (0, 0))) ∧ Aside0 (w'.heap[gw]? = some (.cells (U ((List.range j).map (wordOf a1) ++ List.replicate (64 - j) 0)) 60 (0, 0))) ∧ Aside0 ((Kd.int .i64).R 3 w' w.heap.size (fun _ => True) v2 l0) ∧ Aside0 (Below w.heap.size w w'))
      case atStart => exact ⟨0, rfl, ⟨rfl⟩, BKV, BKW, HO2, HB⟩
      case round =>
        clear HB BKV HO2 BKW
        obtain ⟨j, rfl, HJ, BKV, BKW, HO2, HB⟩ := hrel
        cases gk with
        | succ k1 =>
          have hj : j < 16 := by have := HJ.out; omega
          have hjl : decide ((j : Int) < 16) = true := decide_eq_true (by omega)
          have HH := Aside0.mk (fourAt_impl a1 (4 * (j : Int)) (by omega) (by have := H64.out; omega) (by have := H64.out; omega))
          have hcv : ∃ u, wr.cell? ⟨gw, j, none⟩ = some (.int .u32 u) := ⟨_, U_cell BKW.out j (by simp; omega)⟩
          obtain ⟨u, hcv⟩ := hcv
          have hfz := blk_frozen BKW.out j
          go_wp2_with (first | (go_at_call 53; (with_reducible refine (impl_fourAt.calls a1 (4 * (j : Int)) _ _ HH.out).mono ?_); rintro e w1 ⟨rfl, ⟨nd, rfl⟩⟩))
          go_roundg k1
          case measure => have := HJ.out; omega
          case rel =>
            refine ⟨j + 1, by simp, ⟨by have := HJ.out; omega⟩, ⟨?_⟩, ⟨?_⟩, ⟨?_⟩, ⟨?_⟩⟩
            · exact blk_far (blk_drewN BKV.out nd) HGW.out _
            · rw [← words_set (wordOf a1) 64 j (by omega)]; exact U_put (blk_drewN BKW.out nd) j _
            · exact Kd.R_set (Kd.R_drewN HO2.out nd) (blk_drewN BKW.out nd) (by simp [Kd.int, Kd.scalar]) j _
            · exact below_set (pw_below_drewN HB.out nd) GEW.out
        | zero =>
          obtain rfl : j = 16 := HJ.out
          go_wp2_with (fail)
          go_loopg [11] 48 (fun kq v11 w' => ∃ (m : Nat), v11 = .int .i64 m ∧ Aside0 (m + kq = 64 ∧ 16 ≤ m) ∧ Aside0 (w'.heap[gv]? = some (.cells (U l0) 58 (0, 0))) ∧ Aside0 (w'.heap[gw]? = some (.cells (U (sch a1 (m - 16))) 60 (0, 0))) ∧ Aside0 ((Kd.int .i64).R 3 w' w.heap.size (fun _ => True) v2 l0) ∧ Aside0 (Below w.heap.size w w'))
          case atStart => exact ⟨16, rfl, ⟨rfl, by omega⟩, BKV, BKW, HO2, HB⟩
          case round =>
            clear HB BKV HO2 BKW HJ
            obtain ⟨m, rfl, HJ, BKV, BKW, HO2, HB⟩ := hrel
            cases gk with
            | succ k1 =>
              have hm1 : m < 64 := by have := HJ.out; omega
              have hm0 : 16 ≤ m := HJ.out.2
              have hjl : decide ((m : Int) < 64) = true := decide_eq_true (by omega)
              go_wp2_with (fail)
              have e15 : IntKind.i64.wrap ((m : Int) - 15) = ((m - 15 : Nat) : Int) := by simp [IntKind.wrap, IntKind.bits, IntKind.signed]; omega
              have e2 : IntKind.i64.wrap ((m : Int) - 2) = ((m - 2 : Nat) : Int) := by simp [IntKind.wrap, IntKind.bits, IntKind.signed]; omega
              have hc15 := U_cell BKW.out (m - 15) (by rw [sch_len]; omega)
              have hc2 := U_cell BKW.out (m - 2) (by rw [sch_len]; omega)
              have i15 : m - 15 < 64 := by omega
              have i2 : m - 2 < 64 := by omega
              have hwa : ∃ wa, (sch a1 (m - 16)).getD (m - 15) 0 = wa := ⟨_, rfl⟩
              obtain ⟨wa, hwa⟩ := hwa
              have hwb : ∃ wb, (sch a1 (m - 16)).getD (m - 2) 0 = wb := ⟨_, rfl⟩
              obtain ⟨wb, hwb⟩ := hwb
              rw [hwa] at hc15
              rw [hwb] at hc2
              have HWA := Aside0.mk hwa
              have HWB := Aside0.mk hwb
              clear hwa hwb
              go_quiet (fail)
              go_wp2_with (first | (go_at_call 54; (with_reducible refine (bits_RotateLeft32.calls _ _ _ _ (rotf _ _)).mono ?_); rintro e w1 ⟨rfl, ⟨nd, rfl⟩⟩))
              generalize hxa : bits BinOp.xor IntKind.u32 (bits BinOp.xor IntKind.u32 (rl wa (-7)) (rl wa (-18))) (wa / 8) = xa
              generalize hxb : bits BinOp.xor IntKind.u32 (bits BinOp.xor IntKind.u32 (rl wb (-17)) (rl wb (-19))) (wb / 1024) = xb
              have HXA := Aside0.mk hxa
              have HXB := Aside0.mk hxb
              clear hxa hxb
              rename_i nd1 nd2 nd3
              generalize nq + nd1 + nd2 + nd3 + nd = nn
              have e16 : IntKind.i64.wrap ((m : Int) - 16) = ((m - 16 : Nat) : Int) := by simp [IntKind.wrap, IntKind.bits, IntKind.signed]; omega
              have e7 : IntKind.i64.wrap ((m : Int) - 7) = ((m - 7 : Nat) : Int) := by simp [IntKind.wrap, IntKind.bits, IntKind.signed]; omega
              have hc16 := U_cell BKW.out (m - 16) (by rw [sch_len]; omega)
              have hc7 := U_cell BKW.out (m - 7) (by rw [sch_len]; omega)
              have hcm := U_cell BKW.out m (by rw [sch_len]; omega)
              have hfm := blk_frozen BKW.out m
              have i16 : m - 16 < 64 := by omega
              have i7 : m - 7 < 64 := by omega
              clear hc15 hc2 e15 e2 i15 i2
              generalize hwc : (sch a1 (m - 16)).getD (m - 16) 0 = wc at hc16
              generalize hwd : (sch a1 (m - 16)).getD (m - 7) 0 = wd at hc7
              generalize hwe : (sch a1 (m - 16)).getD m 0 = we at hcm
              have HWC := Aside0.mk hwc
              have HWD := Aside0.mk hwd
              clear hwc hwd hwe
              go_region
              go_wp2
              go_roundg k1
              case measure => have := HJ.out; omega
              case rel =>
                refine ⟨m + 1, by simp, ⟨by have := HJ.out; omega⟩, ⟨?_⟩, ⟨?_⟩, ⟨?_⟩, ⟨?_⟩⟩
                · exact blk_far (blk_drewN BKV.out _) HGW.out _
                · rw [show sch a1 (m + 1 - 16) = (sch a1 (m - 16)).set m ((wc + xa + wd + xb) % 4294967296) by
                    rw [show m + 1 - 16 = (m - 16) + 1 by omega]
                    show stepW (sch a1 (m - 16)) (16 + (m - 16)) = _
                    unfold stepW
                    rw [show 16 + (m - 16) = m by omega, HWA.out, HWB.out, HWC.out, HWD.out]
                    unfold sg0 sg1
                    rw [HXA.out, HXB.out]]
                  exact U_put (blk_drewN BKW.out _) m _
                · exact Kd.R_set (Kd.R_drewN HO2.out _) (blk_drewN BKW.out _) (by simp [Kd.int, Kd.scalar]) m _
                · exact below_set (pw_below_drewN HB.out _) GEW.out
            | zero =>
              obtain rfl : m = 64 := by have := HJ.out.1; omega
              go_wp2_with (fail)
              have hv8 := H8.out
              go_loopg [107] 64 (fun kq v107 w' => ∃ (n : Nat) (v0 v1 v2' v3 v4 v5 v6 v7 : Int), v107 = .int .i64 n ∧ Aside0 (n + kq = 64) ∧ Aside0 (rnds l0 (sch a1 48) n = [v0, v1, v2', v3, v4, v5, v6, v7]) ∧ Aside0 (w'.heap[gv]? = some (.cells (U [v0, v1, v2', v3, v4, v5, v6, v7]) 58 (0, 0))) ∧ Aside0 (w'.heap[gw]? = some (.cells (U (sch a1 48)) 60 (0, 0))) ∧ Aside0 ((Kd.int .i64).R 3 w' w.heap.size (fun _ => True) v2 l0) ∧ Aside0 (Below w.heap.size w w'))
              case atStart =>
                obtain ⟨v0, v1, v2', v3, v4, v5, v6, v7, e8⟩ := eight l0 H8.out
                exact ⟨0, v0, v1, v2', v3, v4, v5, v6, v7, rfl, ⟨rfl⟩, ⟨e8⟩, ⟨e8 ▸ BKV.out⟩, BKW, HO2, HB⟩
              case round =>
                clear HB BKV HO2 BKW HJ hv8
                obtain ⟨n, a0, a1', a2, a3, a4, a5, a6, a7, rfl, HJ, HRN, BKV, BKW, HO2, HB⟩ := hrel
                cases gk with
                | succ k1 =>
                  have hn : n < 64 := by have := HJ.out; omega
                  have hjl : decide ((n : Int) < 64) = true := decide_eq_true (by omega)
                  have hc0 : wr.cell? ⟨gv, 0, none⟩ = some (.int .u32 a0) := U_cell BKV.out 0 (by simp)
                  have hc1 : wr.cell? ⟨gv, 1, none⟩ = some (.int .u32 a1') := U_cell BKV.out 1 (by simp)
                  have hc2 : wr.cell? ⟨gv, 2, none⟩ = some (.int .u32 a2) := U_cell BKV.out 2 (by simp)
                  have hc3 : wr.cell? ⟨gv, 3, none⟩ = some (.int .u32 a3) := U_cell BKV.out 3 (by simp)
                  have hc4 : wr.cell? ⟨gv, 4, none⟩ = some (.int .u32 a4) := U_cell BKV.out 4 (by simp)
                  have hc5 : wr.cell? ⟨gv, 5, none⟩ = some (.int .u32 a5) := U_cell BKV.out 5 (by simp)
                  have hc6 : wr.cell? ⟨gv, 6, none⟩ = some (.int .u32 a6) := U_cell BKV.out 6 (by simp)
                  have hc7 : wr.cell? ⟨gv, 7, none⟩ = some (.int .u32 a7) := U_cell BKV.out 7 (by simp)
                  go_wp2_with (fail)
                  go_quiet (fail)
                  go_wp2_with (first | (go_at_call 54; (with_reducible refine (bits_RotateLeft32.calls _ _ _ _ (rotf _ _)).mono ?_); rintro e w1 ⟨rfl, ⟨nd, rfl⟩⟩))
                  have hk := pw_cell_below HB.out (tab_cell HT.out n hn)
                  have hw := U_cell BKW.out n (by rw [sch_len]; omega)
                  have hfz0 := blk_frozen BKV.out 0
                  have hfz1 := blk_frozen BKV.out 1
                  have hfz2 := blk_frozen BKV.out 2
                  have hfz3 := blk_frozen BKV.out 3
                  have hfz4 := blk_frozen BKV.out 4
                  have hfz5 := blk_frozen BKV.out 5
                  have hfz6 := blk_frozen BKV.out 6
                  have hfz7 := blk_frozen BKV.out 7
                  obtain ⟨kk, hkk⟩ : ∃ kk, kWords.getD n 0 = kk := ⟨_, rfl⟩
                  obtain ⟨ww, hww⟩ : ∃ ww, (sch a1 48).getD n 0 = ww := ⟨_, rfl⟩
                  rw [hkk] at hk
                  rw [hww] at hw
                  have HKK := Aside0.mk hkk
                  have HWW := Aside0.mk hww
                  clear hkk hww
                  go_quiet (fail)
                  go_wp2_with (first | (go_at_call 54; (with_reducible refine (bits_RotateLeft32.calls _ _ _ _ (rotf _ _)).mono ?_); rintro e w1 ⟨rfl, ⟨nd, rfl⟩⟩))
                  go_roundg k1
                  case measure => have := HJ.out; omega
                  case rel =>
                    refine ⟨n + 1, _, _, _, _, _, _, _, _, by simp, ⟨by have := HJ.out; omega⟩, ⟨?_⟩, ⟨st8_blk (blk_drewN BKV.out _) _ _ _ _ _ _ _ _⟩, ⟨st8_far (blk_drewN BKW.out _) HGW.out.symm _ _ _ _ _ _ _ _⟩, ⟨st8_R (Kd.R_drewN HO2.out _) (blk_drewN BKV.out _) (by decide) _ _ _ _ _ _ _ _⟩, ⟨st8_below (pw_below_drewN HB.out _) GEV.out _ _ _ _ _ _ _ _⟩⟩
                    show rnd (rnds l0 (sch a1 48) n) (kWords.getD n 0) ((sch a1 48).getD n 0) = _
                    rw [HRN.out, HKK.out, HWW.out]
                    rfl
                | zero =>
                  obtain rfl : n = 64 := by have := HJ.out; omega
                  obtain ⟨A2, cb, rfl, _, hC2⟩ := Kd.R_reads HO2.out
                  obtain ⟨ad2, rfl, _⟩ := hC2.2.2 (by have := H8.out; omega)
                  obtain ⟨gb, rfl⟩ := Kd.R_head HO2.out
                  have hgb : gv ≠ gb := by
                    intro e_; exact Kd.R_ne HO2.out BKV.out (by decide) (by rw [e_]; rfl)
                  have hbs : w.heap.size ≤ gb := Kd.R_base HO2.out gb rfl
                  have HGB := Aside0.mk hgb
                  have HBS := Aside0.mk hbs
                  clear hgb hbs hC2
                  have n0_ := HO2
                  rw [H8.out] at n0_
                  clear HO2
                  have HO2 := n0_
                  clear n0_
                  have hl8 : (l0.length : Int) = 8 := by have := H8.out; omega
                  rw [show (l0.length) = 8 from H8.out]
                  clear hl8
                  go_wp2_with (fail)
                  go_loopg [194] 8 (fun kq v194 w' => ∃ (n : Nat), v194 = .int .i64 n ∧ Aside0 (n + kq = 8) ∧ Aside0 (w'.heap[gv]? = some (.cells (U [a0, a1', a2, a3, a4, a5, a6, a7]) 58 (0, 0))) ∧ Aside0 ((Kd.int .i64).R 3 w' w.heap.size (fun _ => True) (.slice (some ⟨gb, 0, none⟩) 8 cb) (outs l0 [a0, a1', a2, a3, a4, a5, a6, a7] n)) ∧ Aside0 (Below w.heap.size w w'))
                  case atStart => exact ⟨0, rfl, ⟨rfl⟩, BKV, HO2, HB⟩
                  case round =>
                    clear HB BKV HO2 BKW HJ
                    obtain ⟨n, rfl, HJ, BKV, HO2, HB⟩ := hrel
                    cases gk with
                    | succ k1 =>
                      have hn : n < 8 := by have := HJ.out; omega
                      have hjl : decide ((n : Int) < 8) = true := decide_eq_true (by omega)
                      have hcv := U_cell BKV.out n (by simp; omega)
                      obtain ⟨hco, hfo⟩ := Kd.R_celln (0 : Int) HO2.out (n : Int) (by omega) (by omega)
                      rw [Int.toNat_natCast] at hco hfo
                      rw [show rdOf (0 : Int) (outs l0 [a0, a1', a2, a3, a4, a5, a6, a7] n) (n : Int) = l0.getD n 0 from outs_at _ _ _ H8.out hn] at hco
                      obtain ⟨r0, r1⟩ := half_rng (HF.out (l0.getD n 0) (by have := H8.out; simp [List.getD, show n < l0.length by omega]))
                      obtain ⟨xo, hxo⟩ : ∃ xo, l0.getD n 0 = xo := ⟨_, rfl⟩
                      obtain ⟨xv, hxv⟩ : ∃ xv, [a0, a1', a2, a3, a4, a5, a6, a7].getD n 0 = xv := ⟨_, rfl⟩
                      rw [hxo] at hco r0 r1
                      rw [hxv] at hcv
                      have HXO := Aside0.mk hxo
                      have HXV := Aside0.mk hxv
                      clear hxo hxv
                      go_wp2_with (fail)
                      go_region
                      go_wp2
                      go_roundg k1
                      case measure => have := HJ.out; omega
                      case rel =>
                        refine ⟨n + 1, by simp, ⟨by have := HJ.out; omega⟩, ⟨?_⟩, ⟨?_⟩, ⟨?_⟩⟩
                        · exact blk_far (blk_drewN BKV.out _) HGB.out _
                        · refine Kd.R_drew ?_
                          rw [← outs_set l0 [a0, a1', a2, a3, a4, a5, a6, a7] n H8.out hn, HXO.out, HXV.out]
                          have h_ := Kd.R_putn HO2.out (n : Int) ((xo + xv) % 4294967296)
                          rw [Int.toNat_natCast] at h_
                          exact h_
                        · exact below_set (pw_below_drewN HB.out _) HBS.out
                    | zero =>
                      obtain rfl : n = 8 := by have := HJ.out; omega
                      go_wp2
                      go_ret
                      refine ⟨_, rfl, ?_, HB.out⟩
                      unfold shaB
                      rw [HRN.out]
                      exact HO2.out
end Go.Proofs.YtfbhkglgaehohaaDoor.PH
namespace Go.Proofs.YtfbhkglgaehohaaDoor.PA
open Go.RowKit Go.Proofs.YtfbhkglgaehohaaDoorW.PrintWords Go.Proofs.YtfbhkglgaehohaaDoorW.PrintLast Go.Proofs.YtfbhkglgaehohaaDoorW.PrintMore
/-- The table of the rounds lies in memory. -/
def Tab (w : World) : Prop := PH.Tab w
theorem tab_of {w w' : World} (h : Tab w) (hb : Below w.heap.size w w') : Tab w' := by
  unfold Tab PH.Tab Lib.TabIs at h ⊢
  rw [← h]
  have hg : (0 : Nat) < w.heap.size := World.block_lt_of_cell? w _ (PH.tab_cell h 0 (by decide))
  have e := hb.block 0 hg
  unfold World.var?
  rw [PH.shaGlobal, Option.bind_some, Option.bind_some, e]
def impl_ShaBlock.f (a0 : List Int) (a1 : ByteArray) : Option (List Int) := if a0.length = 8 ∧ a1.size = 64 ∧ ∀ x ∈ a0, 0 ≤ x ∧ x ≤ 4294967295 then some (PH.shaB a0 a1) else none
theorem impl_ShaBlock.calls (A0 : Option Addr) (c0 : Nat) (l0 : List Int) (a1 : ByteArray) (r : List Int) (w : World) (hr0 : Kd.C (Kd.int .i64) w A0 l0.length l0) (hc0 : l0.length ≤ c0) (hT : Tab w) (h : impl_ShaBlock.f l0 a1 = some r) :
    Calls Tryd.prog 46 #[.slice A0 l0.length c0, .string a1] w fun e w' => ∃ v0_ : Value, e = .returned (v0_) ∧ Kd.R (Kd.int .i64) 3 w' w.heap.size (fun _ => True) v0_ r ∧ Below w.heap.size w w' := by
  unfold impl_ShaBlock.f at h
  split at h
  · rename_i hc
    obtain rfl := Option.some.inj h
    refine PH.sha_calls A0 c0 l0 a1 w hr0 hc0 hc.1 hc.2.1 (fun x hx => ?_) hT
    have hr := hc.2.2 x hx
    unfold PH.impl_HalfOk.f PH.impl_within.f
    rw [if_pos hr.1]
    simp [hr.2]
  · cases h
end Go.Proofs.YtfbhkglgaehohaaDoor.PA
