-- Written by a program of this session (wip/patch.py turns a copy of the kit's print): the functions that the law reaches, and their walks.
import Derived.Test.YtopbiecjfhfhdaaPFnExactInsOkx0
import Derived.Test.YtopbiecjfhfhdaaPFnExactInsOkx1
import Derived.Test.YtopbiecjfhfhdaaCFnExactInsOk
namespace Go.Proofs.Ytopbiecjfhfhdaa.PFnExactInsOk
open Go.RowKit Go.Proofs.YtopbiecjfhfhdaaW.PrintWords Go.Proofs.YtopbiecjfhfhdaaW.PrintLast Go.Proofs.YtopbiecjfhfhdaaW.PrintMore Go.Proofs.YtopbiecjfhfhdaaW.Mine
attribute [local go_sem] max2_int min2_int max_two min_two max_three min_three max_four min_four   -- for this text's walks alone
set_option linter.unusedVariables false
set_option linter.unusedSimpArgs false

/-! ### impl_partOf: function 39 -/
def impl_partOf.f (a0_0 : Int) (a0_1 : Int) (a0_2 : Int) (a0_3 : Int) (a0_4 : Int) (a1 : Int) : Option (Int) := if a1 = 82 then (some a0_1) else (if a1 = 65 then (some a0_2) else (if a1 = 66 then (some a0_3) else (some a0_4)))
set_option maxHeartbeats 8000000 in
set_option maxRecDepth 100000 in
theorem impl_partOf.calls (a0_0 : Int) (a0_1 : Int) (a0_2 : Int) (a0_3 : Int) (a0_4 : Int) (a1 : Int) (r : Int) (w : World) (h : impl_partOf.f a0_0 a0_1 a0_2 a0_3 a0_4 a1 = some r) :
    Calls Try.prog 39 #[.agg #[.int .i64 a0_0, .int .i64 a0_1, .int .i64 a0_2, .int .i64 a0_3, .int .i64 a0_4], .int .u8 a1] w fun e w' => e = .returned (.int .i64 r) ∧ Below w.heap.size w w' := by
  have hu25 := Try.underlying25
  have HB := Aside0.mk (Below.refl w.heap.size w)
  have H : (if a1 = 82 then (some a0_1) else (if a1 = 65 then (some a0_2) else (if a1 = 66 then (some a0_3) else (some a0_4)))) = some r := h
  clear h
  by_cases c3 : a1 = 82
  · rw [if_pos c3] at H
    have c3b0 : (a1 == 82) = true := beq_iff_eq.mpr c3
    have c3b1 : (a1 != 82) = false := bne_eq_false_iff_eq.mpr c3
    clear c3
    obtain rfl := Option.some.inj H
    go_enter Try.func39, Try.ntmps39
    go_wp2_with (first | ((with_reducible refine gate_dst (N := 2) rfl ?_); refine box_event ?hg (N := 2) ?hd (cs := #[.int .i64 a0_0, .int .i64 a0_1, .int .i64 a0_2, .int .i64 a0_3, .int .i64 a0_4]) (t := 25) ?hr ?_; (case hd => rfl); (case hg => rfl); (case hr => first | (go_simp; done) | (go_simp; rfl)); intro gb119 hg w4 hbox hb; have n0_ := nbs HB hb; have n1_ := Aside0.mk (hbox); have n2_ := nge HB hg; have n3_ := nge HB hg; clear HB; have HB := n0_; have BK119 := n1_; have GW119 := n2_; have GE119 := n3_; clear n0_ n1_ n2_ n3_; clear hb hbox hg; obtain ⟨hcz5_0, hcz5_1, hcz5_2, hcz5_3, hcz5_4⟩ := c5e BK119; have hfz5_0 := blk_frozen BK119.out 0; have hfz5_1 := blk_frozen BK119.out 1; have hfz5_2 := blk_frozen BK119.out 2; have hfz5_3 := blk_frozen BK119.out 3; have hfz5_4 := blk_frozen BK119.out 4))
    go_ret
    exact ⟨by first | rfl | (simp [errW_none, errW_some] <;> rfl) | (simp [*, errW_none, errW_some] <;> rfl), by repeat (first | (with_reducible first | exact HB.out | apply below_alloc | apply pw_below_drewN | apply below_drew1 | refine below_set ?_ GE119.out) | exact HB.out)⟩
  · rw [if_neg c3] at H
    have c3b0 : (a1 == 82) = false := beq_eq_false_iff_ne.mpr c3
    have c3b1 : (a1 != 82) = true := bne_iff_ne.mpr c3
    by_cases c6 : a1 = 65
    · rw [if_pos c6] at H
      have c6b0 : (a1 == 65) = true := beq_iff_eq.mpr c6
      have c6b1 : (a1 != 65) = false := bne_eq_false_iff_eq.mpr c6
      clear c6
      obtain rfl := Option.some.inj H
      go_enter Try.func39, Try.ntmps39
      go_wp2_with (first | ((with_reducible refine gate_dst (N := 2) rfl ?_); refine box_event ?hg (N := 2) ?hd (cs := #[.int .i64 a0_0, .int .i64 a0_1, .int .i64 a0_2, .int .i64 a0_3, .int .i64 a0_4]) (t := 25) ?hr ?_; (case hd => rfl); (case hg => rfl); (case hr => first | (go_simp; done) | (go_simp; rfl)); intro gb119 hg w7 hbox hb; have n0_ := nbs HB hb; have n1_ := Aside0.mk (hbox); have n2_ := nge HB hg; have n3_ := nge HB hg; clear HB; have HB := n0_; have BK119 := n1_; have GW119 := n2_; have GE119 := n3_; clear n0_ n1_ n2_ n3_; clear hb hbox hg; obtain ⟨hcz8_0, hcz8_1, hcz8_2, hcz8_3, hcz8_4⟩ := c5e BK119; have hfz8_0 := blk_frozen BK119.out 0; have hfz8_1 := blk_frozen BK119.out 1; have hfz8_2 := blk_frozen BK119.out 2; have hfz8_3 := blk_frozen BK119.out 3; have hfz8_4 := blk_frozen BK119.out 4))
      go_ret
      exact ⟨by first | rfl | (simp [errW_none, errW_some] <;> rfl) | (simp [*, errW_none, errW_some] <;> rfl), by repeat (first | (with_reducible first | exact HB.out | apply below_alloc | apply pw_below_drewN | apply below_drew1 | refine below_set ?_ GE119.out) | exact HB.out)⟩
    · rw [if_neg c6] at H
      have c6b0 : (a1 == 65) = false := beq_eq_false_iff_ne.mpr c6
      have c6b1 : (a1 != 65) = true := bne_iff_ne.mpr c6
      by_cases c9 : a1 = 66
      · rw [if_pos c9] at H
        have c9b0 : (a1 == 66) = true := beq_iff_eq.mpr c9
        have c9b1 : (a1 != 66) = false := bne_eq_false_iff_eq.mpr c9
        clear c9
        obtain rfl := Option.some.inj H
        go_enter Try.func39, Try.ntmps39
        go_wp2_with (first | ((with_reducible refine gate_dst (N := 2) rfl ?_); refine box_event ?hg (N := 2) ?hd (cs := #[.int .i64 a0_0, .int .i64 a0_1, .int .i64 a0_2, .int .i64 a0_3, .int .i64 a0_4]) (t := 25) ?hr ?_; (case hd => rfl); (case hg => rfl); (case hr => first | (go_simp; done) | (go_simp; rfl)); intro gb119 hg w10 hbox hb; have n0_ := nbs HB hb; have n1_ := Aside0.mk (hbox); have n2_ := nge HB hg; have n3_ := nge HB hg; clear HB; have HB := n0_; have BK119 := n1_; have GW119 := n2_; have GE119 := n3_; clear n0_ n1_ n2_ n3_; clear hb hbox hg; obtain ⟨hcz11_0, hcz11_1, hcz11_2, hcz11_3, hcz11_4⟩ := c5e BK119; have hfz11_0 := blk_frozen BK119.out 0; have hfz11_1 := blk_frozen BK119.out 1; have hfz11_2 := blk_frozen BK119.out 2; have hfz11_3 := blk_frozen BK119.out 3; have hfz11_4 := blk_frozen BK119.out 4))
        go_ret
        exact ⟨by first | rfl | (simp [errW_none, errW_some] <;> rfl) | (simp [*, errW_none, errW_some] <;> rfl), by repeat (first | (with_reducible first | exact HB.out | apply below_alloc | apply pw_below_drewN | apply below_drew1 | refine below_set ?_ GE119.out) | exact HB.out)⟩
      · rw [if_neg c9] at H
        have c9b0 : (a1 == 66) = false := beq_eq_false_iff_ne.mpr c9
        have c9b1 : (a1 != 66) = true := bne_iff_ne.mpr c9
        obtain rfl := Option.some.inj H
        go_enter Try.func39, Try.ntmps39
        go_wp2_with (first | ((with_reducible refine gate_dst (N := 2) rfl ?_); refine box_event ?hg (N := 2) ?hd (cs := #[.int .i64 a0_0, .int .i64 a0_1, .int .i64 a0_2, .int .i64 a0_3, .int .i64 a0_4]) (t := 25) ?hr ?_; (case hd => rfl); (case hg => rfl); (case hr => first | (go_simp; done) | (go_simp; rfl)); intro gb119 hg w12 hbox hb; have n0_ := nbs HB hb; have n1_ := Aside0.mk (hbox); have n2_ := nge HB hg; have n3_ := nge HB hg; clear HB; have HB := n0_; have BK119 := n1_; have GW119 := n2_; have GE119 := n3_; clear n0_ n1_ n2_ n3_; clear hb hbox hg; obtain ⟨hcz13_0, hcz13_1, hcz13_2, hcz13_3, hcz13_4⟩ := c5e BK119; have hfz13_0 := blk_frozen BK119.out 0; have hfz13_1 := blk_frozen BK119.out 1; have hfz13_2 := blk_frozen BK119.out 2; have hfz13_3 := blk_frozen BK119.out 3; have hfz13_4 := blk_frozen BK119.out 4))
        go_ret
        exact ⟨by first | rfl | (simp [errW_none, errW_some] <;> rfl) | (simp [*, errW_none, errW_some] <;> rfl), by repeat (first | (with_reducible first | exact HB.out | apply below_alloc | apply pw_below_drewN | apply below_drew1 | refine below_set ?_ GE119.out) | exact HB.out)⟩

/-! ### impl_in: function 40 -/
def impl_in.f (a0 : Int) (a1 : Int) (a2 : Int) : Option (Bool) := if a0 ≥ a1 then (some (decide (a0 ≤ a2))) else (some false)
set_option maxHeartbeats 8000000 in
set_option maxRecDepth 100000 in
theorem impl_in.calls (a0 : Int) (a1 : Int) (a2 : Int) (r : Bool) (w : World) (h : impl_in.f a0 a1 a2 = some r) :
    Calls Try.prog 40 #[.int .i64 a0, .int .i64 a1, .int .i64 a2] w fun e w' => e = .returned (.bool r) ∧ Drawn0 w w' := by
  have H : (if a0 ≥ a1 then (some (decide (a0 ≤ a2))) else (some false)) = some r := h
  clear h
  by_cases c4 : a0 ≥ a1
  · rw [if_pos c4] at H
    have c4b0 : decide (a1 ≤ a0) = true := decide_eq_true c4
    clear c4
    obtain rfl := Option.some.inj H
    go_enter Try.func40, Try.ntmps40
    go_wp2
    go_ret
    exact ⟨by first | rfl | (simp; done) | (simp [*]; done), by repeat (first | exact Drawn0.refl _ | apply Drawn0.step)⟩
  · rw [if_neg c4] at H
    have c4b0 : decide (a1 ≤ a0) = false := decide_eq_false c4
    clear c4
    obtain rfl := Option.some.inj H
    go_enter Try.func40, Try.ntmps40
    go_wp2
    go_ret
    exact ⟨by first | rfl | (simp; done) | (simp [*]; done), by repeat (first | exact Drawn0.refl _ | apply Drawn0.step)⟩

/-! ### impl_InsOk: function 14 -/
def impl_InsOk.l0 : Nat → Bool → Int → Int → Int → Int → Int → Int → Option (Bool)
  | 0, _, _, _, _, _, _, _ => none
  | k + 1, x4, i, op, r, a, b, n => if i < 4 then (if 0 ≤ i then ((impl_partOf.f op r a b n (rd [82, 65, 66, 78] i)).bind fun t => ((impl_hasPart.f k op r a b n (rd [82, 65, 66, 78] i)).bind fun h => (if h = true then (if (rd [82, 65, 66, 78] i) = 78 then (if x4 = true then ((impl_in.f t (-128) 127).bind fun q => (impl_InsOk.l0 k q (wrap64 (i + 1)) op r a b n)) else (impl_InsOk.l0 k false (wrap64 (i + 1)) op r a b n)) else (if x4 = true then ((impl_in.f t 0 7).bind fun q => (impl_InsOk.l0 k q (wrap64 (i + 1)) op r a b n)) else (impl_InsOk.l0 k false (wrap64 (i + 1)) op r a b n))) else (if x4 = true then (impl_InsOk.l0 k (t == 0) (wrap64 (i + 1)) op r a b n) else (impl_InsOk.l0 k false (wrap64 (i + 1)) op r a b n))))) else none) else (some x4)
def impl_InsOk.f (k : Nat) (a0_0 : Int) (a0_1 : Int) (a0_2 : Int) (a0_3 : Int) (a0_4 : Int) : Option (Bool) := (impl_formOf.f k a0_0).bind fun bt => (impl_InsOk.l0 k bt.2 0 a0_0 a0_1 a0_2 a0_3 a0_4)
theorem impl_InsOk.mono_l : ∀ k, (∀ y0 y1 y2 y3 y4 y5 y6, LeO (impl_InsOk.l0 k y0 y1 y2 y3 y4 y5 y6) (impl_InsOk.l0 (k + 1) y0 y1 y2 y3 y4 y5 y6))
  | 0 => fun _ _ _ _ _ _ _ r h => by simp [impl_InsOk.l0] at h
  | k + 1 => by
    have ih0 := impl_InsOk.mono_l k
    · intro y0 y1 y2 y3 y4 y5 y6
      unfold impl_InsOk.l0
      repeat' first
      | (with_reducible exact ih0 _ _ _ _ _ _ _)
      | (with_reducible exact impl_hasPart.mono _ _ _ _ _ _ _)
      | (with_reducible exact impl_formOf.mono _ _)
      | (with_reducible exact LeO.refl _)
      | (with_reducible exact LeO.none _)
      | (with_reducible refine LeO.ite ?_ ?_)
      | (with_reducible refine LeO.bind ?_ (fun _ => ?_))
      | exact ih0 _ _ _ _ _ _ _
      | exact impl_hasPart.mono _ _ _ _ _ _ _
      | exact impl_formOf.mono _ _
      | exact LeO.none _
      | refine LeO.ite ?_ ?_
      | refine LeO.bind ?_ (fun _ => ?_)
theorem impl_InsOk.mono : ∀ a0 a1 a2 a3 a4 k, LeO (impl_InsOk.f k a0 a1 a2 a3 a4) (impl_InsOk.f (k + 1) a0 a1 a2 a3 a4) := by
  intro a0 a1 a2 a3 a4 k
  have ih0 := impl_InsOk.mono_l k
  unfold impl_InsOk.f
  repeat' first
      | (with_reducible exact ih0 _ _ _ _ _ _ _)
      | (with_reducible exact impl_hasPart.mono _ _ _ _ _ _ _)
      | (with_reducible exact impl_formOf.mono _ _)
      | (with_reducible exact LeO.refl _)
      | (with_reducible exact LeO.none _)
      | (with_reducible refine LeO.ite ?_ ?_)
      | (with_reducible refine LeO.bind ?_ (fun _ => ?_))
      | exact ih0 _ _ _ _ _ _ _
      | exact impl_hasPart.mono _ _ _ _ _ _ _
      | exact impl_formOf.mono _ _
      | exact LeO.none _
      | refine LeO.ite ?_ ?_
      | refine LeO.bind ?_ (fun _ => ?_)
theorem impl_InsOk.mk_cell {W : World} {g : Nat} {cs : Array Value} {t : TypeId} {fr : Nat × Nat} {v : Value} (h : W.heap[g]? = some (.cells cs t fr)) (j : Nat) (hj : cs[j]? = some v) : W.cell? ⟨g, j, none⟩ = some v := by
  simp [World.cell?, h, hj]
theorem impl_InsOk.byte {W : World} {g : Nat} (h : W.heap[g]? = some (.cells #[.int .u8 82, .int .u8 65, .int .u8 66, .int .u8 78] 5 (4, 5))) (i : Int) (h0 : 0 ≤ i) (h1 : i < 4) : W.cell? ⟨g, i.toNat, none⟩ = some (.int .u8 (rd [82, 65, 66, 78] i)) := by
  rcases (show i = 0 ∨ i = 1 ∨ i = 2 ∨ i = 3 by omega) with rfl | rfl | rfl | rfl <;> exact impl_InsOk.mk_cell h _ rfl
set_option maxHeartbeats 8000000 in
set_option maxRecDepth 100000 in
theorem impl_InsOk.calls (k : Nat) (a0_0 : Int) (a0_1 : Int) (a0_2 : Int) (a0_3 : Int) (a0_4 : Int) (r : Bool) (w : World) (h : impl_InsOk.f k a0_0 a0_1 a0_2 a0_3 a0_4 = some r) :
  Calls Try.prog 14 #[.agg #[.int .i64 a0_0, .int .i64 a0_1, .int .i64 a0_2, .int .i64 a0_3, .int .i64 a0_4]] w fun e w' => e = .returned (.bool r) ∧ Below w.heap.size w w' := by
 obtain ⟨⟨s, b⟩, A80, H⟩ := Option.bind_eq_some_iff.mp h
 have A8 := Aside0.mk A80
 have H' : Aside0 (impl_InsOk.l0 k b 0 a0_0 a0_1 a0_2 a0_3 a0_4 = some r) := ⟨H⟩
 clear A80 h H
 have HB := Aside0.mk (Below.refl w.heap.size w)
 have kc : ∀ W : World, (convert 42 42 (.slice (some ⟨W.heap.size, 0, none⟩) 4 4)).run Try.prog (W.alloc (.cells #[.int .u8 82, .int .u8 65, .int .u8 66, .int .u8 78] 5)) = .ok (.slice (some ⟨W.heap.size, 0, none⟩) 4 4) (W.alloc (.cells #[.int .u8 82, .int .u8 65, .int .u8 66, .int .u8 78] 5 (4, 5))) := fun W => Lib.run_convert_bytes_const (P := Try.prog) W 42 5 _ 4 4 Try.underlying42 Try.underlying5
 go_enter Try.func14, Try.ntmps14
 go_wp2_with (first | ((with_reducible refine gate_dst (N := 1) rfl ?_); refine box_event ?hg (N := 1) ?hd (cs := #[.int .i64 a0_0, .int .i64 a0_1, .int .i64 a0_2, .int .i64 a0_3, .int .i64 a0_4]) (t := 25) ?hr ?_; (case hd => rfl); (case hg => rfl); (case hr => first | (go_simp; done) | (go_simp; rfl)); intro gb hg w3 hbox hb; have BK := Aside0.mk (hbox); replace HB := nbs HB hb; clear hb hbox hg; obtain ⟨hcz_0, hcz_1, hcz_2, hcz_3, hcz_4⟩ := c5e BK) | ((with_reducible refine gate_callee (f := 38) rfl ?_); refine goesM (some 11) rfl rfl Try.func38 (by kernel_rfl) rfl #[.int .i64 a0_0] rfl ?_; (with_reducible refine (impl_formOf.calls k a0_0 s b _ A8.out).mono ?_); rintro e w4 ⟨rfl, hd⟩; have hb := hd.below; refine ⟨_, rfl, ?_⟩; replace BK := nblk BK hb; replace HB := nbs HB hb; clear hb hd hcz_0 hcz_1 hcz_2 hcz_3 hcz_4))
 have BY : Aside0 ((w4.alloc (.cells #[.int .u8 82, .int .u8 65, .int .u8 66, .int .u8 78] 5 (4, 5))).heap[w4.heap.size]? = some (.cells #[.int .u8 82, .int .u8 65, .int .u8 66, .int .u8 78] 5 (4, 5))) := ⟨by show (w4.heap.push _)[w4.heap.size]? = _; simp⟩
 clear kc
 go_loopg [4, 17] k (fun kq v4 v17 w' => ∃ (x4 : Bool) (x17 : Int), v4 = .bool x4 ∧ v17 = .int .i64 x17 ∧ Aside0 (impl_InsOk.l0 kq x4 x17 a0_0 a0_1 a0_2 a0_3 a0_4 = some r) ∧ Aside0 (kq ≤ k) ∧ Aside0 (w'.heap[w4.heap.size]? = some (.cells #[.int .u8 82, .int .u8 65, .int .u8 66, .int .u8 78] 5 (4, 5))) ∧ Aside0 (w'.heap[gb]? = some (.cells #[.int .i64 a0_0, .int .i64 a0_1, .int .i64 a0_2, .int .i64 a0_3, .int .i64 a0_4] 25 (0, 0))) ∧ Aside0 (Below w.heap.size w w'))
 case atStart => exact ⟨b, 0, rfl, rfl, H', ⟨Nat.le_refl _⟩, BY, ⟨blk_alloc BK.out _⟩, ⟨below_alloc HB.out _⟩⟩
 case round =>
  clear H' BY BK HB
  obtain ⟨x4, x17, rfl, rfl, HA, HK, BY, BK, HB⟩ := hrel
  cases gk with
  | zero => exact absurd HA.out (by simp [impl_InsOk.l0])
  | succ k1 =>
   have H := HA.out
   clear HA
   simp only [impl_InsOk.l0] at H
   by_cases c8 : x17 < 4
   · rw [if_pos c8] at H
     by_cases c9 : 0 ≤ x17
     · rw [if_pos c9] at H
       replace H := Option.bind_eq_some_iff.mp H
       obtain ⟨t, A110, H⟩ := H
       have A11 := Aside0.mk A110
       replace H := Option.bind_eq_some_iff.mp H
       obtain ⟨hh, A120, H⟩ := H
       have A12 := Aside0.mk A120
       clear A110 A120
       have hby := impl_InsOk.byte BY.out x17 c9 c8
       obtain ⟨hcz_0, hcz_1, hcz_2, hcz_3, hcz_4⟩ := c5e BK
       have c8b : decide (x17 < (4 : Int)) = true := decide_eq_true c8
       have c9b : decide (0 ≤ x17) = true := decide_eq_true c9
       replace c8 := eq_true c8
       replace c9 := eq_true c9
       obtain ⟨q, hq⟩ : ∃ q, q = rd [82, 65, 66, 78] x17 := ⟨_, rfl⟩
       rw [← hq] at hby A11 A12 H
       clear hq
       cases hh with
       | true =>
         by_cases c14 : q = 78
         · have c14b : (q == 78) = true := beq_iff_eq.mpr c14
           rw [if_pos rfl, if_pos c14] at H
           clear c14
           cases x4 with
           | true =>
             rw [if_pos rfl] at H
             replace H := Option.bind_eq_some_iff.mp H
             obtain ⟨t2, A160, H⟩ := H
             have A16 := Aside0.mk A160
             have H' := Aside0.mk H
             clear A160 H
             go_wp2_with (first | (go_at_call 39; (with_reducible refine (impl_partOf.calls a0_0 a0_1 a0_2 a0_3 a0_4 q t _ A11.out).mono ?_); rintro e wA ⟨rfl, hb⟩; replace BY := nblk BY hb; replace BK := nblk BK hb; replace HB := nbs HB hb; clear hb hcz_0 hcz_1 hcz_2 hcz_3 hcz_4; obtain ⟨hcz_0, hcz_1, hcz_2, hcz_3, hcz_4⟩ := c5e BK) | (go_at_call 35; (with_reducible refine (impl_hasPart.calls k1 a0_0 a0_1 a0_2 a0_3 a0_4 q true _ A12.out).mono ?_); rintro e wB ⟨rfl, hb⟩; replace BY := nblk BY hb; replace BK := nblk BK hb; replace HB := nbs HB hb; clear hb) | (go_at_call 40; (with_reducible refine (impl_in.calls t (-128) 127 t2 _ A16.out).mono ?_); rintro e wC ⟨rfl, ⟨nd, rfl⟩⟩))
             go_roundg k1
             case measure => have := HK.out; omega
             case rel => exact ⟨_, _, rfl, rfl, H', ⟨by have := HK.out; omega⟩, ⟨nb BY⟩, ⟨nb BK⟩, ⟨nbe HB⟩⟩
           | false =>
             rw [if_neg (by simp)] at H
             have H' := Aside0.mk H
             clear H
             go_wp2_with (first | (go_at_call 39; (with_reducible refine (impl_partOf.calls a0_0 a0_1 a0_2 a0_3 a0_4 q t _ A11.out).mono ?_); rintro e wA ⟨rfl, hb⟩; replace BY := nblk BY hb; replace BK := nblk BK hb; replace HB := nbs HB hb; clear hb hcz_0 hcz_1 hcz_2 hcz_3 hcz_4; obtain ⟨hcz_0, hcz_1, hcz_2, hcz_3, hcz_4⟩ := c5e BK) | (go_at_call 35; (with_reducible refine (impl_hasPart.calls k1 a0_0 a0_1 a0_2 a0_3 a0_4 q true _ A12.out).mono ?_); rintro e wB ⟨rfl, hb⟩; replace BY := nblk BY hb; replace BK := nblk BK hb; replace HB := nbs HB hb; clear hb))
             go_roundg k1
             case measure => have := HK.out; omega
             case rel => exact ⟨_, _, rfl, rfl, H', ⟨by have := HK.out; omega⟩, ⟨nb BY⟩, ⟨nb BK⟩, ⟨nbe HB⟩⟩
         · have c14b : (q == 78) = false := beq_eq_false_iff_ne.mpr c14
           rw [if_pos rfl, if_neg c14] at H
           clear c14
           cases x4 with
           | true =>
             rw [if_pos rfl] at H
             replace H := Option.bind_eq_some_iff.mp H
             obtain ⟨t2, A160, H⟩ := H
             have A16 := Aside0.mk A160
             have H' := Aside0.mk H
             clear A160 H
             go_wp2_with (first | (go_at_call 39; (with_reducible refine (impl_partOf.calls a0_0 a0_1 a0_2 a0_3 a0_4 q t _ A11.out).mono ?_); rintro e wA ⟨rfl, hb⟩; replace BY := nblk BY hb; replace BK := nblk BK hb; replace HB := nbs HB hb; clear hb hcz_0 hcz_1 hcz_2 hcz_3 hcz_4; obtain ⟨hcz_0, hcz_1, hcz_2, hcz_3, hcz_4⟩ := c5e BK) | (go_at_call 35; (with_reducible refine (impl_hasPart.calls k1 a0_0 a0_1 a0_2 a0_3 a0_4 q true _ A12.out).mono ?_); rintro e wB ⟨rfl, hb⟩; replace BY := nblk BY hb; replace BK := nblk BK hb; replace HB := nbs HB hb; clear hb) | (go_at_call 40; (with_reducible refine (impl_in.calls t 0 7 t2 _ A16.out).mono ?_); rintro e wC ⟨rfl, ⟨nd, rfl⟩⟩))
             go_roundg k1
             case measure => have := HK.out; omega
             case rel => exact ⟨_, _, rfl, rfl, H', ⟨by have := HK.out; omega⟩, ⟨nb BY⟩, ⟨nb BK⟩, ⟨nbe HB⟩⟩
           | false =>
             rw [if_neg (by simp)] at H
             have H' := Aside0.mk H
             clear H
             go_wp2_with (first | (go_at_call 39; (with_reducible refine (impl_partOf.calls a0_0 a0_1 a0_2 a0_3 a0_4 q t _ A11.out).mono ?_); rintro e wA ⟨rfl, hb⟩; replace BY := nblk BY hb; replace BK := nblk BK hb; replace HB := nbs HB hb; clear hb hcz_0 hcz_1 hcz_2 hcz_3 hcz_4; obtain ⟨hcz_0, hcz_1, hcz_2, hcz_3, hcz_4⟩ := c5e BK) | (go_at_call 35; (with_reducible refine (impl_hasPart.calls k1 a0_0 a0_1 a0_2 a0_3 a0_4 q true _ A12.out).mono ?_); rintro e wB ⟨rfl, hb⟩; replace BY := nblk BY hb; replace BK := nblk BK hb; replace HB := nbs HB hb; clear hb))
             go_roundg k1
             case measure => have := HK.out; omega
             case rel => exact ⟨_, _, rfl, rfl, H', ⟨by have := HK.out; omega⟩, ⟨nb BY⟩, ⟨nb BK⟩, ⟨nbe HB⟩⟩
       | false =>
         rw [if_neg (by simp)] at H
         cases x4 with
         | true =>
           rw [if_pos rfl] at H
           have H' := Aside0.mk H
           clear H
           go_wp2_with (first | (go_at_call 39; (with_reducible refine (impl_partOf.calls a0_0 a0_1 a0_2 a0_3 a0_4 q t _ A11.out).mono ?_); rintro e wA ⟨rfl, hb⟩; replace BY := nblk BY hb; replace BK := nblk BK hb; replace HB := nbs HB hb; clear hb hcz_0 hcz_1 hcz_2 hcz_3 hcz_4; obtain ⟨hcz_0, hcz_1, hcz_2, hcz_3, hcz_4⟩ := c5e BK) | (go_at_call 35; (with_reducible refine (impl_hasPart.calls k1 a0_0 a0_1 a0_2 a0_3 a0_4 q false _ A12.out).mono ?_); rintro e wB ⟨rfl, hb⟩; replace BY := nblk BY hb; replace BK := nblk BK hb; replace HB := nbs HB hb; clear hb))
           go_roundg k1
           case measure => have := HK.out; omega
           case rel => exact ⟨_, _, rfl, rfl, H', ⟨by have := HK.out; omega⟩, ⟨nb BY⟩, ⟨nb BK⟩, ⟨nbe HB⟩⟩
         | false =>
           rw [if_neg (by simp)] at H
           have H' := Aside0.mk H
           clear H
           go_wp2_with (first | (go_at_call 39; (with_reducible refine (impl_partOf.calls a0_0 a0_1 a0_2 a0_3 a0_4 q t _ A11.out).mono ?_); rintro e wA ⟨rfl, hb⟩; replace BY := nblk BY hb; replace BK := nblk BK hb; replace HB := nbs HB hb; clear hb hcz_0 hcz_1 hcz_2 hcz_3 hcz_4; obtain ⟨hcz_0, hcz_1, hcz_2, hcz_3, hcz_4⟩ := c5e BK) | (go_at_call 35; (with_reducible refine (impl_hasPart.calls k1 a0_0 a0_1 a0_2 a0_3 a0_4 q false _ A12.out).mono ?_); rintro e wB ⟨rfl, hb⟩; replace BY := nblk BY hb; replace BK := nblk BK hb; replace HB := nbs HB hb; clear hb))
           go_roundg k1
           case measure => have := HK.out; omega
           case rel => exact ⟨_, _, rfl, rfl, H', ⟨by have := HK.out; omega⟩, ⟨nb BY⟩, ⟨nb BK⟩, ⟨nbe HB⟩⟩
     · rw [if_neg c9] at H
       exact absurd H (by simp)
   · rw [if_neg c8] at H
     obtain rfl : x4 = r := by simpa using H
     clear H
     have c8b : decide (x17 < (4 : Int)) = false := decide_eq_false c8
     go_wp2
     go_ret
     exact ⟨rfl, HB.out⟩

/-! ### laws_FnExactInsOk: function 4 -/
def laws_FnExactInsOk.f (k : Nat) (a0_0 : Int) (a0_1 : Int) (a0_2 : Int) (a0_3 : Int) (a0_4 : Int) : Option (Bool) := (laws_toIns.f a0_0 a0_1 a0_2 a0_3 a0_4).bind fun bt121 => ((spec_InsOk.f bt121.1 bt121.2.1 bt121.2.2.1 bt121.2.2.2.1 bt121.2.2.2.2).bind fun t126 => ((laws_toIns.f a0_0 a0_1 a0_2 a0_3 a0_4).bind fun bt127 => ((impl_InsOk.f k bt127.1 bt127.2.1 bt127.2.2.1 bt127.2.2.2.1 bt127.2.2.2.2).bind fun t132 => (if (t132 != t126) = true then (some false) else (some true)))))
theorem laws_FnExactInsOk.mono : ∀ a0 a1 a2 a3 a4 k, LeO (laws_FnExactInsOk.f k a0 a1 a2 a3 a4) (laws_FnExactInsOk.f (k + 1) a0 a1 a2 a3 a4) := by
  intro a0 a1 a2 a3 a4 k
  unfold laws_FnExactInsOk.f
  repeat' first
      | (with_reducible exact impl_InsOk.mono _ _ _ _ _ _)
      | (with_reducible exact LeO.refl _)
      | (with_reducible exact LeO.none _)
      | (with_reducible refine LeO.ite ?_ ?_)
      | (with_reducible refine LeO.bind ?_ (fun _ => ?_))
      | exact impl_InsOk.mono _ _ _ _ _ _
      | exact LeO.none _
      | refine LeO.ite ?_ ?_
      | refine LeO.bind ?_ (fun _ => ?_)
set_option maxHeartbeats 8000000 in
set_option maxRecDepth 100000 in
theorem laws_FnExactInsOk.calls (k : Nat) (a0_0 : Int) (a0_1 : Int) (a0_2 : Int) (a0_3 : Int) (a0_4 : Int) (r : Bool) (w : World) (h : laws_FnExactInsOk.f k a0_0 a0_1 a0_2 a0_3 a0_4 = some r) :
    Calls Try.prog 4 #[.agg #[.int .i64 a0_0, .int .i64 a0_1, .int .i64 a0_2, .int .i64 a0_3, .int .i64 a0_4]] w fun e w' => e = .returned (.bool r) ∧ Below w.heap.size w w' := by
  have hu23 := Try.underlying23
  have HB := Aside0.mk (Below.refl w.heap.size w)
  have H : ((laws_toIns.f a0_0 a0_1 a0_2 a0_3 a0_4).bind fun bt121 => ((spec_InsOk.f bt121.1 bt121.2.1 bt121.2.2.1 bt121.2.2.2.1 bt121.2.2.2.2).bind fun t126 => ((laws_toIns.f a0_0 a0_1 a0_2 a0_3 a0_4).bind fun bt127 => ((impl_InsOk.f k bt127.1 bt127.2.1 bt127.2.2.1 bt127.2.2.2.1 bt127.2.2.2.2).bind fun t132 => (if (t132 != t126) = true then (some false) else (some true)))))) = some r := h
  clear h
  replace H := Option.bind_eq_some_iff.mp H
  obtain ⟨⟨t121, t122, t123, t124, t125⟩, A20, H⟩ := H
  replace H : ((spec_InsOk.f t121 t122 t123 t124 t125).bind fun t126 => ((laws_toIns.f a0_0 a0_1 a0_2 a0_3 a0_4).bind fun bt127 => ((impl_InsOk.f k bt127.1 bt127.2.1 bt127.2.2.1 bt127.2.2.2.1 bt127.2.2.2.2).bind fun t132 => (if (t132 != t126) = true then (some false) else (some true))))) = some r := H
  have A2 := Aside0.mk A20
  clear A20
  replace H := Option.bind_eq_some_iff.mp H
  obtain ⟨t126, A30, H⟩ := H
  replace H : ((laws_toIns.f a0_0 a0_1 a0_2 a0_3 a0_4).bind fun bt127 => ((impl_InsOk.f k bt127.1 bt127.2.1 bt127.2.2.1 bt127.2.2.2.1 bt127.2.2.2.2).bind fun t132 => (if (t132 != t126) = true then (some false) else (some true)))) = some r := H
  have A3 := Aside0.mk A30
  clear A30
  replace H := Option.bind_eq_some_iff.mp H
  obtain ⟨⟨t127, t128, t129, t130, t131⟩, A40, H⟩ := H
  replace H : ((impl_InsOk.f k t127 t128 t129 t130 t131).bind fun t132 => (if (t132 != t126) = true then (some false) else (some true))) = some r := H
  have A4 := Aside0.mk A40
  clear A40
  replace H := Option.bind_eq_some_iff.mp H
  obtain ⟨t132, A50, H⟩ := H
  replace H : (if (t132 != t126) = true then (some false) else (some true)) = some r := H
  have A5 := Aside0.mk A50
  clear A50
  by_cases c6 : (t132 != t126) = true
  · rw [if_pos c6] at H
    have c6b0 : (t132 != t126) = true := c6
    (try (have c6b1 : decide (t132 = t126) = false := by simpa using c6))
    (try (have c6b2 : (t132 == t126) = false := by simpa using c6))
    (try (have c6b3 : ¬ (t132 = t126) := by simpa using c6))
    clear c6
    obtain rfl := Option.some.inj H
    go_enter Try.func4, Try.ntmps4
    go_wp2_with (first | ((with_reducible refine gate_dst (N := 1) rfl ?_); refine box_event ?hg (N := 1) ?hd (cs := #[.int .i64 a0_0, .int .i64 a0_1, .int .i64 a0_2, .int .i64 a0_3, .int .i64 a0_4]) (t := 23) ?hr ?_; (case hd => rfl); (case hg => rfl); (case hr => first | (go_simp; done) | (go_simp; rfl)); intro gb120 hg w7 hbox hb; have n0_ := nbs HB hb; have n1_ := Aside0.mk (hbox); have n2_ := nge HB hg; have n3_ := nge HB hg; clear HB; have HB := n0_; have BK120 := n1_; have GW120 := n2_; have GE120 := n3_; clear n0_ n1_ n2_ n3_; clear hb hbox hg; obtain ⟨hcz8_0, hcz8_1, hcz8_2, hcz8_3, hcz8_4⟩ := c5e BK120; have hfz8_0 := blk_frozen BK120.out 0; have hfz8_1 := blk_frozen BK120.out 1; have hfz8_2 := blk_frozen BK120.out 2; have hfz8_3 := blk_frozen BK120.out 3; have hfz8_4 := blk_frozen BK120.out 4) | ((with_reducible refine gate_callee (f := 11) rfl ?_); refine goesM (some 6) rfl rfl Try.func11 (by kernel_rfl) rfl #[.agg #[.int .i64 a0_0, .int .i64 a0_1, .int .i64 a0_2, .int .i64 a0_3, .int .i64 a0_4]] rfl ?_; (with_reducible refine (laws_toIns.calls a0_0 a0_1 a0_2 a0_3 a0_4 t121 t122 t123 t124 t125 _ A2.out).mono ?_); rintro e w9 ⟨rfl, hb⟩; refine ⟨_, rfl, ?_⟩; have n0_ := nblk BK120 hb; have n1_ := nbs HB hb; clear BK120 HB; have BK120 := n0_; have HB := n1_; clear n0_ n1_; (try clear hb)) | ((with_reducible refine gate_callee (f := 13) rfl ?_); refine goesM (some 7) rfl rfl Try.func13 (by kernel_rfl) rfl #[.agg #[.int .i64 t121, .int .i64 t122, .int .i64 t123, .int .i64 t124, .int .i64 t125]] rfl ?_; (with_reducible refine (spec_InsOk.calls t121 t122 t123 t124 t125 t126 _ A3.out).mono ?_); rintro e w10 ⟨rfl, hb⟩; refine ⟨_, rfl, ?_⟩; have n0_ := nblk BK120 hb; have n1_ := nbs HB hb; clear BK120 HB; have BK120 := n0_; have HB := n1_; clear n0_ n1_; (try clear hb); obtain ⟨hcz11_0, hcz11_1, hcz11_2, hcz11_3, hcz11_4⟩ := c5e BK120; have hfz11_0 := blk_frozen BK120.out 0; have hfz11_1 := blk_frozen BK120.out 1; have hfz11_2 := blk_frozen BK120.out 2; have hfz11_3 := blk_frozen BK120.out 3; have hfz11_4 := blk_frozen BK120.out 4) | ((with_reducible refine gate_callee (f := 11) rfl ?_); refine goesM (some 9) rfl rfl Try.func11 (by kernel_rfl) rfl #[.agg #[.int .i64 a0_0, .int .i64 a0_1, .int .i64 a0_2, .int .i64 a0_3, .int .i64 a0_4]] rfl ?_; (with_reducible refine (laws_toIns.calls a0_0 a0_1 a0_2 a0_3 a0_4 t127 t128 t129 t130 t131 _ A4.out).mono ?_); rintro e w12 ⟨rfl, hb⟩; refine ⟨_, rfl, ?_⟩; have n0_ := nblk BK120 hb; have n1_ := nbs HB hb; clear BK120 HB; have BK120 := n0_; have HB := n1_; clear n0_ n1_; (try clear hb)) | ((with_reducible refine gate_callee (f := 14) rfl ?_); refine goesM (some 10) rfl rfl Try.func14 (by kernel_rfl) rfl #[.agg #[.int .i64 t127, .int .i64 t128, .int .i64 t129, .int .i64 t130, .int .i64 t131]] rfl ?_; (with_reducible refine (impl_InsOk.calls k t127 t128 t129 t130 t131 t132 _ A5.out).mono ?_); rintro e w13 ⟨rfl, hb⟩; refine ⟨_, rfl, ?_⟩; have n0_ := nblk BK120 hb; have n1_ := nbs HB hb; clear BK120 HB; have BK120 := n0_; have HB := n1_; clear n0_ n1_; (try clear hb)))
    go_ret
    exact ⟨by first | rfl | (simp [errW_none, errW_some] <;> rfl) | (simp [*, errW_none, errW_some] <;> rfl), by repeat (first | (with_reducible first | exact HB.out | apply below_alloc | apply pw_below_drewN | apply below_drew1 | refine below_set ?_ GE120.out) | exact HB.out)⟩
  · rw [if_neg c6] at H
    have c6b0 : (t132 != t126) = false := by simpa using c6
    (try (have c6b1 : decide (t132 = t126) = true := by simpa using c6))
    (try (have c6b2 : (t132 == t126) = true := by simpa using c6))
    clear c6
    obtain rfl := Option.some.inj H
    go_enter Try.func4, Try.ntmps4
    go_wp2_with (first | ((with_reducible refine gate_dst (N := 1) rfl ?_); refine box_event ?hg (N := 1) ?hd (cs := #[.int .i64 a0_0, .int .i64 a0_1, .int .i64 a0_2, .int .i64 a0_3, .int .i64 a0_4]) (t := 23) ?hr ?_; (case hd => rfl); (case hg => rfl); (case hr => first | (go_simp; done) | (go_simp; rfl)); intro gb120 hg w14 hbox hb; have n0_ := nbs HB hb; have n1_ := Aside0.mk (hbox); have n2_ := nge HB hg; have n3_ := nge HB hg; clear HB; have HB := n0_; have BK120 := n1_; have GW120 := n2_; have GE120 := n3_; clear n0_ n1_ n2_ n3_; clear hb hbox hg; obtain ⟨hcz15_0, hcz15_1, hcz15_2, hcz15_3, hcz15_4⟩ := c5e BK120; have hfz15_0 := blk_frozen BK120.out 0; have hfz15_1 := blk_frozen BK120.out 1; have hfz15_2 := blk_frozen BK120.out 2; have hfz15_3 := blk_frozen BK120.out 3; have hfz15_4 := blk_frozen BK120.out 4) | ((with_reducible refine gate_callee (f := 11) rfl ?_); refine goesM (some 6) rfl rfl Try.func11 (by kernel_rfl) rfl #[.agg #[.int .i64 a0_0, .int .i64 a0_1, .int .i64 a0_2, .int .i64 a0_3, .int .i64 a0_4]] rfl ?_; (with_reducible refine (laws_toIns.calls a0_0 a0_1 a0_2 a0_3 a0_4 t121 t122 t123 t124 t125 _ A2.out).mono ?_); rintro e w16 ⟨rfl, hb⟩; refine ⟨_, rfl, ?_⟩; have n0_ := nblk BK120 hb; have n1_ := nbs HB hb; clear BK120 HB; have BK120 := n0_; have HB := n1_; clear n0_ n1_; (try clear hb)) | ((with_reducible refine gate_callee (f := 13) rfl ?_); refine goesM (some 7) rfl rfl Try.func13 (by kernel_rfl) rfl #[.agg #[.int .i64 t121, .int .i64 t122, .int .i64 t123, .int .i64 t124, .int .i64 t125]] rfl ?_; (with_reducible refine (spec_InsOk.calls t121 t122 t123 t124 t125 t126 _ A3.out).mono ?_); rintro e w17 ⟨rfl, hb⟩; refine ⟨_, rfl, ?_⟩; have n0_ := nblk BK120 hb; have n1_ := nbs HB hb; clear BK120 HB; have BK120 := n0_; have HB := n1_; clear n0_ n1_; (try clear hb); obtain ⟨hcz18_0, hcz18_1, hcz18_2, hcz18_3, hcz18_4⟩ := c5e BK120; have hfz18_0 := blk_frozen BK120.out 0; have hfz18_1 := blk_frozen BK120.out 1; have hfz18_2 := blk_frozen BK120.out 2; have hfz18_3 := blk_frozen BK120.out 3; have hfz18_4 := blk_frozen BK120.out 4) | ((with_reducible refine gate_callee (f := 11) rfl ?_); refine goesM (some 9) rfl rfl Try.func11 (by kernel_rfl) rfl #[.agg #[.int .i64 a0_0, .int .i64 a0_1, .int .i64 a0_2, .int .i64 a0_3, .int .i64 a0_4]] rfl ?_; (with_reducible refine (laws_toIns.calls a0_0 a0_1 a0_2 a0_3 a0_4 t127 t128 t129 t130 t131 _ A4.out).mono ?_); rintro e w19 ⟨rfl, hb⟩; refine ⟨_, rfl, ?_⟩; have n0_ := nblk BK120 hb; have n1_ := nbs HB hb; clear BK120 HB; have BK120 := n0_; have HB := n1_; clear n0_ n1_; (try clear hb)) | ((with_reducible refine gate_callee (f := 14) rfl ?_); refine goesM (some 10) rfl rfl Try.func14 (by kernel_rfl) rfl #[.agg #[.int .i64 t127, .int .i64 t128, .int .i64 t129, .int .i64 t130, .int .i64 t131]] rfl ?_; (with_reducible refine (impl_InsOk.calls k t127 t128 t129 t130 t131 t132 _ A5.out).mono ?_); rintro e w20 ⟨rfl, hb⟩; refine ⟨_, rfl, ?_⟩; have n0_ := nblk BK120 hb; have n1_ := nbs HB hb; clear BK120 HB; have BK120 := n0_; have HB := n1_; clear n0_ n1_; (try clear hb)))
    go_ret
    exact ⟨by first | rfl | (simp [errW_none, errW_some] <;> rfl) | (simp [*, errW_none, errW_some] <;> rfl), by repeat (first | (with_reducible first | exact HB.out | apply below_alloc | apply pw_below_drewN | apply below_drew1 | refine below_set ?_ GE120.out) | exact HB.out)⟩

end Go.Proofs.Ytopbiecjfhfhdaa.PFnExactInsOk
