-- Written by a program of this session (wip/patch.py turns a copy of the kit's print): the functions that the law reaches, and their walks.
import Derived.Test.YtpcladboobfkhaaPFnWorkx0
import Derived.Test.YtpcladboobfkhaaPFnWorkx4
import Derived.Test.YtpcladboobfkhaaPFnWorkx6
import Derived.Test.YtpcladboobfkhaaPFnWorkx10
import Derived.Test.YtpcladboobfkhaaPFnWorkx11
import Derived.Test.YtpcladboobfkhaaPFnWorkx12
import Derived.Test.YtpcladboobfkhaaCFnWork
import Derived.Test.YtpcladboobfkhaaEFnWork
namespace Go.Proofs.Ytpcladboobfkhaa.PFnWork
open Go.RowKit Go.Proofs.YtpcladboobfkhaaW.PrintWords Go.Proofs.YtpcladboobfkhaaW.PrintLast Go.Proofs.YtpcladboobfkhaaW.PrintMore Go.Proofs.YtpcladboobfkhaaW.Mine
attribute [local go_sem] dsc dhs dha ddr ddrN
attribute [local go_sem] max2_int min2_int max_two min_two max_three min_three max_four min_four   -- for this text's walks alone
set_option linter.unusedVariables false
set_option linter.unusedSimpArgs false

/-! ### impl_partOf: function 62 -/
def impl_partOf.f (a0_0 : Int) (a0_1 : Int) (a0_2 : Int) (a0_3 : Int) (a0_4 : Int) (a1 : Int) : Option (Int) := if a1 = 82 then (some a0_1) else (if a1 = 65 then (some a0_2) else (if a1 = 66 then (some a0_3) else (some a0_4)))
set_option maxHeartbeats 8000000 in
set_option maxRecDepth 100000 in
theorem impl_partOf.calls (a0_0 : Int) (a0_1 : Int) (a0_2 : Int) (a0_3 : Int) (a0_4 : Int) (a1 : Int) (r : Int) (w : World) (h : impl_partOf.f a0_0 a0_1 a0_2 a0_3 a0_4 a1 = some r) :
    Calls Try.prog 62 #[.agg #[.int .i64 a0_0, .int .i64 a0_1, .int .i64 a0_2, .int .i64 a0_3, .int .i64 a0_4], .int .u8 a1] w fun e w' => e = .returned (.int .i64 r) ∧ Below w.heap.size w w' := by
  have hu25 := Try.underlying25; have H : (if a1 = 82 then (some a0_1) else (if a1 = 65 then (some a0_2) else (if a1 = 66 then (some a0_3) else (some a0_4)))) = some r := h; clear h
  by_cases c3 : a1 = 82
  · rw [if_pos c3] at H
    have c3b0 : (a1 == 82) = true := beq_iff_eq.mpr c3; have c3b1 : (a1 != 82) = false := bne_eq_false_iff_eq.mpr c3; clear c3; obtain rfl := Option.some.inj H
    go_enter Try.func62, Try.ntmps62
    go_wp2
    go_ret; exact ⟨er_, dfi⟩
  · rw [if_neg c3] at H
    have c3b0 : (a1 == 82) = false := beq_eq_false_iff_ne.mpr c3; have c3b1 : (a1 != 82) = true := bne_iff_ne.mpr c3
    by_cases c6 : a1 = 65
    · rw [if_pos c6] at H
      have c6b0 : (a1 == 65) = true := beq_iff_eq.mpr c6; have c6b1 : (a1 != 65) = false := bne_eq_false_iff_eq.mpr c6; clear c6; obtain rfl := Option.some.inj H
      go_enter Try.func62, Try.ntmps62
      go_wp2
      go_ret; exact ⟨er_, dfi⟩
    · rw [if_neg c6] at H
      have c6b0 : (a1 == 65) = false := beq_eq_false_iff_ne.mpr c6; have c6b1 : (a1 != 65) = true := bne_iff_ne.mpr c6
      by_cases c9 : a1 = 66
      · rw [if_pos c9] at H
        have c9b0 : (a1 == 66) = true := beq_iff_eq.mpr c9; have c9b1 : (a1 != 66) = false := bne_eq_false_iff_eq.mpr c9; clear c9; obtain rfl := Option.some.inj H
        go_enter Try.func62, Try.ntmps62
        go_wp2
        go_ret; exact ⟨er_, dfi⟩
      · rw [if_neg c9] at H
        have c9b0 : (a1 == 66) = false := beq_eq_false_iff_ne.mpr c9; have c9b1 : (a1 != 66) = true := bne_iff_ne.mpr c9; obtain rfl := Option.some.inj H
        go_enter Try.func62, Try.ntmps62
        go_wp2
        go_ret; exact ⟨er_, dfi⟩
/-! ### impl_InsOk: function 31 -/
def impl_InsOk.l0 : Nat → Bool → Int → Int → Int → Int → Int → Int → Option (Bool)
  | 0, _, _, _, _, _, _, _ => none
  | k + 1, x4, i, op, r, a, b, n => if i < 4 then (if 0 ≤ i then ((impl_partOf.f op r a b n (rd [82, 65, 66, 78] i)).bind fun t => ((impl_hasPart.f k op r a b n (rd [82, 65, 66, 78] i)).bind fun h => (if h = true then (if (rd [82, 65, 66, 78] i) = 78 then (if x4 = true then ((impl_in.f t (-128) 127).bind fun q => (impl_InsOk.l0 k q (wrap64 (i + 1)) op r a b n)) else (impl_InsOk.l0 k false (wrap64 (i + 1)) op r a b n)) else (if x4 = true then ((impl_in.f t 0 7).bind fun q => (impl_InsOk.l0 k q (wrap64 (i + 1)) op r a b n)) else (impl_InsOk.l0 k false (wrap64 (i + 1)) op r a b n))) else (if x4 = true then (impl_InsOk.l0 k (t == 0) (wrap64 (i + 1)) op r a b n) else (impl_InsOk.l0 k false (wrap64 (i + 1)) op r a b n))))) else none) else (some x4)
def impl_InsOk.f (k : Nat) (a0_0 : Int) (a0_1 : Int) (a0_2 : Int) (a0_3 : Int) (a0_4 : Int) : Option (Bool) := (impl_formOf.f k a0_0).bind fun bt => (impl_InsOk.l0 k bt.2 0 a0_0 a0_1 a0_2 a0_3 a0_4)
theorem impl_InsOk.mono_l : ∀ k, (∀ y0 y1 y2 y3 y4 y5 y6, LeO (impl_InsOk.l0 k y0 y1 y2 y3 y4 y5 y6) (impl_InsOk.l0 (k + 1) y0 y1 y2 y3 y4 y5 y6))
  | 0 => fun _ _ _ _ _ _ _ r h => by simp [impl_InsOk.l0] at h
  | k + 1 => by
    have ih0 := impl_InsOk.mono_l k
    · intro y0 y1 y2 y3 y4 y5 y6
      unfold impl_InsOk.l0
      repeat' first
      | (with_reducible exact ih0 _ _ _ _ _ _ _)
      | (with_reducible exact impl_hasPart.mono _ _ _ _ _ _ _)
      | (with_reducible exact impl_formOf.mono _ _)
      | (with_reducible exact LeO.refl _)
      | (with_reducible exact LeO.none _)
      | (with_reducible refine LeO.ite ?_ ?_)
      | (with_reducible refine LeO.bind ?_ (fun _ => ?_))
      | exact ih0 _ _ _ _ _ _ _
      | exact impl_hasPart.mono _ _ _ _ _ _ _
      | exact impl_formOf.mono _ _
      | exact LeO.none _
      | refine LeO.ite ?_ ?_
      | refine LeO.bind ?_ (fun _ => ?_)
theorem impl_InsOk.mono : ∀ a0 a1 a2 a3 a4 k, LeO (impl_InsOk.f k a0 a1 a2 a3 a4) (impl_InsOk.f (k + 1) a0 a1 a2 a3 a4) := by
  intro a0 a1 a2 a3 a4 k; have ih0 := impl_InsOk.mono_l k
  unfold impl_InsOk.f
  repeat' first
      | (with_reducible exact ih0 _ _ _ _ _ _ _)
      | (with_reducible exact impl_hasPart.mono _ _ _ _ _ _ _)
      | (with_reducible exact impl_formOf.mono _ _)
      | (with_reducible exact LeO.refl _)
      | (with_reducible exact LeO.none _)
      | (with_reducible refine LeO.ite ?_ ?_)
      | (with_reducible refine LeO.bind ?_ (fun _ => ?_))
      | exact ih0 _ _ _ _ _ _ _
      | exact impl_hasPart.mono _ _ _ _ _ _ _
      | exact impl_formOf.mono _ _
      | exact LeO.none _
      | refine LeO.ite ?_ ?_
      | refine LeO.bind ?_ (fun _ => ?_)
theorem impl_InsOk.mk_cell {W : World} {g : Nat} {cs : Array Value} {t : TypeId} {fr : Nat × Nat} {v : Value} (h : W.heap[g]? = some (.cells cs t fr)) (j : Nat) (hj : cs[j]? = some v) : W.cell? ⟨g, j, none⟩ = some v := by
  simp [World.cell?, h, hj]
theorem impl_InsOk.byte {W : World} {g : Nat} (h : W.heap[g]? = some (.cells #[.int .u8 82, .int .u8 65, .int .u8 66, .int .u8 78] 5 (4, 5))) (i : Int) (h0 : 0 ≤ i) (h1 : i < 4) : W.cell? ⟨g, i.toNat, none⟩ = some (.int .u8 (rd [82, 65, 66, 78] i)) := by
  rcases (show i = 0 ∨ i = 1 ∨ i = 2 ∨ i = 3 by omega) with rfl | rfl | rfl | rfl <;> exact impl_InsOk.mk_cell h _ rfl
set_option maxHeartbeats 8000000 in
set_option maxRecDepth 100000 in
theorem impl_InsOk.calls (k : Nat) (a0_0 : Int) (a0_1 : Int) (a0_2 : Int) (a0_3 : Int) (a0_4 : Int) (r : Bool) (w : World) (h : impl_InsOk.f k a0_0 a0_1 a0_2 a0_3 a0_4 = some r) :
  Calls Try.prog 31 #[.agg #[.int .i64 a0_0, .int .i64 a0_1, .int .i64 a0_2, .int .i64 a0_3, .int .i64 a0_4]] w fun e w' => e = .returned (.bool r) ∧ Below w.heap.size w w' := by
 obtain ⟨⟨s, b⟩, A80, H⟩ := Option.bind_eq_some_iff.mp h; have A8 := Aside0.mk A80; have H' : Aside0 (impl_InsOk.l0 k b 0 a0_0 a0_1 a0_2 a0_3 a0_4 = some r) := ⟨H⟩; clear A80 h H; have HB := Aside0.mk (Below.refl w.heap.size w); have kc : ∀ W : World, (convert 22 22 (.slice (some ⟨W.heap.size, 0, none⟩) 4 4)).run Try.prog (W.alloc (.cells #[.int .u8 82, .int .u8 65, .int .u8 66, .int .u8 78] 5)) = .ok (.slice (some ⟨W.heap.size, 0, none⟩) 4 4) (W.alloc (.cells #[.int .u8 82, .int .u8 65, .int .u8 66, .int .u8 78] 5 (4, 5))) := fun W => Lib.run_convert_bytes_const (P := Try.prog) W 22 5 _ 4 4 Try.underlying22 Try.underlying5
 go_enter Try.func31, Try.ntmps31
 go_wp2_with (first | ((with_reducible refine gate_dst (N := 1) rfl ?_); refine bxe 1 #[.int .i64 a0_0, .int .i64 a0_1, .int .i64 a0_2, .int .i64 a0_3, .int .i64 a0_4] 25 ?_; intro gb hg w3 hbox hb; have BK := hbox; replace HB := nbs HB hb; clear hb hbox hg; obtain ⟨hcz_0, hcz_1, hcz_2, hcz_3, hcz_4⟩ := c5e BK) | ((with_reducible refine gate_callee (f := 48) rfl ?_); refine goesM (some 11) rfl rfl Try.func48 (by kernel_rfl) rfl #[.int .i64 a0_0] rfl ?_; (with_reducible refine (impl_formOf.calls k a0_0 s b _ A8.out).mono ?_); rintro e w4 ⟨rfl, hd⟩; have hb := hd.below; refine ⟨_, rfl, ?_⟩; replace BK := nblk BK hb; replace HB := nbs HB hb; clear hb hd hcz_0 hcz_1 hcz_2 hcz_3 hcz_4))
 have BY : Aside0 ((w4.alloc (.cells #[.int .u8 82, .int .u8 65, .int .u8 66, .int .u8 78] 5 (4, 5))).heap[w4.heap.size]? = some (.cells #[.int .u8 82, .int .u8 65, .int .u8 66, .int .u8 78] 5 (4, 5))) := ⟨by show (w4.heap.push _)[w4.heap.size]? = _; simp⟩; clear kc
 go_loopg [4, 17] k (fun kq v4 eQ w' => ∃ (x4 : Bool) (b0 : Int), v4 = .bool x4 ∧ eQ = .int .i64 b0 ∧ Aside0 (impl_InsOk.l0 kq x4 b0 a0_0 a0_1 a0_2 a0_3 a0_4 = some r) ∧ Aside0 (kq ≤ k) ∧ Aside0 (w'.heap[w4.heap.size]? = some (.cells #[.int .u8 82, .int .u8 65, .int .u8 66, .int .u8 78] 5 (4, 5))) ∧ Aside0 (w'.heap[gb]? = some (.cells #[.int .i64 a0_0, .int .i64 a0_1, .int .i64 a0_2, .int .i64 a0_3, .int .i64 a0_4] 25 (0, 0))) ∧ Aside0 (Below w.heap.size w w'))
 case atStart => exact ⟨b, 0, rfl, rfl, H', ⟨Nat.le_refl _⟩, BY, ⟨blk_alloc BK.out _⟩, ⟨below_alloc HB.out _⟩⟩
 case round =>
  clear H' BY BK HB; obtain ⟨x4, b0, rfl, rfl, HA, HK, BY, BK, HB⟩ := hrel
  cases gk with
  | zero => exact absurd HA.out (by simp [impl_InsOk.l0])
  | succ k1 =>
   have H := HA.out; clear HA; simp only [impl_InsOk.l0] at H
   by_cases c8 : b0 < 4
   · rw [if_pos c8] at H
     by_cases c9 : 0 ≤ b0
     · rw [if_pos c9] at H
       replace H := Option.bind_eq_some_iff.mp H; obtain ⟨t, A110, H⟩ := H; have A11 := Aside0.mk A110; replace H := Option.bind_eq_some_iff.mp H; obtain ⟨hh, A120, H⟩ := H; have A12 := Aside0.mk A120; clear A110 A120; have hby := impl_InsOk.byte BY.out b0 c9 c8; obtain ⟨hcz_0, hcz_1, hcz_2, hcz_3, hcz_4⟩ := c5e BK; have c8b : decide (b0 < (4 : Int)) = true := decide_eq_true c8; have c9b : decide (0 ≤ b0) = true := decide_eq_true c9; replace c8 := eq_true c8; replace c9 := eq_true c9; obtain ⟨q, hq⟩ : ∃ q, q = rd [82, 65, 66, 78] b0 := ⟨_, rfl⟩; rw [← hq] at hby A11 A12 H; clear hq
       cases hh with
       | true =>
         by_cases c14 : q = 78
         · have c14b : (q == 78) = true := beq_iff_eq.mpr c14
           rw [if_pos rfl, if_pos c14] at H; clear c14
           cases x4 with
           | true =>
             rw [if_pos rfl] at H; replace H := Option.bind_eq_some_iff.mp H; obtain ⟨t2, A160, H⟩ := H; have A16 := Aside0.mk A160; have H' := Aside0.mk H; clear A160 H
             go_wp2_with (first | (go_at_call 62; (with_reducible refine (impl_partOf.calls a0_0 a0_1 a0_2 a0_3 a0_4 q t _ A11.out).mono ?_); rintro e wA ⟨rfl, hb⟩; replace BY := nblk BY hb; replace BK := nblk BK hb; replace HB := nbs HB hb; clear hb hcz_0 hcz_1 hcz_2 hcz_3 hcz_4; obtain ⟨hcz_0, hcz_1, hcz_2, hcz_3, hcz_4⟩ := c5e BK) | (go_at_call 21; (with_reducible refine (impl_hasPart.calls k1 a0_0 a0_1 a0_2 a0_3 a0_4 q true _ A12.out).mono ?_); rintro e wB ⟨rfl, hb⟩; replace BY := nblk BY hb; replace BK := nblk BK hb; replace HB := nbs HB hb; clear hb) | (go_at_call 30; (with_reducible refine (impl_in.calls t (-128) 127 t2 _ A16.out).mono ?_); rintro e wC ⟨rfl, ⟨nd, rfl⟩⟩))
             go_roundg k1
             case measure => have := HK.out; omega
             case rel => exact ⟨_, _, rfl, rfl, H', ⟨by have := HK.out; omega⟩, ⟨nb BY⟩, ⟨nb BK⟩, ⟨nbe HB⟩⟩
           | false =>
             rw [if_neg (by simp)] at H; have H' := Aside0.mk H; clear H
             go_wp2_with (first | (go_at_call 62; (with_reducible refine (impl_partOf.calls a0_0 a0_1 a0_2 a0_3 a0_4 q t _ A11.out).mono ?_); rintro e wA ⟨rfl, hb⟩; replace BY := nblk BY hb; replace BK := nblk BK hb; replace HB := nbs HB hb; clear hb hcz_0 hcz_1 hcz_2 hcz_3 hcz_4; obtain ⟨hcz_0, hcz_1, hcz_2, hcz_3, hcz_4⟩ := c5e BK) | (go_at_call 21; (with_reducible refine (impl_hasPart.calls k1 a0_0 a0_1 a0_2 a0_3 a0_4 q true _ A12.out).mono ?_); rintro e wB ⟨rfl, hb⟩; replace BY := nblk BY hb; replace BK := nblk BK hb; replace HB := nbs HB hb; clear hb))
             go_roundg k1
             case measure => have := HK.out; omega
             case rel => exact ⟨_, _, rfl, rfl, H', ⟨by have := HK.out; omega⟩, ⟨nb BY⟩, ⟨nb BK⟩, ⟨nbe HB⟩⟩
         · have c14b : (q == 78) = false := beq_eq_false_iff_ne.mpr c14
           rw [if_pos rfl, if_neg c14] at H; clear c14
           cases x4 with
           | true =>
             rw [if_pos rfl] at H; replace H := Option.bind_eq_some_iff.mp H; obtain ⟨t2, A160, H⟩ := H; have A16 := Aside0.mk A160; have H' := Aside0.mk H; clear A160 H
             go_wp2_with (first | (go_at_call 62; (with_reducible refine (impl_partOf.calls a0_0 a0_1 a0_2 a0_3 a0_4 q t _ A11.out).mono ?_); rintro e wA ⟨rfl, hb⟩; replace BY := nblk BY hb; replace BK := nblk BK hb; replace HB := nbs HB hb; clear hb hcz_0 hcz_1 hcz_2 hcz_3 hcz_4; obtain ⟨hcz_0, hcz_1, hcz_2, hcz_3, hcz_4⟩ := c5e BK) | (go_at_call 21; (with_reducible refine (impl_hasPart.calls k1 a0_0 a0_1 a0_2 a0_3 a0_4 q true _ A12.out).mono ?_); rintro e wB ⟨rfl, hb⟩; replace BY := nblk BY hb; replace BK := nblk BK hb; replace HB := nbs HB hb; clear hb) | (go_at_call 30; (with_reducible refine (impl_in.calls t 0 7 t2 _ A16.out).mono ?_); rintro e wC ⟨rfl, ⟨nd, rfl⟩⟩))
             go_roundg k1
             case measure => have := HK.out; omega
             case rel => exact ⟨_, _, rfl, rfl, H', ⟨by have := HK.out; omega⟩, ⟨nb BY⟩, ⟨nb BK⟩, ⟨nbe HB⟩⟩
           | false =>
             rw [if_neg (by simp)] at H; have H' := Aside0.mk H; clear H
             go_wp2_with (first | (go_at_call 62; (with_reducible refine (impl_partOf.calls a0_0 a0_1 a0_2 a0_3 a0_4 q t _ A11.out).mono ?_); rintro e wA ⟨rfl, hb⟩; replace BY := nblk BY hb; replace BK := nblk BK hb; replace HB := nbs HB hb; clear hb hcz_0 hcz_1 hcz_2 hcz_3 hcz_4; obtain ⟨hcz_0, hcz_1, hcz_2, hcz_3, hcz_4⟩ := c5e BK) | (go_at_call 21; (with_reducible refine (impl_hasPart.calls k1 a0_0 a0_1 a0_2 a0_3 a0_4 q true _ A12.out).mono ?_); rintro e wB ⟨rfl, hb⟩; replace BY := nblk BY hb; replace BK := nblk BK hb; replace HB := nbs HB hb; clear hb))
             go_roundg k1
             case measure => have := HK.out; omega
             case rel => exact ⟨_, _, rfl, rfl, H', ⟨by have := HK.out; omega⟩, ⟨nb BY⟩, ⟨nb BK⟩, ⟨nbe HB⟩⟩
       | false =>
         rw [if_neg (by simp)] at H
         cases x4 with
         | true =>
           rw [if_pos rfl] at H; have H' := Aside0.mk H; clear H
           go_wp2_with (first | (go_at_call 62; (with_reducible refine (impl_partOf.calls a0_0 a0_1 a0_2 a0_3 a0_4 q t _ A11.out).mono ?_); rintro e wA ⟨rfl, hb⟩; replace BY := nblk BY hb; replace BK := nblk BK hb; replace HB := nbs HB hb; clear hb hcz_0 hcz_1 hcz_2 hcz_3 hcz_4; obtain ⟨hcz_0, hcz_1, hcz_2, hcz_3, hcz_4⟩ := c5e BK) | (go_at_call 21; (with_reducible refine (impl_hasPart.calls k1 a0_0 a0_1 a0_2 a0_3 a0_4 q false _ A12.out).mono ?_); rintro e wB ⟨rfl, hb⟩; replace BY := nblk BY hb; replace BK := nblk BK hb; replace HB := nbs HB hb; clear hb))
           go_roundg k1
           case measure => have := HK.out; omega
           case rel => exact ⟨_, _, rfl, rfl, H', ⟨by have := HK.out; omega⟩, ⟨nb BY⟩, ⟨nb BK⟩, ⟨nbe HB⟩⟩
         | false =>
           rw [if_neg (by simp)] at H; have H' := Aside0.mk H; clear H
           go_wp2_with (first | (go_at_call 62; (with_reducible refine (impl_partOf.calls a0_0 a0_1 a0_2 a0_3 a0_4 q t _ A11.out).mono ?_); rintro e wA ⟨rfl, hb⟩; replace BY := nblk BY hb; replace BK := nblk BK hb; replace HB := nbs HB hb; clear hb hcz_0 hcz_1 hcz_2 hcz_3 hcz_4; obtain ⟨hcz_0, hcz_1, hcz_2, hcz_3, hcz_4⟩ := c5e BK) | (go_at_call 21; (with_reducible refine (impl_hasPart.calls k1 a0_0 a0_1 a0_2 a0_3 a0_4 q false _ A12.out).mono ?_); rintro e wB ⟨rfl, hb⟩; replace BY := nblk BY hb; replace BK := nblk BK hb; replace HB := nbs HB hb; clear hb))
           go_roundg k1
           case measure => have := HK.out; omega
           case rel => exact ⟨_, _, rfl, rfl, H', ⟨by have := HK.out; omega⟩, ⟨nb BY⟩, ⟨nb BK⟩, ⟨nbe HB⟩⟩
     · rw [if_neg c9] at H
       exact absurd H (by simp)
   · rw [if_neg c8] at H
     obtain rfl : x4 = r := by simpa using H
     clear H; have c8b : decide (b0 < (4 : Int)) = false := decide_eq_false c8; go_wp2
     go_ret
     exact ⟨rfl, HB.out⟩

/-! ### impl_Fetch: function 9 -/
def impl_Fetch.f (k : Nat) (l0 : List (S25)) (a1_0 : Int) (a1_1 : Bool) (a1_2 : Int) (a1_3 : Int) (a1_4 : Int) (a1_5 : Int) : Option (Int × Int × Int × Int × Int × Int) := (impl_Try.f k a1_0 a1_1 a1_2 a1_3 a1_4 a1_5 a1_0 4).bind fun bu => (if bu = 0 then ((impl_in.f a1_0 0 (wrap64 ((l0.length : Int) - 1))).bind fun da => (if da = true then (if 0 ≤ a1_0 then (if a1_0 < (l0.length : Int) then ((impl_InsOk.f k ((rd_T25 l0 a1_0).f0) ((rd_T25 l0 a1_0).f1) ((rd_T25 l0 a1_0).f2) ((rd_T25 l0 a1_0).f3) ((rd_T25 l0 a1_0).f4)).bind fun bM => (if bM = true then (some ((rd_T25 l0 a1_0).f0, (rd_T25 l0 a1_0).f1, (rd_T25 l0 a1_0).f2, (rd_T25 l0 a1_0).f3, (rd_T25 l0 a1_0).f4, 0)) else (some (0, 0, 0, 0, 0, 4)))) else (none)) else (none)) else (some (0, 0, 0, 0, 0, 4)))) else (some (0, 0, 0, 0, 0, bu)))
theorem impl_Fetch.mono : ∀ a0 a1 a2 a3 a4 a5 a6 k, LeO (impl_Fetch.f k a0 a1 a2 a3 a4 a5 a6) (impl_Fetch.f (k + 1) a0 a1 a2 a3 a4 a5 a6) := by
  intro a0 a1 a2 a3 a4 a5 a6 k
  unfold impl_Fetch.f
  repeat' first
      | (with_reducible exact impl_InsOk.mono _ _ _ _ _ _)
      | (with_reducible exact impl_Try.mono _ _ _ _ _ _ _ _ _)
      | (with_reducible exact LeO.refl _)
      | (with_reducible exact LeO.none _)
      | (with_reducible refine LeO.ite ?_ ?_)
      | (with_reducible refine LeO.bind ?_ (fun _ => ?_))
      | exact impl_InsOk.mono _ _ _ _ _ _
      | exact impl_Try.mono _ _ _ _ _ _ _ _ _
      | exact LeO.none _
      | refine LeO.ite ?_ ?_
      | refine LeO.bind ?_ (fun _ => ?_)
set_option maxHeartbeats 8000000 in
set_option maxRecDepth 100000 in
theorem impl_Fetch.calls (k : Nat) (A0 : Option Addr) (c0 : Nat) (l0 : List (S25)) (a1_0 : Int) (a1_1 : Bool) (a1_2 : Int) (a1_3 : Int) (a1_4 : Int) (a1_5 : Int) (r1 : Int) (r2 : Int) (r3 : Int) (r4 : Int) (r5 : Int) (r6 : Int) (w : World) (hr0 : Kd.C k25 w A0 l0.length l0) (hc0 : l0.length ≤ c0) (h : impl_Fetch.f k l0 a1_0 a1_1 a1_2 a1_3 a1_4 a1_5 = some (r1, r2, r3, r4, r5, r6)) :
    Calls Try.prog 9 #[.slice A0 l0.length c0, .agg #[.int .i64 a1_0, .bool a1_1, .int .i64 a1_2, .int .i64 a1_3, .int .i64 a1_4, .int .i64 a1_5]] w fun e w' => e = .returned (.tuple #[.agg #[.int .i64 r1, .int .i64 r2, .int .i64 r3, .int .i64 r4, .int .i64 r5], .int .i64 r6]) ∧ Below w.heap.size w w' := by
  have hu29 := Try.underlying29; have hu25 := Try.underlying25; have bD := Aside0.mk hr0; have dS := Aside0.mk hc0; clear hr0 hc0; have HB := Aside0.mk (Below.refl w.heap.size w); have H : ((impl_Try.f k a1_0 a1_1 a1_2 a1_3 a1_4 a1_5 a1_0 4).bind fun bu => (if bu = 0 then ((impl_in.f a1_0 0 (wrap64 ((l0.length : Int) - 1))).bind fun da => (if da = true then (if 0 ≤ a1_0 then (if a1_0 < (l0.length : Int) then ((impl_InsOk.f k ((rd_T25 l0 a1_0).f0) ((rd_T25 l0 a1_0).f1) ((rd_T25 l0 a1_0).f2) ((rd_T25 l0 a1_0).f3) ((rd_T25 l0 a1_0).f4)).bind fun bM => (if bM = true then (some ((rd_T25 l0 a1_0).f0, (rd_T25 l0 a1_0).f1, (rd_T25 l0 a1_0).f2, (rd_T25 l0 a1_0).f3, (rd_T25 l0 a1_0).f4, 0)) else (some (0, 0, 0, 0, 0, 4)))) else (none)) else (none)) else (some (0, 0, 0, 0, 0, 4)))) else (some (0, 0, 0, 0, 0, bu)))) = some (r1, r2, r3, r4, r5, r6) := h; clear h; replace H := Option.bind_eq_some_iff.mp H; obtain ⟨bu, A30, H⟩ := H; replace H : (if bu = 0 then ((impl_in.f a1_0 0 (wrap64 ((l0.length : Int) - 1))).bind fun da => (if da = true then (if 0 ≤ a1_0 then (if a1_0 < (l0.length : Int) then ((impl_InsOk.f k ((rd_T25 l0 a1_0).f0) ((rd_T25 l0 a1_0).f1) ((rd_T25 l0 a1_0).f2) ((rd_T25 l0 a1_0).f3) ((rd_T25 l0 a1_0).f4)).bind fun bM => (if bM = true then (some ((rd_T25 l0 a1_0).f0, (rd_T25 l0 a1_0).f1, (rd_T25 l0 a1_0).f2, (rd_T25 l0 a1_0).f3, (rd_T25 l0 a1_0).f4, 0)) else (some (0, 0, 0, 0, 0, 4)))) else (none)) else (none)) else (some (0, 0, 0, 0, 0, 4)))) else (some (0, 0, 0, 0, 0, bu))) = some (r1, r2, r3, r4, r5, r6) := H; have A3 := Aside0.mk A30; clear A30
  by_cases c4 : bu = 0
  · rw [if_pos c4] at H
    have c4b0 : (bu == 0) = true := beq_iff_eq.mpr c4; have c4b1 : (bu != 0) = false := bne_eq_false_iff_eq.mpr c4; clear c4; replace H := Option.bind_eq_some_iff.mp H; obtain ⟨da, A50, H⟩ := H; replace H : (if da = true then (if 0 ≤ a1_0 then (if a1_0 < (l0.length : Int) then ((impl_InsOk.f k ((rd_T25 l0 a1_0).f0) ((rd_T25 l0 a1_0).f1) ((rd_T25 l0 a1_0).f2) ((rd_T25 l0 a1_0).f3) ((rd_T25 l0 a1_0).f4)).bind fun bM => (if bM = true then (some ((rd_T25 l0 a1_0).f0, (rd_T25 l0 a1_0).f1, (rd_T25 l0 a1_0).f2, (rd_T25 l0 a1_0).f3, (rd_T25 l0 a1_0).f4, 0)) else (some (0, 0, 0, 0, 0, 4)))) else (none)) else (none)) else (some (0, 0, 0, 0, 0, 4))) = some (r1, r2, r3, r4, r5, r6) := H; have A5 := Aside0.mk A50; clear A50
    by_cases c6 : da = true
    · subst c6
      have H1 : (if 0 ≤ a1_0 then (if a1_0 < (l0.length : Int) then ((impl_InsOk.f k ((rd_T25 l0 a1_0).f0) ((rd_T25 l0 a1_0).f1) ((rd_T25 l0 a1_0).f2) ((rd_T25 l0 a1_0).f3) ((rd_T25 l0 a1_0).f4)).bind fun bM => (if bM = true then (some ((rd_T25 l0 a1_0).f0, (rd_T25 l0 a1_0).f1, (rd_T25 l0 a1_0).f2, (rd_T25 l0 a1_0).f3, (rd_T25 l0 a1_0).f4, 0)) else (some (0, 0, 0, 0, 0, 4)))) else (none)) else (none)) = some (r1, r2, r3, r4, r5, r6) := by rw [if_pos rfl] at H; exact H
      clear H; have H := H1; clear H1
      by_cases c7 : 0 ≤ a1_0
      · rw [if_pos c7] at H
        have c7b0 : decide (0 ≤ a1_0) = true := decide_eq_true c7; clear c7
        by_cases c8 : a1_0 < (l0.length : Int)
        · rw [if_pos c8] at H
          have c8b0 : decide (a1_0 < (l0.length : Int)) = true := decide_eq_true c8; clear c8; replace H := Option.bind_eq_some_iff.mp H; obtain ⟨bM, A90, H⟩ := H; replace H : (if bM = true then (some ((rd_T25 l0 a1_0).f0, (rd_T25 l0 a1_0).f1, (rd_T25 l0 a1_0).f2, (rd_T25 l0 a1_0).f3, (rd_T25 l0 a1_0).f4, 0)) else (some (0, 0, 0, 0, 0, 4))) = some (r1, r2, r3, r4, r5, r6) := H; have A9 := Aside0.mk A90; clear A90
          by_cases c10 : bM = true
          · subst c10
            have H1 : (some ((rd_T25 l0 a1_0).f0, (rd_T25 l0 a1_0).f1, (rd_T25 l0 a1_0).f2, (rd_T25 l0 a1_0).f3, (rd_T25 l0 a1_0).f4, 0)) = some (r1, r2, r3, r4, r5, r6) := by rw [if_pos rfl] at H; exact H
            clear H; have H := H1; clear H1; simp only [Option.some.injEq, Prod.mk.injEq] at H; obtain ⟨rfl, rfl, rfl, rfl, rfl, rfl⟩ := H
            go_enter Try.func9, Try.ntmps9
            go_wp2_with (first | ((with_reducible refine gate_dst (N := 3) rfl ?_); refine bxe 3 #[.int .i64 a1_0, .bool a1_1, .int .i64 a1_2, .int .i64 a1_3, .int .i64 a1_4, .int .i64 a1_5] 29 ?_; intro dt hg et hbox hb; have bd := hbox; have dY := nge HB hg; have dZ := nge HB hg; replace HB := nbs HB hb; clear hb hbox hg) | ((with_reducible refine gate_dst (N := 4) rfl ?_); refine bxe 4 #[.int .i64 0, .int .i64 0, .int .i64 0, .int .i64 0, .int .i64 0] 25 ?_; intro b1 hg eP hbox hb; have bj := hbox; have d0 := nge HB hg; have d1 := nge HB hg; have dc := nlt bd hg; have dd := ngt bd hg; replace bd := nblk bd hb; replace HB := nbs HB hb; clear hb hbox hg; have ex := dc.out; have ey := dd.out; obtain ⟨eR, eS, eT, eU, iz, iA⟩ := c6e bd; obtain ⟨eV, eW, eX, eY, iB, iC⟩ := z6_ bd) | ((with_reducible refine gate_callee (f := 20) rfl ?_); refine goesM (some 10) rfl rfl Try.func20 (by kernel_rfl) rfl #[.agg #[.int .i64 a1_0, .bool a1_1, .int .i64 a1_2, .int .i64 a1_3, .int .i64 a1_4, .int .i64 a1_5], .int .i64 a1_0, .int .i64 4] rfl ?_; (with_reducible refine (impl_Try.calls k a1_0 a1_1 a1_2 a1_3 a1_4 a1_5 a1_0 4 bu _ A3.out).mono ?_); rintro e de ⟨rfl, hb⟩; refine ⟨_, rfl, ?_⟩; replace bd := nblk bd hb; replace bj := nblk bj hb; replace HB := nbs HB hb; (try clear hb); obtain ⟨eZ, e0, e2, e3, iD, iE⟩ := c6e bd; obtain ⟨e4, e5, e6, e7, iF, iG⟩ := z6_ bd) | ((with_reducible refine gate_callee (f := 30) rfl ?_); refine goesM (some 22) rfl rfl Try.func30 (by kernel_rfl) rfl #[.int .i64 a1_0, .int .i64 0, .int .i64 (wrap64 ((l0.length : Int) - 1))] rfl ?_; (with_reducible refine (impl_in.calls a1_0 0 (wrap64 ((l0.length : Int) - 1)) true _ A5.out).mono ?_); rintro e w' ⟨rfl, ⟨nd, rfl⟩⟩; refine ⟨_, rfl, ?_⟩; (try (rw [drewN_self de]; generalize hq_ : World.drewN de _ = de; replace bd : Aside0 (de.heap[dt]? = some (.cells #[.int .i64 a1_0, .bool a1_1, .int .i64 a1_2, .int .i64 a1_3, .int .i64 a1_4, .int .i64 a1_5] 29 (0, 0))) := ⟨by rw [← hq_]; exact (nb bd)⟩; replace bj : Aside0 (de.heap[b1]? = some (.cells #[.int .i64 0, .int .i64 0, .int .i64 0, .int .i64 0, .int .i64 0] 25 (0, 0))) := ⟨by rw [← hq_]; exact (nb bj)⟩; replace HB : Aside0 (Below w.heap.size w de) := ⟨by rw [← hq_]; exact (nbe HB)⟩; clear hq_)); obtain ⟨e8, e9, ga, gc, iH, iI⟩ := c6e bd; obtain ⟨gd, gf, gg, gh, iJ, iK⟩ := z6_ bd; have p1693 : 0 ≤ (a1_0 : Int) := of_decide_eq_true (by first | (with_reducible assumption) | assumption); have q1693 : a1_0 < (l0.length : Int) := of_decide_eq_true (by first | (with_reducible assumption) | assumption); obtain ⟨el, e1693, df, dg, dh, di, dj⟩ := at_T25 bD.out a1_0 p1693 q1693; cases e1693; replace df := (HB.out.cell (World.block_lt_of_cell? w _ df)).trans df; replace dg := (HB.out.cell (World.block_lt_of_cell? w _ dg)).trans dg; replace dh := (HB.out.cell (World.block_lt_of_cell? w _ dh)).trans dh; replace di := (HB.out.cell (World.block_lt_of_cell? w _ di)).trans di; replace dj := (HB.out.cell (World.block_lt_of_cell? w _ dj)).trans dj; replace p1693 := eq_true p1693; replace q1693 := eq_true q1693) | (go_at_call 31; (with_reducible refine (impl_InsOk.calls k ((rd_T25 l0 a1_0).f0) ((rd_T25 l0 a1_0).f1) ((rd_T25 l0 a1_0).f2) ((rd_T25 l0 a1_0).f3) ((rd_T25 l0 a1_0).f4) true _ A9.out).mono ?_); rintro e ec ⟨rfl, hb⟩; replace bd := nblk bd hb; replace bj := nblk bj hb; replace HB := nbs HB hb; (try clear hb); obtain ⟨iL, iM, iN, iO, iP, iQ⟩ := c6e bd; obtain ⟨iR, iS, iT, iU, iV, iW⟩ := z6_ bd; have p1695 : 0 ≤ (a1_0 : Int) := of_decide_eq_true (by first | (with_reducible assumption) | assumption); have q1695 : a1_0 < (l0.length : Int) := of_decide_eq_true (by first | (with_reducible assumption) | assumption); obtain ⟨gi, e1695, d2, d3, d4, d5, d6⟩ := at_T25 bD.out a1_0 p1695 q1695; obtain rfl : el = gi := (by injection e1695); replace d2 := (HB.out.cell (World.block_lt_of_cell? w _ d2)).trans d2; replace d3 := (HB.out.cell (World.block_lt_of_cell? w _ d3)).trans d3; replace d4 := (HB.out.cell (World.block_lt_of_cell? w _ d4)).trans d4; replace d5 := (HB.out.cell (World.block_lt_of_cell? w _ d5)).trans d5; replace d6 := (HB.out.cell (World.block_lt_of_cell? w _ d6)).trans d6; replace p1695 := eq_true p1695; replace q1695 := eq_true q1695; obtain ⟨iX, iY, iZ, i0, i1⟩ := c5e bj; obtain ⟨i2, i3, i4, i5, i6⟩ := z5_ bj))
            refine bodyPost_ret (results_ct rfl _ _ b1 25 #[.int .i64 ((rd_T25 l0 a1_0).f0), .int .i64 ((rd_T25 l0 a1_0).f1), .int .i64 ((rd_T25 l0 a1_0).f2), .int .i64 ((rd_T25 l0 a1_0).f3), .int .i64 ((rd_T25 l0 a1_0).f4)] (0, 0) _ rfl (q5 bj) Try.underlying25 rfl (by kernel_rfl)) rfl ?_; exact ⟨er_, nbe HB⟩
          · replace c10 := Bool.eq_false_iff.mpr c10
            subst c10; have H1 : (some (0, 0, 0, 0, 0, 4)) = some (r1, r2, r3, r4, r5, r6) := by rw [if_neg (show ¬ (false = true) by decide)] at H; exact H
            clear H; have H := H1; clear H1; simp only [Option.some.injEq, Prod.mk.injEq] at H; obtain ⟨rfl, rfl, rfl, rfl, rfl, rfl⟩ := H
            go_enter Try.func9, Try.ntmps9
            go_wp2_with (first | ((with_reducible refine gate_dst (N := 3) rfl ?_); refine bxe 3 #[.int .i64 a1_0, .bool a1_1, .int .i64 a1_2, .int .i64 a1_3, .int .i64 a1_4, .int .i64 a1_5] 29 ?_; intro dt hg i7 hbox hb; have bd := hbox; have dY := nge HB hg; have dZ := nge HB hg; replace HB := nbs HB hb; clear hb hbox hg) | ((with_reducible refine gate_dst (N := 4) rfl ?_); refine bxe 4 #[.int .i64 0, .int .i64 0, .int .i64 0, .int .i64 0, .int .i64 0] 25 ?_; intro b1 hg dU hbox hb; have bj := hbox; have d0 := nge HB hg; have d1 := nge HB hg; have dc := nlt bd hg; have dd := ngt bd hg; replace bd := nblk bd hb; replace HB := nbs HB hb; clear hb hbox hg; have i8 := dc.out; have i9 := dd.out; obtain ⟨ja, jb, jc, jd, je, jf⟩ := c6e bd; obtain ⟨jg, jh, ji, jj, jk, jl⟩ := z6_ bd) | ((with_reducible refine gate_callee (f := 20) rfl ?_); refine goesM (some 10) rfl rfl Try.func20 (by kernel_rfl) rfl #[.agg #[.int .i64 a1_0, .bool a1_1, .int .i64 a1_2, .int .i64 a1_3, .int .i64 a1_4, .int .i64 a1_5], .int .i64 a1_0, .int .i64 4] rfl ?_; (with_reducible refine (impl_Try.calls k a1_0 a1_1 a1_2 a1_3 a1_4 a1_5 a1_0 4 bu _ A3.out).mono ?_); rintro e du ⟨rfl, hb⟩; refine ⟨_, rfl, ?_⟩; replace bd := nblk bd hb; replace bj := nblk bj hb; replace HB := nbs HB hb; (try clear hb); obtain ⟨gj, gl, gm, gn, jm, jn⟩ := c6e bd; obtain ⟨gp, gq, gr, gs, jo, jp⟩ := z6_ bd) | ((with_reducible refine gate_callee (f := 30) rfl ?_); refine goesM (some 22) rfl rfl Try.func30 (by kernel_rfl) rfl #[.int .i64 a1_0, .int .i64 0, .int .i64 (wrap64 ((l0.length : Int) - 1))] rfl ?_; (with_reducible refine (impl_in.calls a1_0 0 (wrap64 ((l0.length : Int) - 1)) true _ A5.out).mono ?_); rintro e w' ⟨rfl, ⟨nd, rfl⟩⟩; refine ⟨_, rfl, ?_⟩; (try (rw [drewN_self du]; generalize hq_ : World.drewN du _ = du; replace bd : Aside0 (du.heap[dt]? = some (.cells #[.int .i64 a1_0, .bool a1_1, .int .i64 a1_2, .int .i64 a1_3, .int .i64 a1_4, .int .i64 a1_5] 29 (0, 0))) := ⟨by rw [← hq_]; exact (nb bd)⟩; replace bj : Aside0 (du.heap[b1]? = some (.cells #[.int .i64 0, .int .i64 0, .int .i64 0, .int .i64 0, .int .i64 0] 25 (0, 0))) := ⟨by rw [← hq_]; exact (nb bj)⟩; replace HB : Aside0 (Below w.heap.size w du) := ⟨by rw [← hq_]; exact (nbe HB)⟩; clear hq_)); obtain ⟨jq, jr, js, jt, ju, jv⟩ := c6e bd; obtain ⟨jw, jx, jy, jz, jA, jB⟩ := z6_ bd; have p1693 : 0 ≤ (a1_0 : Int) := of_decide_eq_true (by first | (with_reducible assumption) | assumption); have q1693 : a1_0 < (l0.length : Int) := of_decide_eq_true (by first | (with_reducible assumption) | assumption); obtain ⟨el, e1693, df, dg, dh, di, dj⟩ := at_T25 bD.out a1_0 p1693 q1693; cases e1693; replace df := (HB.out.cell (World.block_lt_of_cell? w _ df)).trans df; replace dg := (HB.out.cell (World.block_lt_of_cell? w _ dg)).trans dg; replace dh := (HB.out.cell (World.block_lt_of_cell? w _ dh)).trans dh; replace di := (HB.out.cell (World.block_lt_of_cell? w _ di)).trans di; replace dj := (HB.out.cell (World.block_lt_of_cell? w _ dj)).trans dj; replace p1693 := eq_true p1693; replace q1693 := eq_true q1693) | (go_at_call 31; (with_reducible refine (impl_InsOk.calls k ((rd_T25 l0 a1_0).f0) ((rd_T25 l0 a1_0).f1) ((rd_T25 l0 a1_0).f2) ((rd_T25 l0 a1_0).f3) ((rd_T25 l0 a1_0).f4) false _ A9.out).mono ?_); rintro e gt ⟨rfl, hb⟩; replace bd := nblk bd hb; replace bj := nblk bj hb; replace HB := nbs HB hb; (try clear hb); obtain ⟨jC, jD, jE, jF, jG⟩ := c5e bj; obtain ⟨jH, jI, jJ, jK, jL⟩ := z5_ bj))
            refine bodyPost_ret (results_ct rfl _ _ b1 25 #[.int .i64 0, .int .i64 0, .int .i64 0, .int .i64 0, .int .i64 0] (0, 0) _ rfl (q5 bj) Try.underlying25 rfl (by kernel_rfl)) rfl ?_; exact ⟨er_, nbe HB⟩
        · rw [if_neg c8] at H
          exact absurd H (by simp)
      · rw [if_neg c7] at H
        exact absurd H (by simp)
    · replace c6 := Bool.eq_false_iff.mpr c6
      subst c6; have H1 : (some (0, 0, 0, 0, 0, 4)) = some (r1, r2, r3, r4, r5, r6) := by rw [if_neg (show ¬ (false = true) by decide)] at H; exact H
      clear H; have H := H1; clear H1; simp only [Option.some.injEq, Prod.mk.injEq] at H; obtain ⟨rfl, rfl, rfl, rfl, rfl, rfl⟩ := H
      go_enter Try.func9, Try.ntmps9
      go_wp2_with (first | ((with_reducible refine gate_dst (N := 3) rfl ?_); refine bxe 3 #[.int .i64 a1_0, .bool a1_1, .int .i64 a1_2, .int .i64 a1_3, .int .i64 a1_4, .int .i64 a1_5] 29 ?_; intro dt hg eK hbox hb; have bd := hbox; have dY := nge HB hg; have dZ := nge HB hg; replace HB := nbs HB hb; clear hb hbox hg) | ((with_reducible refine gate_dst (N := 4) rfl ?_); refine bxe 4 #[.int .i64 0, .int .i64 0, .int .i64 0, .int .i64 0, .int .i64 0] 25 ?_; intro b1 hg ed hbox hb; have bj := hbox; have d0 := nge HB hg; have d1 := nge HB hg; have dc := nlt bd hg; have dd := ngt bd hg; replace bd := nblk bd hb; replace HB := nbs HB hb; clear hb hbox hg; have jM := dc.out; have jN := dd.out; obtain ⟨jO, jP, jQ, jR, jS, jT⟩ := c6e bd; obtain ⟨jU, jV, jW, jX, jY, jZ⟩ := z6_ bd) | ((with_reducible refine gate_callee (f := 20) rfl ?_); refine goesM (some 10) rfl rfl Try.func20 (by kernel_rfl) rfl #[.agg #[.int .i64 a1_0, .bool a1_1, .int .i64 a1_2, .int .i64 a1_3, .int .i64 a1_4, .int .i64 a1_5], .int .i64 a1_0, .int .i64 4] rfl ?_; (with_reducible refine (impl_Try.calls k a1_0 a1_1 a1_2 a1_3 a1_4 a1_5 a1_0 4 bu _ A3.out).mono ?_); rintro e dv ⟨rfl, hb⟩; refine ⟨_, rfl, ?_⟩; replace bd := nblk bd hb; replace bj := nblk bj hb; replace HB := nbs HB hb; (try clear hb); obtain ⟨gu, gv, gw, gx, j0, j1⟩ := c6e bd; obtain ⟨gy, gz, gA, gB, j2, j3⟩ := z6_ bd) | ((with_reducible refine gate_callee (f := 30) rfl ?_); refine goesM (some 22) rfl rfl Try.func30 (by kernel_rfl) rfl #[.int .i64 a1_0, .int .i64 0, .int .i64 (wrap64 ((l0.length : Int) - 1))] rfl ?_; (with_reducible refine (impl_in.calls a1_0 0 (wrap64 ((l0.length : Int) - 1)) false _ A5.out).mono ?_); rintro e w' ⟨rfl, ⟨nd, rfl⟩⟩; refine ⟨_, rfl, ?_⟩; (try (rw [drewN_self dv]; generalize hq_ : World.drewN dv _ = dv; replace bd : Aside0 (dv.heap[dt]? = some (.cells #[.int .i64 a1_0, .bool a1_1, .int .i64 a1_2, .int .i64 a1_3, .int .i64 a1_4, .int .i64 a1_5] 29 (0, 0))) := ⟨by rw [← hq_]; exact (nb bd)⟩; replace bj : Aside0 (dv.heap[b1]? = some (.cells #[.int .i64 0, .int .i64 0, .int .i64 0, .int .i64 0, .int .i64 0] 25 (0, 0))) := ⟨by rw [← hq_]; exact (nb bj)⟩; replace HB : Aside0 (Below w.heap.size w dv) := ⟨by rw [← hq_]; exact (nbe HB)⟩; clear hq_)); obtain ⟨j4, j5, j6, j7, j8⟩ := c5e bj; obtain ⟨j9, ka, kb, kd, ke⟩ := z5_ bj))
      refine bodyPost_ret (results_ct rfl _ _ b1 25 #[.int .i64 0, .int .i64 0, .int .i64 0, .int .i64 0, .int .i64 0] (0, 0) _ rfl (q5 bj) Try.underlying25 rfl (by kernel_rfl)) rfl ?_; exact ⟨er_, nbe HB⟩
  · rw [if_neg c4] at H
    have c4b0 : (bu == 0) = false := beq_eq_false_iff_ne.mpr c4; have c4b1 : (bu != 0) = true := bne_iff_ne.mpr c4; simp only [Option.some.injEq, Prod.mk.injEq] at H; obtain ⟨rfl, rfl, rfl, rfl, rfl, rfl⟩ := H
    go_enter Try.func9, Try.ntmps9
    go_wp2_with (first | ((with_reducible refine gate_dst (N := 3) rfl ?_); refine bxe 3 #[.int .i64 a1_0, .bool a1_1, .int .i64 a1_2, .int .i64 a1_3, .int .i64 a1_4, .int .i64 a1_5] 29 ?_; intro dt hg gC hbox hb; have bd := hbox; have dY := nge HB hg; have dZ := nge HB hg; replace HB := nbs HB hb; clear hb hbox hg) | ((with_reducible refine gate_dst (N := 4) rfl ?_); refine bxe 4 #[.int .i64 0, .int .i64 0, .int .i64 0, .int .i64 0, .int .i64 0] 25 ?_; intro b1 hg kf hbox hb; have bj := hbox; have d0 := nge HB hg; have d1 := nge HB hg; have dc := nlt bd hg; have dd := ngt bd hg; replace bd := nblk bd hb; replace HB := nbs HB hb; clear hb hbox hg; have kg := dc.out; have kh := dd.out; obtain ⟨ki, kj, kk, kl, km, kn⟩ := c6e bd; obtain ⟨ko, kp, kr, ks, kt, ku⟩ := z6_ bd) | ((with_reducible refine gate_callee (f := 20) rfl ?_); refine goesM (some 10) rfl rfl Try.func20 (by kernel_rfl) rfl #[.agg #[.int .i64 a1_0, .bool a1_1, .int .i64 a1_2, .int .i64 a1_3, .int .i64 a1_4, .int .i64 a1_5], .int .i64 a1_0, .int .i64 4] rfl ?_; (with_reducible refine (impl_Try.calls k a1_0 a1_1 a1_2 a1_3 a1_4 a1_5 a1_0 4 bu _ A3.out).mono ?_); rintro e db ⟨rfl, hb⟩; refine ⟨_, rfl, ?_⟩; replace bd := nblk bd hb; replace bj := nblk bj hb; replace HB := nbs HB hb; (try clear hb); obtain ⟨kv, kw, kx, ky, kz⟩ := c5e bj; obtain ⟨kA, kB, kC, kD, kE⟩ := z5_ bj))
    refine bodyPost_ret (results_ct rfl _ _ b1 25 #[.int .i64 0, .int .i64 0, .int .i64 0, .int .i64 0, .int .i64 0] (0, 0) _ rfl (q5 bj) Try.underlying25 rfl (by kernel_rfl)) rfl ?_; exact ⟨er_, nbe HB⟩

-- NOT PRINTED: function 65 (impl_Word_65)

-- NOT PRINTED: function 35 (impl_Word_35)

/-! ### impl_Covers: function 37 -/
def impl_Covers.f (k : Nat) (a0_0 : Int) (a0_1 : Int) (a0_2 : Int) (a0_3 : Int) (a1_0 : Int) (a1_1 : Int) (a1_2 : Int) (a1_3 : Int) : Option (Bool) := (impl_KeyOk.f k a0_0 a0_1 a0_2 a0_3).bind fun dw => (if dw = true then ((impl_KeyOk.f k a1_0 a1_1 a1_2 a1_3).bind fun b2 => (if b2 = true then (if a0_0 ≤ a1_0 then (if a1_1 ≤ a0_1 then (some ((Go.bits .andNot .i64 a1_2 a0_2) == 0)) else (some false)) else (some false)) else (some false))) else (some false))
theorem impl_Covers.mono : ∀ a0 a1 a2 a3 a4 a5 a6 a7 k, LeO (impl_Covers.f k a0 a1 a2 a3 a4 a5 a6 a7) (impl_Covers.f (k + 1) a0 a1 a2 a3 a4 a5 a6 a7) := by
  intro a0 a1 a2 a3 a4 a5 a6 a7 k
  unfold impl_Covers.f
  repeat' first
      | (with_reducible exact impl_KeyOk.mono _ _ _ _ _)
      | (with_reducible exact LeO.refl _)
      | (with_reducible exact LeO.none _)
      | (with_reducible refine LeO.ite ?_ ?_)
      | (with_reducible refine LeO.bind ?_ (fun _ => ?_))
      | exact impl_KeyOk.mono _ _ _ _ _
      | exact LeO.none _
      | refine LeO.ite ?_ ?_
      | refine LeO.bind ?_ (fun _ => ?_)
set_option maxHeartbeats 8000000 in
set_option maxRecDepth 100000 in
theorem impl_Covers.calls (k : Nat) (a0_0 : Int) (a0_1 : Int) (a0_2 : Int) (a0_3 : Int) (a1_0 : Int) (a1_1 : Int) (a1_2 : Int) (a1_3 : Int) (r : Bool) (w : World) (h : impl_Covers.f k a0_0 a0_1 a0_2 a0_3 a1_0 a1_1 a1_2 a1_3 = some r) :
    Calls Try.prog 37 #[.agg #[.int .i64 a0_0, .int .i64 a0_1, .int .i64 a0_2, .int .i64 a0_3], .agg #[.int .i64 a1_0, .int .i64 a1_1, .int .i64 a1_2, .int .i64 a1_3]] w fun e w' => e = .returned (.bool r) ∧ Below w.heap.size w w' := by
  have hu27 := Try.underlying27; have H := h; clear h; unfold impl_Covers.f at H; (try dsimp only at H); replace H := Option.bind_eq_some_iff.mp H; obtain ⟨dw, A30, H⟩ := H; (try dsimp only at H); have A3 := Aside0.mk A30; clear A30
  by_cases c4 : dw = true
  · subst c4
    rw [if_pos rfl] at H; (try dsimp only at H); replace H := Option.bind_eq_some_iff.mp H; obtain ⟨b2, A50, H⟩ := H; (try dsimp only at H); have A5 := Aside0.mk A50; clear A50
    by_cases c6 : b2 = true
    · subst c6
      rw [if_pos rfl] at H; (try dsimp only at H)
      by_cases c7 : a0_0 ≤ a1_0
      · rw [if_pos c7] at H
        have c7b0 : decide (a0_0 ≤ a1_0) = true := decide_eq_true c7; clear c7
        by_cases c8 : a1_1 ≤ a0_1
        · rw [if_pos c8] at H
          have c8b0 : decide (a1_1 ≤ a0_1) = true := decide_eq_true c8; clear c8; obtain rfl := Option.some.inj H
          go_enter Try.func37, Try.ntmps37
          go_wp2_with (first | (go_at_call 66; (with_reducible refine dmn (impl_KeyOk.calls (h := A3.out) (w := _)) ?_); intro x1 hb1 hc; have hw := dsz (n := w.heap.size + 1 + 1) hb1; have z := dl2 hw) | (go_at_call 66; (with_reducible refine dmn (impl_KeyOk.calls (h := A5.out) (w := _)) ?_); intro x2 hb2 hc; have hw := dsz (n := w.heap.size + 1 + 1) hb2; have z := dl2 hw))
          go_ret; exact ⟨er_, dfi⟩
        · rw [if_neg c8] at H
          have c8b0 : decide (a1_1 ≤ a0_1) = false := decide_eq_false c8; clear c8; obtain rfl := Option.some.inj H
          go_enter Try.func37, Try.ntmps37
          go_wp2_with (first | (go_at_call 66; (with_reducible refine dmn (impl_KeyOk.calls (h := A3.out) (w := _)) ?_); intro x1 hb1 hc; have hw := dsz (n := w.heap.size + 1 + 1) hb1; have z := dl2 hw) | (go_at_call 66; (with_reducible refine dmn (impl_KeyOk.calls (h := A5.out) (w := _)) ?_); intro x2 hb2 hc; have hw := dsz (n := w.heap.size + 1 + 1) hb2; have z := dl2 hw))
          go_ret; exact ⟨er_, dfi⟩
      · rw [if_neg c7] at H
        have c7b0 : decide (a0_0 ≤ a1_0) = false := decide_eq_false c7; clear c7; obtain rfl := Option.some.inj H
        go_enter Try.func37, Try.ntmps37
        go_wp2_with (first | (go_at_call 66; (with_reducible refine dmn (impl_KeyOk.calls (h := A3.out) (w := _)) ?_); intro x1 hb1 hc; have hw := dsz (n := w.heap.size + 1 + 1) hb1; have z := dl2 hw) | (go_at_call 66; (with_reducible refine dmn (impl_KeyOk.calls (h := A5.out) (w := _)) ?_); intro x2 hb2 hc; have hw := dsz (n := w.heap.size + 1 + 1) hb2; have z := dl2 hw))
        go_ret; exact ⟨er_, dfi⟩
    · replace c6 := Bool.eq_false_iff.mpr c6
      subst c6; rw [if_neg (show ¬ (false = true) by decide)] at H; (try dsimp only at H); obtain rfl := Option.some.inj H
      go_enter Try.func37, Try.ntmps37
      go_wp2_with (first | (go_at_call 66; (with_reducible refine dmn (impl_KeyOk.calls (h := A3.out) (w := _)) ?_); intro x1 hb1 hc; have hw := dsz (n := w.heap.size + 1 + 1) hb1; have z := dl2 hw) | (go_at_call 66; (with_reducible refine dmn (impl_KeyOk.calls (h := A5.out) (w := _)) ?_); intro x2 hb2 hc; have hw := dsz (n := w.heap.size + 1 + 1) hb2; have z := dl2 hw))
      go_ret; exact ⟨er_, dfi⟩
  · replace c4 := Bool.eq_false_iff.mpr c4
    subst c4; rw [if_neg (show ¬ (false = true) by decide)] at H; (try dsimp only at H); obtain rfl := Option.some.inj H
    go_enter Try.func37, Try.ntmps37
    go_wp2_with (first | (go_at_call 66; (with_reducible refine dmn (impl_KeyOk.calls (h := A3.out) (w := _)) ?_); intro x1 hb1 hc; have hw := dsz (n := w.heap.size + 1 + 1) hb1; have z := dl2 hw))
    go_ret; exact ⟨er_, dfi⟩

-- NOT PRINTED: function 36 (impl_Unders_1)
/-! ### impl_Unders: function 12 -/
def impl_Unders.l0 : Nat → List (S29) → Int → Int → Int → Int → Int → Option Int
  | 0, _, _, _, _, _, _ => none
  | k + 1, l, i, c2, c3, c4, c5 => if i < (l.length : Int) then (if 0 ≤ i then (if (rd_T29 l i).f1 = true then impl_Covers.f k (rd_T29 l i).f2.f0 (rd_T29 l i).f2.f1 (rd_T29 l i).f2.f2 (rd_T29 l i).f2.f3 c2 c3 c4 c5 else some false).bind fun t => (if t = true then some i else impl_Unders.l0 k l (wrap64 (i + 1)) c2 c3 c4 c5) else none) else some (-1)
def impl_Unders.f (k : Nat) (a0_0 : Int) (a0_1 : Bool) (a0_2 : Int) (a0_3 : Int) (a0_4 : Int) (a0_5 : Int) (l1 : List (S29)) : Option Bool := if a0_1 = true then ((impl_Unders.l0 k l1 0 a0_2 a0_3 a0_4 a0_5).bind fun t => some (decide (t ≥ 0))) else some true
theorem impl_Unders.mono_l : ∀ k, (∀ y0 y1 y2 y3 y4 y5, LeO (impl_Unders.l0 k y0 y1 y2 y3 y4 y5) (impl_Unders.l0 (k + 1) y0 y1 y2 y3 y4 y5))
  | 0 => fun _ _ _ _ _ _ r h => by simp [impl_Unders.l0] at h
  | k + 1 => by
    have ih0 := impl_Unders.mono_l k
    · intro y0 y1 y2 y3 y4 y5
      unfold impl_Unders.l0
      repeat' first
      | (with_reducible exact ih0 _ _ _ _ _ _)
      | (with_reducible exact impl_Covers.mono _ _ _ _ _ _ _ _ _)
      | (with_reducible exact LeO.refl _)
      | (with_reducible exact LeO.none _)
      | (with_reducible refine LeO.ite ?_ ?_)
      | (with_reducible refine LeO.bind ?_ (fun _ => ?_))
      | exact ih0 _ _ _ _ _ _
      | exact impl_Covers.mono _ _ _ _ _ _ _ _ _
      | exact LeO.none _
      | refine LeO.ite ?_ ?_
      | refine LeO.bind ?_ (fun _ => ?_)
theorem impl_Unders.mono : ∀ a0 a1 a2 a3 a4 a5 a6 k, LeO (impl_Unders.f k a0 a1 a2 a3 a4 a5 a6) (impl_Unders.f (k + 1) a0 a1 a2 a3 a4 a5 a6) := by
  intro a0 a1 a2 a3 a4 a5 a6 k; have ih0 := impl_Unders.mono_l k
  unfold impl_Unders.f
  repeat' first
      | (with_reducible exact ih0 _ _ _ _ _ _)
      | (with_reducible exact impl_Covers.mono _ _ _ _ _ _ _ _ _)
      | (with_reducible exact LeO.refl _)
      | (with_reducible exact LeO.none _)
      | (with_reducible refine LeO.ite ?_ ?_)
      | (with_reducible refine LeO.bind ?_ (fun _ => ?_))
      | exact ih0 _ _ _ _ _ _
      | exact impl_Covers.mono _ _ _ _ _ _ _ _ _
      | exact LeO.none _
      | refine LeO.ite ?_ ?_
      | refine LeO.bind ?_ (fun _ => ?_)
set_option maxHeartbeats 8000000 in
set_option maxRecDepth 100000 in
theorem impl_Unders.lit (k : Nat) (x0 : Int) (x1 : Bool) (x2 x3 x4 x5 : Int) (c0 : Int) (c1 : Bool) (c2 c3 c4 c5 : Int) (g : Nat) (r : Bool) (w : World) (hk : w.heap[g]? = some (.cells #[.int .i64 c0, .bool c1, .int .i64 c2, .int .i64 c3, .int .i64 c4, .int .i64 c5] 29 (0, 0))) (h : (if x1 = true then impl_Covers.f k x2 x3 x4 x5 c2 c3 c4 c5 else some false) = some r) :
  Calls Try.prog 36 #[.agg #[.int .i64 x0, .bool x1, .int .i64 x2, .int .i64 x3, .int .i64 x4, .int .i64 x5], .pointer (some ⟨g, 0, none⟩)] w fun e w' => e = .returned (.bool r) ∧ Below w.heap.size w w' := by
 have hu := Try.underlying29; have BK := Aside0.mk hk; have HB := Aside0.mk (Below.refl w.heap.size w); clear hk
 cases x1 with
 | true =>
  rw [if_pos rfl] at h; have A8 := Aside0.mk h; clear h
  go_enter Try.func36, Try.ntmps36
  go_wp2_with (first | ((with_reducible refine gate_dst (N := 2) rfl ?_); refine bxe 2 #[.int .i64 x0, .bool true, .int .i64 x2, .int .i64 x3, .int .i64 x4, .int .i64 x5] 29 ?_; intro gb hg w3 hbox hb; have BX := hbox; replace BK := nblk BK hb; replace HB := nbs HB hb; clear hb hbox hg; obtain ⟨hx_0, hx_1, hx_2, hx_3, hx_4, hx_5⟩ := c6e BX; obtain ⟨hy_0, hy_1, hy_2, hy_3, hy_4, hy_5⟩ := c6e BK) | (go_at_call 37; (with_reducible refine (impl_Covers.calls k x2 x3 x4 x5 c2 c3 c4 c5 r _ A8.out).mono ?_); rintro e w' ⟨rfl, hb⟩))
  go_ret
  exact ⟨rfl, below_step HB.out hb⟩
 | false =>
  rw [if_neg (by simp)] at h; obtain rfl : false = r := by simpa using h
  clear h
  go_enter Try.func36, Try.ntmps36
  go_wp2_with (first | ((with_reducible refine gate_dst (N := 2) rfl ?_); refine bxe 2 #[.int .i64 x0, .bool false, .int .i64 x2, .int .i64 x3, .int .i64 x4, .int .i64 x5] 29 ?_; intro gb hg w3 hbox hb; have BX := hbox; replace BK := nblk BK hb; replace HB := nbs HB hb; clear hb hbox hg; obtain ⟨hx_0, hx_1, hx_2, hx_3, hx_4, hx_5⟩ := c6e BX; obtain ⟨hy_0, hy_1, hy_2, hy_3, hy_4, hy_5⟩ := c6e BK))
  go_ret
  exact ⟨rfl, HB.out⟩
set_option maxHeartbeats 8000000 in
set_option maxRecDepth 100000 in
theorem impl_Unders.idx (k : Nat) (A0 : Option Addr) (n0 : Nat) (l0 : List (S29)) (c0 : Int) (c1 : Bool) (c2 c3 c4 c5 : Int) (g : Nat) (r : Int) (w : World) (hr0 : Kd.C k29 w A0 l0.length l0) (hk : w.heap[g]? = some (.cells #[.int .i64 c0, .bool c1, .int .i64 c2, .int .i64 c3, .int .i64 c4, .int .i64 c5] 29 (0, 0))) (h : impl_Unders.l0 k l0 0 c2 c3 c4 c5 = some r) :
  Calls Try.prog 65 #[.slice A0 l0.length n0, .func (.func 36) #[] #[.pointer (some ⟨g, 0, none⟩)]] w fun e w' => e = .returned (.int .i64 r) ∧ Below w.heap.size w w' := by
 have hu29 := Try.underlying29; have bD := Aside0.mk hr0; have BK := Aside0.mk hk; have HB := Aside0.mk (Below.refl w.heap.size w); have H' := Aside0.mk h; clear hr0 h hk
 go_enter Try.func65, Try.ntmps65
 go_wp2
 go_loopg [5, 8] k (fun kq v5 v8 w' => ∃ x8 : Int, v8 = .int .i64 x8 ∧ Aside0 (impl_Unders.l0 kq l0 x8 c2 c3 c4 c5 = some r) ∧ Aside0 (kq ≤ k) ∧ Aside0 (Below w.heap.size w w'))
 case atStart => exact ⟨0, rfl, H', ⟨Nat.le_refl _⟩, HB⟩
 case round =>
  clear H'; obtain ⟨x8, rfl, HA, HK, HB⟩ := hrel
  cases gk with
  | zero => exact absurd HA.out (by simp [impl_Unders.l0])
  | succ k1 =>
   have H := HA.out; clear HA; simp only [impl_Unders.l0] at H
   by_cases c1' : x8 < (l0.length : Int)
   · rw [if_pos c1'] at H
     by_cases c2' : 0 ≤ x8
     · rw [if_pos c2'] at H
       replace H := Option.bind_eq_some_iff.mp H; obtain ⟨t, A80, H⟩ := H; have A8 := Aside0.mk A80; clear A80; obtain ⟨nf, e1, hx_0, hx_1, hx_2, hx_3, hx_4, hx_5⟩ := at_T29 bD.out x8 c2' c1'
       cases e1
       replace hx_0 := (HB.out.cell (World.block_lt_of_cell? w _ hx_0)).trans hx_0; replace hx_1 := (HB.out.cell (World.block_lt_of_cell? w _ hx_1)).trans hx_1; replace hx_2 := (HB.out.cell (World.block_lt_of_cell? w _ hx_2)).trans hx_2; replace hx_3 := (HB.out.cell (World.block_lt_of_cell? w _ hx_3)).trans hx_3; replace hx_4 := (HB.out.cell (World.block_lt_of_cell? w _ hx_4)).trans hx_4; replace hx_5 := (HB.out.cell (World.block_lt_of_cell? w _ hx_5)).trans hx_5; have BR := Aside0.mk (blk_below BK.out HB.out); have c1b : decide (x8 < (l0.length : Int)) = true := decide_eq_true c1'; have c2b : decide (0 ≤ x8) = true := decide_eq_true c2'; replace c2' := eq_true c2'; replace c1' := eq_true c1'
       cases t with
       | true =>
         obtain rfl : x8 = r := by simpa using H
         clear H
         go_wp2_with (first | (go_at_call 36; refine (impl_Unders.lit k1 (rd_T29 l0 x8).f0 (rd_T29 l0 x8).f1 (rd_T29 l0 x8).f2.f0 (rd_T29 l0 x8).f2.f1 (rd_T29 l0 x8).f2.f2 (rd_T29 l0 x8).f2.f3 c0 c1 c2 c3 c4 c5 g true _ BR.out A8.out).mono ?_; rintro e w' ⟨rfl, hb⟩))
         go_ret
         exact ⟨rfl, below_step HB.out hb⟩
       | false =>
         have H' : Aside0 (impl_Unders.l0 k1 l0 (wrap64 (x8 + 1)) c2 c3 c4 c5 = some r) := ⟨by simpa using H⟩; clear H
         go_wp2_with (first | (go_at_call 36; refine (impl_Unders.lit k1 (rd_T29 l0 x8).f0 (rd_T29 l0 x8).f1 (rd_T29 l0 x8).f2.f0 (rd_T29 l0 x8).f2.f1 (rd_T29 l0 x8).f2.f2 (rd_T29 l0 x8).f2.f3 c0 c1 c2 c3 c4 c5 g false _ BR.out A8.out).mono ?_; rintro e w' ⟨rfl, hb⟩))
         go_roundg k1
         case measure => have := HK.out; omega
         case rel => exact ⟨_, rfl, H', ⟨by have := HK.out; omega⟩, ⟨below_step HB.out hb⟩⟩
     · rw [if_neg c2'] at H
       exact absurd H (by simp)
   · rw [if_neg c1'] at H
     obtain rfl : -1 = r := by simpa using H
     clear H; go_wp2
     go_ret
     exact ⟨rfl, HB.out⟩
set_option maxHeartbeats 8000000 in
set_option maxRecDepth 100000 in
theorem impl_Unders.any (k : Nat) (A0 : Option Addr) (n0 : Nat) (l0 : List (S29)) (c0 : Int) (c1 : Bool) (c2 c3 c4 c5 : Int) (g : Nat) (t : Int) (w : World) (hr0 : Kd.C k29 w A0 l0.length l0) (hk : w.heap[g]? = some (.cells #[.int .i64 c0, .bool c1, .int .i64 c2, .int .i64 c3, .int .i64 c4, .int .i64 c5] 29 (0, 0))) (h : impl_Unders.l0 k l0 0 c2 c3 c4 c5 = some t) :
  Calls Try.prog 35 #[.slice A0 l0.length n0, .func (.func 36) #[] #[.pointer (some ⟨g, 0, none⟩)]] w fun e w' => e = .returned (.bool (decide (t ≥ 0))) ∧ Below w.heap.size w w' := by
 have bD := Aside0.mk hr0; have BK := Aside0.mk hk; have A8 := Aside0.mk h; clear hr0 hk h
 go_enter Try.func35, Try.ntmps35
 go_wp2_with (first | (go_at_call 65; refine (impl_Unders.idx k A0 n0 l0 c0 c1 c2 c3 c4 c5 g t _ bD.out BK.out A8.out).mono ?_; rintro e w' ⟨rfl, hb⟩))
 go_ret
 exact ⟨rfl, hb⟩
set_option maxHeartbeats 8000000 in
set_option maxRecDepth 100000 in
theorem impl_Unders.calls (k : Nat) (a0_0 : Int) (a0_1 : Bool) (a0_2 : Int) (a0_3 : Int) (a0_4 : Int) (a0_5 : Int) (A1 : Option Addr) (c1 : Nat) (l1 : List (S29)) (r : Bool) (w : World) (hr1 : Kd.C k29 w A1 l1.length l1) (hc1 : l1.length ≤ c1) (h : impl_Unders.f k a0_0 a0_1 a0_2 a0_3 a0_4 a0_5 l1 = some r) :
  Calls Try.prog 12 #[.agg #[.int .i64 a0_0, .bool a0_1, .int .i64 a0_2, .int .i64 a0_3, .int .i64 a0_4, .int .i64 a0_5], .slice A1 l1.length c1] w fun e w' => e = .returned (.bool r) ∧ Below w.heap.size w w' := by
 have hu := Try.underlying29; have bD := Aside0.mk hr1; have HB := Aside0.mk (Below.refl w.heap.size w); clear hr1 hc1
 unfold impl_Unders.f at h
 cases a0_1 with
 | true =>
  rw [if_pos rfl] at h; obtain ⟨t, A80, H⟩ := Option.bind_eq_some_iff.mp h; have A8 := Aside0.mk A80; obtain rfl : decide (t ≥ 0) = r := by simpa using H
  clear A80 H h
  go_enter Try.func12, Try.ntmps12
  go_wp2_with (first | ((with_reducible refine gate_dst (N := 2) rfl ?_); refine bxe 2 #[.int .i64 a0_0, .bool true, .int .i64 a0_2, .int .i64 a0_3, .int .i64 a0_4, .int .i64 a0_5] 29 ?_; intro gb hg w3 hbox hb; have BX := hbox; replace HB := nbs HB hb; clear hb hbox hg; obtain ⟨hx_0, hx_1, hx_2, hx_3, hx_4, hx_5⟩ := c6e BX) | (go_at_call 35; (refine (impl_Unders.any k A1 c1 l1 a0_0 true a0_2 a0_3 a0_4 a0_5 gb t _ ?s1 BX.out A8.out).mono ?_); (case s1 => exact Kd.C_below bD.out HB.out); rintro e w' ⟨rfl, hb⟩))
  go_ret
  exact ⟨rfl, below_step HB.out hb⟩
 | false =>
  rw [if_neg (by simp)] at h; obtain rfl : true = r := by simpa using h
  clear h
  go_enter Try.func12, Try.ntmps12
  go_wp2_with (first | ((with_reducible refine gate_dst (N := 2) rfl ?_); refine bxe 2 #[.int .i64 a0_0, .bool false, .int .i64 a0_2, .int .i64 a0_3, .int .i64 a0_4, .int .i64 a0_5] 29 ?_; intro gb hg w3 hbox hb; have BX := hbox; replace HB := nbs HB hb; clear hb hbox hg; obtain ⟨hx_0, hx_1, hx_2, hx_3, hx_4, hx_5⟩ := c6e BX))
  go_ret
  exact ⟨rfl, HB.out⟩

end Go.Proofs.Ytpcladboobfkhaa.PFnWork
