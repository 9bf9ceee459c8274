-- Written by a program of this session (wip/patch.py turns a copy of the kit's print): the functions that the law reaches, and their walks.
import Derived.Test.YteamcnoabglobaaDoorShelf
import Derived.Lib.SmallJoins
import Derived.Lib.LaidTab
import Derived.Lib.ItoaNum
import Derived.Test.YteamcnoabglobaaDoorPFnExactCodeTextx0
import Derived.Test.YteamcnoabglobaaDoorPFnExactCodeTextx3
import Derived.Test.YteamcnoabglobaaDoorCFnExactCodeText
namespace Go.Proofs.YteamcnoabglobaaDoor.PFnExactCodeText
open Go.RowKit Go.Proofs.YteamcnoabglobaaDoorW.PrintWords Go.Proofs.YteamcnoabglobaaDoorW.PrintLast Go.Proofs.YteamcnoabglobaaDoorW.PrintMore Go.Proofs.YteamcnoabglobaaDoorW.Mine
attribute [local go_sem] max2_int min2_int max_two min_two max_three min_three max_four min_four   -- for this text's walks alone
set_option linter.unusedVariables false
set_option linter.unusedSimpArgs false

/-! ### impl_InsOk: function 17 -/
def impl_InsOk.l0 : Nat → Bool → Int → Int → Int → Int → Int → Int → Option (Bool)
  | 0, _, _, _, _, _, _, _ => none
  | k + 1, x4, i, op, r, a, b, n => if i < 4 then (if 0 ≤ i then ((impl_partOf.f op r a b n (rd [82, 65, 66, 78] i)).bind fun t => ((impl_hasPart.f k op r a b n (rd [82, 65, 66, 78] i)).bind fun h => (if h = true then (if (rd [82, 65, 66, 78] i) = 78 then (if x4 = true then ((impl_in.f t (-128) 127).bind fun q => (impl_InsOk.l0 k q (wrap64 (i + 1)) op r a b n)) else (impl_InsOk.l0 k false (wrap64 (i + 1)) op r a b n)) else (if x4 = true then ((impl_in.f t 0 7).bind fun q => (impl_InsOk.l0 k q (wrap64 (i + 1)) op r a b n)) else (impl_InsOk.l0 k false (wrap64 (i + 1)) op r a b n))) else (if x4 = true then (impl_InsOk.l0 k (t == 0) (wrap64 (i + 1)) op r a b n) else (impl_InsOk.l0 k false (wrap64 (i + 1)) op r a b n))))) else none) else (some x4)
def impl_InsOk.f (k : Nat) (a0_0 : Int) (a0_1 : Int) (a0_2 : Int) (a0_3 : Int) (a0_4 : Int) : Option (Bool) := (impl_formOf.f k a0_0).bind fun bt => (impl_InsOk.l0 k bt.2 0 a0_0 a0_1 a0_2 a0_3 a0_4)
theorem impl_InsOk.mono_l : ∀ k, (∀ y0 y1 y2 y3 y4 y5 y6, LeO (impl_InsOk.l0 k y0 y1 y2 y3 y4 y5 y6) (impl_InsOk.l0 (k + 1) y0 y1 y2 y3 y4 y5 y6))
  | 0 => fun _ _ _ _ _ _ _ r h => by simp [impl_InsOk.l0] at h
  | k + 1 => by
    have ih0 := impl_InsOk.mono_l k
    · intro y0 y1 y2 y3 y4 y5 y6
      unfold impl_InsOk.l0
      repeat' first
      | (with_reducible exact ih0 _ _ _ _ _ _ _)
      | (with_reducible exact impl_hasPart.mono _ _ _ _ _ _ _)
      | (with_reducible exact impl_formOf.mono _ _)
      | (with_reducible exact LeO.refl _)
      | (with_reducible exact LeO.none _)
      | (with_reducible refine LeO.ite ?_ ?_)
      | (with_reducible refine LeO.bind ?_ (fun _ => ?_))
      | exact ih0 _ _ _ _ _ _ _
      | exact impl_hasPart.mono _ _ _ _ _ _ _
      | exact impl_formOf.mono _ _
      | exact LeO.none _
      | refine LeO.ite ?_ ?_
      | refine LeO.bind ?_ (fun _ => ?_)
theorem impl_InsOk.mono : ∀ a0 a1 a2 a3 a4 k, LeO (impl_InsOk.f k a0 a1 a2 a3 a4) (impl_InsOk.f (k + 1) a0 a1 a2 a3 a4) := by
  intro a0 a1 a2 a3 a4 k; have ih0 := impl_InsOk.mono_l k
  unfold impl_InsOk.f
  repeat' first
      | (with_reducible exact ih0 _ _ _ _ _ _ _)
      | (with_reducible exact impl_hasPart.mono _ _ _ _ _ _ _)
      | (with_reducible exact impl_formOf.mono _ _)
      | (with_reducible exact LeO.refl _)
      | (with_reducible exact LeO.none _)
      | (with_reducible refine LeO.ite ?_ ?_)
      | (with_reducible refine LeO.bind ?_ (fun _ => ?_))
      | exact ih0 _ _ _ _ _ _ _
      | exact impl_hasPart.mono _ _ _ _ _ _ _
      | exact impl_formOf.mono _ _
      | exact LeO.none _
      | refine LeO.ite ?_ ?_
      | refine LeO.bind ?_ (fun _ => ?_)
theorem impl_InsOk.mk_cell {W : World} {g : Nat} {cs : Array Value} {t : TypeId} {fr : Nat × Nat} {v : Value} (h : W.heap[g]? = some (.cells cs t fr)) (j : Nat) (hj : cs[j]? = some v) : W.cell? ⟨g, j, none⟩ = some v := by
  simp [World.cell?, h, hj]
theorem impl_InsOk.byte {W : World} {g : Nat} (h : W.heap[g]? = some (.cells #[.int .u8 82, .int .u8 65, .int .u8 66, .int .u8 78] 5 (4, 5))) (i : Int) (h0 : 0 ≤ i) (h1 : i < 4) : W.cell? ⟨g, i.toNat, none⟩ = some (.int .u8 (rd [82, 65, 66, 78] i)) := by
  rcases (show i = 0 ∨ i = 1 ∨ i = 2 ∨ i = 3 by omega) with rfl | rfl | rfl | rfl <;> exact impl_InsOk.mk_cell h _ rfl
set_option maxHeartbeats 8000000 in
set_option maxRecDepth 100000 in
theorem impl_InsOk.calls (k : Nat) (a0_0 : Int) (a0_1 : Int) (a0_2 : Int) (a0_3 : Int) (a0_4 : Int) (r : Bool) (w : World) (h : impl_InsOk.f k a0_0 a0_1 a0_2 a0_3 a0_4 = some r) :
  Calls Tryd.prog 17 #[.agg #[.int .i64 a0_0, .int .i64 a0_1, .int .i64 a0_2, .int .i64 a0_3, .int .i64 a0_4]] w fun e w' => e = .returned (.bool r) ∧ Below w.heap.size w w' := by
 obtain ⟨⟨s, b⟩, A80, H⟩ := Option.bind_eq_some_iff.mp h; have A8 := Aside0.mk A80; have H' : Aside0 (impl_InsOk.l0 k b 0 a0_0 a0_1 a0_2 a0_3 a0_4 = some r) := ⟨H⟩; clear A80 h H; have HB := Aside0.mk (Below.refl w.heap.size w); have kc : ∀ W : World, (convert 42 42 (.slice (some ⟨W.heap.size, 0, none⟩) 4 4)).run Tryd.prog (W.alloc (.cells #[.int .u8 82, .int .u8 65, .int .u8 66, .int .u8 78] 5)) = .ok (.slice (some ⟨W.heap.size, 0, none⟩) 4 4) (W.alloc (.cells #[.int .u8 82, .int .u8 65, .int .u8 66, .int .u8 78] 5 (4, 5))) := fun W => Lib.run_convert_bytes_const (P := Tryd.prog) W 42 5 _ 4 4 Tryd.underlying42 Tryd.underlying5
 go_enter Tryd.func17, Tryd.ntmps17
 go_wp2_with (first | ((with_reducible refine gate_dst (N := 1) rfl ?_); refine bxe 1 #[.int .i64 a0_0, .int .i64 a0_1, .int .i64 a0_2, .int .i64 a0_3, .int .i64 a0_4] 25 ?_; intro gb hg w3 hbox hb; have BK := hbox; replace HB := nbs HB hb; clear hb hbox hg; obtain ⟨hcz_0, hcz_1, hcz_2, hcz_3, hcz_4⟩ := c5e BK) | ((with_reducible refine gate_callee (f := 19) rfl ?_); refine goesM (some 11) rfl rfl Tryd.func19 (by kernel_rfl) rfl #[.int .i64 a0_0] rfl ?_; (with_reducible refine (impl_formOf.calls k a0_0 s b _ A8.out).mono ?_); rintro e w4 ⟨rfl, hd⟩; have hb := hd.below; refine ⟨_, rfl, ?_⟩; replace BK := nblk BK hb; replace HB := nbs HB hb; clear hb hd hcz_0 hcz_1 hcz_2 hcz_3 hcz_4))
 have BY : Aside0 ((w4.alloc (.cells #[.int .u8 82, .int .u8 65, .int .u8 66, .int .u8 78] 5 (4, 5))).heap[w4.heap.size]? = some (.cells #[.int .u8 82, .int .u8 65, .int .u8 66, .int .u8 78] 5 (4, 5))) := ⟨by show (w4.heap.push _)[w4.heap.size]? = _; simp⟩; clear kc
 go_loopg [4, 17] k (fun kq v4 bS w' => ∃ (x4 : Bool) (bf : Int), v4 = .bool x4 ∧ bS = .int .i64 bf ∧ Aside0 (impl_InsOk.l0 kq x4 bf a0_0 a0_1 a0_2 a0_3 a0_4 = some r) ∧ Aside0 (kq ≤ k) ∧ Aside0 (w'.heap[w4.heap.size]? = some (.cells #[.int .u8 82, .int .u8 65, .int .u8 66, .int .u8 78] 5 (4, 5))) ∧ Aside0 (w'.heap[gb]? = some (.cells #[.int .i64 a0_0, .int .i64 a0_1, .int .i64 a0_2, .int .i64 a0_3, .int .i64 a0_4] 25 (0, 0))) ∧ Aside0 (Below w.heap.size w w'))
 case atStart => exact ⟨b, 0, rfl, rfl, H', ⟨Nat.le_refl _⟩, BY, ⟨blk_alloc BK.out _⟩, ⟨below_alloc HB.out _⟩⟩
 case round =>
  clear H' BY BK HB; obtain ⟨x4, bf, rfl, rfl, HA, HK, BY, BK, HB⟩ := hrel
  cases gk with
  | zero => exact absurd HA.out (by simp [impl_InsOk.l0])
  | succ k1 =>
   have H := HA.out; clear HA; simp only [impl_InsOk.l0] at H
   by_cases c8 : bf < 4
   · rw [if_pos c8] at H
     by_cases c9 : 0 ≤ bf
     · rw [if_pos c9] at H
       replace H := Option.bind_eq_some_iff.mp H; obtain ⟨t, A110, H⟩ := H; have A11 := Aside0.mk A110; replace H := Option.bind_eq_some_iff.mp H; obtain ⟨hh, A120, H⟩ := H; have A12 := Aside0.mk A120; clear A110 A120; have hby := impl_InsOk.byte BY.out bf c9 c8; obtain ⟨hcz_0, hcz_1, hcz_2, hcz_3, hcz_4⟩ := c5e BK; have c8b : decide (bf < (4 : Int)) = true := decide_eq_true c8; have c9b : decide (0 ≤ bf) = true := decide_eq_true c9; replace c8 := eq_true c8; replace c9 := eq_true c9; obtain ⟨q, hq⟩ : ∃ q, q = rd [82, 65, 66, 78] bf := ⟨_, rfl⟩; rw [← hq] at hby A11 A12 H; clear hq
       cases hh with
       | true =>
         by_cases c14 : q = 78
         · have c14b : (q == 78) = true := beq_iff_eq.mpr c14
           rw [if_pos rfl, if_pos c14] at H; clear c14
           cases x4 with
           | true =>
             rw [if_pos rfl] at H; replace H := Option.bind_eq_some_iff.mp H; obtain ⟨t2, A160, H⟩ := H; have A16 := Aside0.mk A160; have H' := Aside0.mk H; clear A160 H
             go_wp2_with (first | (go_at_call 21; (with_reducible refine (impl_partOf.calls a0_0 a0_1 a0_2 a0_3 a0_4 q t _ A11.out).mono ?_); rintro e wA ⟨rfl, hb⟩; replace BY := nblk BY hb; replace BK := nblk BK hb; replace HB := nbs HB hb; clear hb hcz_0 hcz_1 hcz_2 hcz_3 hcz_4; obtain ⟨hcz_0, hcz_1, hcz_2, hcz_3, hcz_4⟩ := c5e BK) | (go_at_call 27; (with_reducible refine (impl_hasPart.calls k1 a0_0 a0_1 a0_2 a0_3 a0_4 q true _ A12.out).mono ?_); rintro e wB ⟨rfl, hb⟩; replace BY := nblk BY hb; replace BK := nblk BK hb; replace HB := nbs HB hb; clear hb) | (go_at_call 28; (with_reducible refine (impl_in.calls t (-128) 127 t2 _ A16.out).mono ?_); rintro e wC ⟨rfl, ⟨nd, rfl⟩⟩))
             go_roundg k1
             case measure => have := HK.out; omega
             case rel => exact ⟨_, _, rfl, rfl, H', ⟨by have := HK.out; omega⟩, ⟨nb BY⟩, ⟨nb BK⟩, ⟨nbe HB⟩⟩
           | false =>
             rw [if_neg (by simp)] at H; have H' := Aside0.mk H; clear H
             go_wp2_with (first | (go_at_call 21; (with_reducible refine (impl_partOf.calls a0_0 a0_1 a0_2 a0_3 a0_4 q t _ A11.out).mono ?_); rintro e wA ⟨rfl, hb⟩; replace BY := nblk BY hb; replace BK := nblk BK hb; replace HB := nbs HB hb; clear hb hcz_0 hcz_1 hcz_2 hcz_3 hcz_4; obtain ⟨hcz_0, hcz_1, hcz_2, hcz_3, hcz_4⟩ := c5e BK) | (go_at_call 27; (with_reducible refine (impl_hasPart.calls k1 a0_0 a0_1 a0_2 a0_3 a0_4 q true _ A12.out).mono ?_); rintro e wB ⟨rfl, hb⟩; replace BY := nblk BY hb; replace BK := nblk BK hb; replace HB := nbs HB hb; clear hb))
             go_roundg k1
             case measure => have := HK.out; omega
             case rel => exact ⟨_, _, rfl, rfl, H', ⟨by have := HK.out; omega⟩, ⟨nb BY⟩, ⟨nb BK⟩, ⟨nbe HB⟩⟩
         · have c14b : (q == 78) = false := beq_eq_false_iff_ne.mpr c14
           rw [if_pos rfl, if_neg c14] at H; clear c14
           cases x4 with
           | true =>
             rw [if_pos rfl] at H; replace H := Option.bind_eq_some_iff.mp H; obtain ⟨t2, A160, H⟩ := H; have A16 := Aside0.mk A160; have H' := Aside0.mk H; clear A160 H
             go_wp2_with (first | (go_at_call 21; (with_reducible refine (impl_partOf.calls a0_0 a0_1 a0_2 a0_3 a0_4 q t _ A11.out).mono ?_); rintro e wA ⟨rfl, hb⟩; replace BY := nblk BY hb; replace BK := nblk BK hb; replace HB := nbs HB hb; clear hb hcz_0 hcz_1 hcz_2 hcz_3 hcz_4; obtain ⟨hcz_0, hcz_1, hcz_2, hcz_3, hcz_4⟩ := c5e BK) | (go_at_call 27; (with_reducible refine (impl_hasPart.calls k1 a0_0 a0_1 a0_2 a0_3 a0_4 q true _ A12.out).mono ?_); rintro e wB ⟨rfl, hb⟩; replace BY := nblk BY hb; replace BK := nblk BK hb; replace HB := nbs HB hb; clear hb) | (go_at_call 28; (with_reducible refine (impl_in.calls t 0 7 t2 _ A16.out).mono ?_); rintro e wC ⟨rfl, ⟨nd, rfl⟩⟩))
             go_roundg k1
             case measure => have := HK.out; omega
             case rel => exact ⟨_, _, rfl, rfl, H', ⟨by have := HK.out; omega⟩, ⟨nb BY⟩, ⟨nb BK⟩, ⟨nbe HB⟩⟩
           | false =>
             rw [if_neg (by simp)] at H; have H' := Aside0.mk H; clear H
             go_wp2_with (first | (go_at_call 21; (with_reducible refine (impl_partOf.calls a0_0 a0_1 a0_2 a0_3 a0_4 q t _ A11.out).mono ?_); rintro e wA ⟨rfl, hb⟩; replace BY := nblk BY hb; replace BK := nblk BK hb; replace HB := nbs HB hb; clear hb hcz_0 hcz_1 hcz_2 hcz_3 hcz_4; obtain ⟨hcz_0, hcz_1, hcz_2, hcz_3, hcz_4⟩ := c5e BK) | (go_at_call 27; (with_reducible refine (impl_hasPart.calls k1 a0_0 a0_1 a0_2 a0_3 a0_4 q true _ A12.out).mono ?_); rintro e wB ⟨rfl, hb⟩; replace BY := nblk BY hb; replace BK := nblk BK hb; replace HB := nbs HB hb; clear hb))
             go_roundg k1
             case measure => have := HK.out; omega
             case rel => exact ⟨_, _, rfl, rfl, H', ⟨by have := HK.out; omega⟩, ⟨nb BY⟩, ⟨nb BK⟩, ⟨nbe HB⟩⟩
       | false =>
         rw [if_neg (by simp)] at H
         cases x4 with
         | true =>
           rw [if_pos rfl] at H; have H' := Aside0.mk H; clear H
           go_wp2_with (first | (go_at_call 21; (with_reducible refine (impl_partOf.calls a0_0 a0_1 a0_2 a0_3 a0_4 q t _ A11.out).mono ?_); rintro e wA ⟨rfl, hb⟩; replace BY := nblk BY hb; replace BK := nblk BK hb; replace HB := nbs HB hb; clear hb hcz_0 hcz_1 hcz_2 hcz_3 hcz_4; obtain ⟨hcz_0, hcz_1, hcz_2, hcz_3, hcz_4⟩ := c5e BK) | (go_at_call 27; (with_reducible refine (impl_hasPart.calls k1 a0_0 a0_1 a0_2 a0_3 a0_4 q false _ A12.out).mono ?_); rintro e wB ⟨rfl, hb⟩; replace BY := nblk BY hb; replace BK := nblk BK hb; replace HB := nbs HB hb; clear hb))
           go_roundg k1
           case measure => have := HK.out; omega
           case rel => exact ⟨_, _, rfl, rfl, H', ⟨by have := HK.out; omega⟩, ⟨nb BY⟩, ⟨nb BK⟩, ⟨nbe HB⟩⟩
         | false =>
           rw [if_neg (by simp)] at H; have H' := Aside0.mk H; clear H
           go_wp2_with (first | (go_at_call 21; (with_reducible refine (impl_partOf.calls a0_0 a0_1 a0_2 a0_3 a0_4 q t _ A11.out).mono ?_); rintro e wA ⟨rfl, hb⟩; replace BY := nblk BY hb; replace BK := nblk BK hb; replace HB := nbs HB hb; clear hb hcz_0 hcz_1 hcz_2 hcz_3 hcz_4; obtain ⟨hcz_0, hcz_1, hcz_2, hcz_3, hcz_4⟩ := c5e BK) | (go_at_call 27; (with_reducible refine (impl_hasPart.calls k1 a0_0 a0_1 a0_2 a0_3 a0_4 q false _ A12.out).mono ?_); rintro e wB ⟨rfl, hb⟩; replace BY := nblk BY hb; replace BK := nblk BK hb; replace HB := nbs HB hb; clear hb))
           go_roundg k1
           case measure => have := HK.out; omega
           case rel => exact ⟨_, _, rfl, rfl, H', ⟨by have := HK.out; omega⟩, ⟨nb BY⟩, ⟨nb BK⟩, ⟨nbe HB⟩⟩
     · rw [if_neg c9] at H
       exact absurd H (by simp)
   · rw [if_neg c8] at H
     obtain rfl : x4 = r := by simpa using H
     clear H; have c8b : decide (bf < (4 : Int)) = false := decide_eq_false c8; go_wp2
     go_ret
     exact ⟨rfl, HB.out⟩

/-! ### impl_opNames: function 18 -/
def impl_opNames.f  : Option (List ByteArray) := some (([(⟨#[]⟩ : ByteArray), (⟨#[115, 101, 116]⟩ : ByteArray), (⟨#[97, 100, 100]⟩ : ByteArray), (⟨#[109, 111, 118, 101]⟩ : ByteArray), (⟨#[119, 101, 97, 107]⟩ : ByteArray), (⟨#[98, 111, 117, 110, 100]⟩ : ByteArray), (⟨#[112, 111, 105, 110, 116]⟩ : ByteArray), (⟨#[115, 101, 97, 108]⟩ : ByteArray), (⟨#[111, 112, 101, 110]⟩ : ByteArray), (⟨#[105, 115]⟩ : ByteArray), (⟨#[108, 111, 97, 100]⟩ : ByteArray), (⟨#[115, 116, 111, 114, 101]⟩ : ByteArray), (⟨#[106, 117, 109, 112]⟩ : ByteArray), (⟨#[122, 101, 114, 111]⟩ : ByteArray), (⟨#[103, 111, 110, 101]⟩ : ByteArray), (⟨#[104, 97, 108, 116]⟩ : ByteArray)] : List ByteArray))
set_option maxHeartbeats 8000000 in
set_option maxRecDepth 100000 in
theorem impl_opNames.calls  (r : List ByteArray) (w : World) (h : impl_opNames.f  = some r) :
    Calls Tryd.prog 18 #[] w fun e w' => ∃ v0_ : Value, e = .returned (v0_) ∧ Kd.R Kd.string 9 w' w.heap.size (fun _ => True) v0_ r ∧ Below w.heap.size w w' := by
  have HB := Aside0.mk (Below.refl w.heap.size w); have H : (some (([(⟨#[]⟩ : ByteArray), (⟨#[115, 101, 116]⟩ : ByteArray), (⟨#[97, 100, 100]⟩ : ByteArray), (⟨#[109, 111, 118, 101]⟩ : ByteArray), (⟨#[119, 101, 97, 107]⟩ : ByteArray), (⟨#[98, 111, 117, 110, 100]⟩ : ByteArray), (⟨#[112, 111, 105, 110, 116]⟩ : ByteArray), (⟨#[115, 101, 97, 108]⟩ : ByteArray), (⟨#[111, 112, 101, 110]⟩ : ByteArray), (⟨#[105, 115]⟩ : ByteArray), (⟨#[108, 111, 97, 100]⟩ : ByteArray), (⟨#[115, 116, 111, 114, 101]⟩ : ByteArray), (⟨#[106, 117, 109, 112]⟩ : ByteArray), (⟨#[122, 101, 114, 111]⟩ : ByteArray), (⟨#[103, 111, 110, 101]⟩ : ByteArray), (⟨#[104, 97, 108, 116]⟩ : ByteArray)] : List ByteArray))) = some r := h; clear h; obtain ⟨bV, bq⟩ : ∃ y_ : List ByteArray, y_ = (([(⟨#[]⟩ : ByteArray), (⟨#[115, 101, 116]⟩ : ByteArray), (⟨#[97, 100, 100]⟩ : ByteArray), (⟨#[109, 111, 118, 101]⟩ : ByteArray), (⟨#[119, 101, 97, 107]⟩ : ByteArray), (⟨#[98, 111, 117, 110, 100]⟩ : ByteArray), (⟨#[112, 111, 105, 110, 116]⟩ : ByteArray), (⟨#[115, 101, 97, 108]⟩ : ByteArray), (⟨#[111, 112, 101, 110]⟩ : ByteArray), (⟨#[105, 115]⟩ : ByteArray), (⟨#[108, 111, 97, 100]⟩ : ByteArray), (⟨#[115, 116, 111, 114, 101]⟩ : ByteArray), (⟨#[106, 117, 109, 112]⟩ : ByteArray), (⟨#[122, 101, 114, 111]⟩ : ByteArray), (⟨#[103, 111, 110, 101]⟩ : ByteArray), (⟨#[104, 97, 108, 116]⟩ : ByteArray)] : List ByteArray)) := ⟨_, rfl⟩; replace H : (some bV) = some r := by first | (rw [bq]; with_reducible exact H) | (have H2_ := (Option.bind_some _ _).symm.trans H; rw [bq]; with_reducible exact H2_) | (have H2_ := (Option.bind_some _ _).symm.trans H; with_reducible exact H2_) | with_reducible exact H | (rw [bq]; exact H) | exact H
  have bO := Aside0.mk bq; clear bq; obtain rfl := Option.some.inj H
  go_enter Tryd.func18, Tryd.ntmps18
  go_wp2_with (first | ((with_reducible refine gate_dst (N := 1) rfl ?_); refine Kd.R_lit Kd.string _ 9 ?hg (N := 1) ?hd (xs := ([(⟨#[]⟩ : ByteArray), (⟨#[115, 101, 116]⟩ : ByteArray), (⟨#[97, 100, 100]⟩ : ByteArray), (⟨#[109, 111, 118, 101]⟩ : ByteArray), (⟨#[119, 101, 97, 107]⟩ : ByteArray), (⟨#[98, 111, 117, 110, 100]⟩ : ByteArray), (⟨#[112, 111, 105, 110, 116]⟩ : ByteArray), (⟨#[115, 101, 97, 108]⟩ : ByteArray), (⟨#[111, 112, 101, 110]⟩ : ByteArray), (⟨#[105, 115]⟩ : ByteArray), (⟨#[108, 111, 97, 100]⟩ : ByteArray), (⟨#[115, 116, 111, 114, 101]⟩ : ByteArray), (⟨#[106, 117, 109, 112]⟩ : ByteArray), (⟨#[122, 101, 114, 111]⟩ : ByteArray), (⟨#[103, 111, 110, 101]⟩ : ByteArray), (⟨#[104, 97, 108, 116]⟩ : ByteArray)] : List ByteArray)) (inner := [.string (⟨#[]⟩ : ByteArray), .string (⟨#[115, 101, 116]⟩ : ByteArray), .string (⟨#[97, 100, 100]⟩ : ByteArray), .string (⟨#[109, 111, 118, 101]⟩ : ByteArray), .string (⟨#[119, 101, 97, 107]⟩ : ByteArray), .string (⟨#[98, 111, 117, 110, 100]⟩ : ByteArray), .string (⟨#[112, 111, 105, 110, 116]⟩ : ByteArray), .string (⟨#[115, 101, 97, 108]⟩ : ByteArray), .string (⟨#[111, 112, 101, 110]⟩ : ByteArray), .string (⟨#[105, 115]⟩ : ByteArray), .string (⟨#[108, 111, 97, 100]⟩ : ByteArray), .string (⟨#[115, 116, 111, 114, 101]⟩ : ByteArray), .string (⟨#[106, 117, 109, 112]⟩ : ByteArray), .string (⟨#[122, 101, 114, 111]⟩ : ByteArray), .string (⟨#[103, 111, 110, 101]⟩ : ByteArray), .string (⟨#[104, 97, 108, 116]⟩ : ByteArray)]) (ok := fun _ => True) (okp := fun _ => True) ?hr ?hp (fun _ hk => hk) trivial (Below.refl _ _) (Nat.le_refl _) (by simp) ?_; (case hd => rfl); (case hg => rfl); (case hr => first | (go_simp; done) | (go_simp; rfl)); (case hp => exact (Reps.one (show Kd.M Kd.string _ _ _ (⟨#[]⟩ : ByteArray) [.string (⟨#[]⟩ : ByteArray)] from rfl) (Reps.one (show Kd.M Kd.string _ _ _ (⟨#[115, 101, 116]⟩ : ByteArray) [.string (⟨#[115, 101, 116]⟩ : ByteArray)] from rfl) (Reps.one (show Kd.M Kd.string _ _ _ (⟨#[97, 100, 100]⟩ : ByteArray) [.string (⟨#[97, 100, 100]⟩ : ByteArray)] from rfl) (Reps.one (show Kd.M Kd.string _ _ _ (⟨#[109, 111, 118, 101]⟩ : ByteArray) [.string (⟨#[109, 111, 118, 101]⟩ : ByteArray)] from rfl) (Reps.one (show Kd.M Kd.string _ _ _ (⟨#[119, 101, 97, 107]⟩ : ByteArray) [.string (⟨#[119, 101, 97, 107]⟩ : ByteArray)] from rfl) (Reps.one (show Kd.M Kd.string _ _ _ (⟨#[98, 111, 117, 110, 100]⟩ : ByteArray) [.string (⟨#[98, 111, 117, 110, 100]⟩ : ByteArray)] from rfl) (Reps.one (show Kd.M Kd.string _ _ _ (⟨#[112, 111, 105, 110, 116]⟩ : ByteArray) [.string (⟨#[112, 111, 105, 110, 116]⟩ : ByteArray)] from rfl) (Reps.one (show Kd.M Kd.string _ _ _ (⟨#[115, 101, 97, 108]⟩ : ByteArray) [.string (⟨#[115, 101, 97, 108]⟩ : ByteArray)] from rfl) (Reps.one (show Kd.M Kd.string _ _ _ (⟨#[111, 112, 101, 110]⟩ : ByteArray) [.string (⟨#[111, 112, 101, 110]⟩ : ByteArray)] from rfl) (Reps.one (show Kd.M Kd.string _ _ _ (⟨#[105, 115]⟩ : ByteArray) [.string (⟨#[105, 115]⟩ : ByteArray)] from rfl) (Reps.one (show Kd.M Kd.string _ _ _ (⟨#[108, 111, 97, 100]⟩ : ByteArray) [.string (⟨#[108, 111, 97, 100]⟩ : ByteArray)] from rfl) (Reps.one (show Kd.M Kd.string _ _ _ (⟨#[115, 116, 111, 114, 101]⟩ : ByteArray) [.string (⟨#[115, 116, 111, 114, 101]⟩ : ByteArray)] from rfl) (Reps.one (show Kd.M Kd.string _ _ _ (⟨#[106, 117, 109, 112]⟩ : ByteArray) [.string (⟨#[106, 117, 109, 112]⟩ : ByteArray)] from rfl) (Reps.one (show Kd.M Kd.string _ _ _ (⟨#[122, 101, 114, 111]⟩ : ByteArray) [.string (⟨#[122, 101, 114, 111]⟩ : ByteArray)] from rfl) (Reps.one (show Kd.M Kd.string _ _ _ (⟨#[103, 111, 110, 101]⟩ : ByteArray) [.string (⟨#[103, 111, 110, 101]⟩ : ByteArray)] from rfl) (Reps.one (show Kd.M Kd.string _ _ _ (⟨#[104, 97, 108, 116]⟩ : ByteArray) [.string (⟨#[104, 97, 108, 116]⟩ : ByteArray)] from rfl) (Reps.none _ _)))))))))))))))))); intro b1 w1 br hb hg_ hnew_; clear hg_ hnew_; (first | rw [← bO.out] at br | (simp only [Int.reduceToNat] at br; rw [← bO.out] at br)); have bW := Aside0.mk (Kd.R_lower br (bsz HB)); replace HB := nbs HB hb; clear hb br))
  go_ret
  exact ⟨_, er_, by (with_reducible repeat (first | apply Kd.R_alloc | apply Kd.R_drewN | apply Kd.R_drew)); exact bW.out, nbe HB⟩

-- NOT PRINTED: function 36 (strconv_small)

-- NOT PRINTED: function 40 (strconv_log10Pow2)

-- NOT PRINTED: function 41 (bits_Len64)

-- NOT PRINTED: function 42 (strconv_bool2_int)

-- NOT PRINTED: function 37 (strconv_numDigits)

-- NOT PRINTED: function 38 (strconv_formatBase10)

-- NOT PRINTED: function 43 (strconv_isPowerOfTwo)

-- NOT PRINTED: function 45 (bits_TrailingZeros32)

-- NOT PRINTED: function 46 (bits_TrailingZeros64)

-- NOT PRINTED: function 44 (bits_TrailingZeros)

-- NOT PRINTED: function 39 (strconv_formatBits)

-- NOT PRINTED: function 33 (strconv_FormatInt)

-- NOT PRINTED: function 29 (strconv_Itoa_29)

/-! ### strconv_Itoa: function 20, by the shelf's contract -/
def TabW (w : World) : Prop := Lib.TabIs Tryd.prog w "internal/strconv.uint64pow10" .u64 Lib.pow10Tab
theorem nT {w W' W : World} (H : Aside0 (TabW w)) (HB : Aside0 (Below w.heap.size w W')) (h : Below w.heap.size w W := by repeat (first | (with_reducible first | exact Aside0.out (by assumption) | apply below_alloc | apply pw_below_drewN | apply below_drew1 | refine below_set ?_ (Aside0.out (by assumption))) | exact Aside0.out (by assumption))) : TabW W := by
  have h1 : Tryd.prog.globalNamed "internal/strconv.uint64pow10" = some 0 := by kernel_rfl
  exact Go.Joins.tab_stays h1 H.out h (Nat.le_refl _)
theorem strconv_Itoa.grown (w : World) (k : Nat) (os : Array Obj) : Below w.heap.size w (Go.Sort.grow (w.drewN k) os) := ⟨rfl, rfl, rfl, by first | (simp [Go.Sort.grow]; done) | (simp [Go.Sort.grow]; omega), fun i hi => by
  show ((w.drewN k).heap ++ os)[i]? = _; rw [Array.getElem?_append_left (by show i < w.heap.size; omega)]
  rfl⟩
def strconv_Itoa.f (n : Int) : Option ByteArray := if -9223372036854775808 ≤ n then (if n ≤ 9223372036854775807 then some ⟨(Lib.itoa n).toArray⟩ else none) else none
theorem strconv_Itoa.calls (n : Int) (r : ByteArray) (w : World) (h : strconv_Itoa.f n = some r) (hT_ : TabW w) :
  Calls Tryd.prog 20 #[.int .i64 n] w fun e w' => e = .returned (.string r) ∧ Below w.heap.size w w' := by
 unfold strconv_Itoa.f at h
 by_cases h0 : -9223372036854775808 ≤ n
 · rw [if_pos h0] at h
   by_cases h1 : n ≤ 9223372036854775807
   · rw [if_pos h1] at h
     obtain rfl := Option.some.inj h; refine (Tryd.strconv_Itoa n h0 h1 w hT_).mono ?_; rintro e w' ⟨rfl, k, os, rfl⟩; exact ⟨rfl, strconv_Itoa.grown w k os⟩
   · rw [if_neg h1] at h
     exact absurd h (by simp)
 · rw [if_neg h0] at h
   exact absurd h (by simp)

/-! ### impl_InsText: function 7 -/
def impl_InsText.l0 : Nat → ByteArray → ByteArray → Int → Int → Int → Int → Int → Int → Option (ByteArray)
  | 0, _, _, _, _, _, _, _, _ => none
  | k + 1, fm, x, i, op, r, a, b, n => if i < (fm.size : Int) then (if 0 ≤ i then ((impl_partOf.f op r a b n (rd (bytesOf fm) i)).bind fun t => ((strconv_Itoa.f t).bind fun s => (if (rd (bytesOf fm) i) = 78 then (if x.size + 1 ≤ 9223372036854775807 then (if (x ++ (⟨#[32]⟩ : ByteArray)).size + s.size ≤ 9223372036854775807 then (impl_InsText.l0 k fm ((x ++ (⟨#[32]⟩ : ByteArray)) ++ s) (wrap64 (i + 1)) op r a b n) else none) else none) else (if x.size + 1 ≤ 9223372036854775807 then (if (x ++ (⟨#[32]⟩ : ByteArray)).size + 1 ≤ 9223372036854775807 then (if ((x ++ (⟨#[32]⟩ : ByteArray)) ++ (⟨#[114]⟩ : ByteArray)).size + s.size ≤ 9223372036854775807 then (impl_InsText.l0 k fm (((x ++ (⟨#[32]⟩ : ByteArray)) ++ (⟨#[114]⟩ : ByteArray)) ++ s) (wrap64 (i + 1)) op r a b n) else none) else none) else none)))) else none) else some x
def impl_InsText.f (k : Nat) (a0_0 : Int) (a0_1 : Int) (a0_2 : Int) (a0_3 : Int) (a0_4 : Int) : Option (ByteArray) := (impl_InsOk.f k a0_0 a0_1 a0_2 a0_3 a0_4).bind fun bo => (if bo = true then ((impl_opNames.f).bind fun bc => (if 0 ≤ a0_0 then (if a0_0 < (bc.length : Int) then ((impl_formOf.f k a0_0).bind fun bt => (if bt.1.size ≤ 9223372036854775807 then (impl_InsText.l0 k bt.1 (rdOf ByteArray.empty bc a0_0) 0 a0_0 a0_1 a0_2 a0_3 a0_4) else none)) else none) else none)) else (some (⟨#[]⟩ : ByteArray)))
theorem impl_InsText.mono_l : ∀ k, (∀ y0 y1 y2 y3 y4 y5 y6 y7, LeO (impl_InsText.l0 k y0 y1 y2 y3 y4 y5 y6 y7) (impl_InsText.l0 (k + 1) y0 y1 y2 y3 y4 y5 y6 y7))
  | 0 => fun _ _ _ _ _ _ _ _ r h => by simp [impl_InsText.l0] at h
  | k + 1 => by
    have ih0 := impl_InsText.mono_l k
    · intro y0 y1 y2 y3 y4 y5 y6 y7
      unfold impl_InsText.l0
      repeat' first
      | (with_reducible exact ih0 _ _ _ _ _ _ _ _)
      | (with_reducible exact impl_InsOk.mono _ _ _ _ _ _)
      | (with_reducible exact impl_formOf.mono _ _)
      | (with_reducible exact LeO.refl _)
      | (with_reducible exact LeO.none _)
      | (with_reducible refine LeO.ite ?_ ?_)
      | (with_reducible refine LeO.bind ?_ (fun _ => ?_))
      | exact ih0 _ _ _ _ _ _ _ _
      | exact impl_InsOk.mono _ _ _ _ _ _
      | exact impl_formOf.mono _ _
      | exact LeO.none _
      | refine LeO.ite ?_ ?_
      | refine LeO.bind ?_ (fun _ => ?_)
theorem impl_InsText.mono : ∀ a0 a1 a2 a3 a4 k, LeO (impl_InsText.f k a0 a1 a2 a3 a4) (impl_InsText.f (k + 1) a0 a1 a2 a3 a4) := by
  intro a0 a1 a2 a3 a4 k; have ih0 := impl_InsText.mono_l k
  unfold impl_InsText.f
  repeat' first
      | (with_reducible exact ih0 _ _ _ _ _ _ _ _)
      | (with_reducible exact impl_InsOk.mono _ _ _ _ _ _)
      | (with_reducible exact impl_formOf.mono _ _)
      | (with_reducible exact LeO.refl _)
      | (with_reducible exact LeO.none _)
      | (with_reducible refine LeO.ite ?_ ?_)
      | (with_reducible refine LeO.bind ?_ (fun _ => ?_))
      | exact ih0 _ _ _ _ _ _ _ _
      | exact impl_InsOk.mono _ _ _ _ _ _
      | exact impl_formOf.mono _ _
      | exact LeO.none _
      | refine LeO.ite ?_ ?_
      | refine LeO.bind ?_ (fun _ => ?_)
theorem impl_InsText.byte {W : World} {g : Nat} {cs : Array Value} {fr : Nat × Nat} (h : W.heap[g]? = some (.cells cs 5 fr)) (s : ByteArray) (hc : ∀ j, j < s.size → cs[j]? = some (.int .u8 (s.data.toList.getD j 0).toNat)) (i : Int) (h0 : 0 ≤ i) (h1 : i < (s.size : Int)) : W.cell? ⟨g, i.toNat, none⟩ = some (.int .u8 (rd (bytesOf s) i)) := by
  have h2 : i.toNat < s.size := by omega
  have h3 := hc i.toNat h2
  have h4 : rd (bytesOf s) i = ((s.data.toList.getD i.toNat 0).toNat : Int) := by
    have hl : i.toNat < s.data.toList.length := by rw [data_length]; exact h2
    unfold rd bytesOf
    rw [List.getD_eq_getElem?_getD, List.getD_eq_getElem?_getD, List.getElem?_map, List.getElem?_eq_getElem hl]; rfl
  rw [h4]
  simp [World.cell?, h, h3]
theorem impl_InsText.row (W : World) (s : ByteArray) : ∃ (cs : Array Value) (fr : Nat × Nat), (Lib.bytesWorld W 5 s).heap[W.heap.size]? = some (.cells cs 5 fr) ∧ ∀ j, j < s.size → cs[j]? = some (.int .u8 (s.data.toList.getD j 0).toNat) := by
  refine ⟨_, _, Lib.bytesWorld_at_new W 5 s, fun j hj => ?_⟩; have h := Lib.bytesWorld_cell W 5 s j hj
  simpa [World.cell?, Lib.bytesWorld_at_new] using h
set_option maxHeartbeats 8000000 in
set_option maxRecDepth 100000 in
theorem impl_InsText.calls (k : Nat) (a0_0 : Int) (a0_1 : Int) (a0_2 : Int) (a0_3 : Int) (a0_4 : Int) (r : ByteArray) (w : World) (h : impl_InsText.f k a0_0 a0_1 a0_2 a0_3 a0_4 = some r) (hT_ : TabW w) :
  Calls Tryd.prog 7 #[.agg #[.int .i64 a0_0, .int .i64 a0_1, .int .i64 a0_2, .int .i64 a0_3, .int .i64 a0_4]] w fun e w' => e = .returned (.string r) ∧ Below w.heap.size w w' := by
 have HT := Aside0.mk hT_; clear hT_; have hu25 := Tryd.underlying25; have HB := Aside0.mk (Below.refl w.heap.size w); obtain ⟨bo, A20, H⟩ := Option.bind_eq_some_iff.mp h; clear h; have A2 := Aside0.mk A20; clear A20; replace H : (if bo = true then ((impl_opNames.f).bind fun bc => (if 0 ≤ a0_0 then (if a0_0 < (bc.length : Int) then ((impl_formOf.f k a0_0).bind fun bt => (if bt.1.size ≤ 9223372036854775807 then (impl_InsText.l0 k bt.1 (rdOf ByteArray.empty bc a0_0) 0 a0_0 a0_1 a0_2 a0_3 a0_4) else none)) else none) else none)) else (some (⟨#[]⟩ : ByteArray))) = some r := H
 cases bo with
 | false =>
  rw [if_neg (by simp)] at H; obtain rfl := Option.some.inj H
  go_enter Tryd.func7, Tryd.ntmps7
  go_wp2_with (first | ((with_reducible refine gate_dst (N := 1) rfl ?_); refine bxe 1 #[.int .i64 a0_0, .int .i64 a0_1, .int .i64 a0_2, .int .i64 a0_3, .int .i64 a0_4] 25 ?_; intro bm hg w9 hbox hb; have ba := hbox; replace HB := nbs HB hb; clear hb hbox hg; obtain ⟨bw, bx, bz, bA, bB⟩ := c5e ba; obtain ⟨bC, bD, bE, bF, bG⟩ := z5_ ba) | (go_at_call 17; (with_reducible refine (impl_InsOk.calls k a0_0 a0_1 a0_2 a0_3 a0_4 false _ A2.out).mono ?_); rintro e dw ⟨rfl, hb⟩; replace ba := nblk ba hb; replace HB := nbs HB hb; (try clear hb)))
  go_ret
  exact ⟨er_, nbe HB⟩
 | true =>
  rw [if_pos rfl] at H; obtain ⟨bc, A50, H⟩ := Option.bind_eq_some_iff.mp H; have A5 := Aside0.mk A50; clear A50
  by_cases c6 : 0 ≤ a0_0
  · rw [if_pos c6] at H
    have c6b0 : decide (0 ≤ a0_0) = true := decide_eq_true c6; clear c6
    by_cases c7 : a0_0 < (bc.length : Int)
    · rw [if_pos c7] at H
      have c7b0 : decide (a0_0 < (bc.length : Int)) = true := decide_eq_true c7; clear c7; obtain ⟨⟨fm, fb⟩, A80, H⟩ := Option.bind_eq_some_iff.mp H; have A8 := Aside0.mk A80; clear A80; replace H : (if fm.size ≤ 9223372036854775807 then (impl_InsText.l0 k fm (rdOf ByteArray.empty bc a0_0) 0 a0_0 a0_1 a0_2 a0_3 a0_4) else none) = some r := H
      by_cases hs : fm.size ≤ 9223372036854775807
      · rw [if_pos hs] at H
        have H' := Aside0.mk H; clear H; have kb := fun (W : World) => print_bytes (P := Tryd.prog) 9 42 5 Tryd.underlying9 Tryd.underlying42 Tryd.underlying5 fm W
        go_enter Tryd.func7, Tryd.ntmps7
        try go_wp2_with (first | ((with_reducible refine gate_dst (N := 1) rfl ?_); refine bxe 1 #[.int .i64 a0_0, .int .i64 a0_1, .int .i64 a0_2, .int .i64 a0_3, .int .i64 a0_4] 25 ?_; intro bm hg w9 hbox hb; have ba := hbox; replace HB := nbs HB hb; clear hb hbox hg; obtain ⟨bw, bx, bz, bA, bB⟩ := c5e ba; obtain ⟨bC, bD, bE, bF, bG⟩ := z5_ ba) | (go_at_call 17; (with_reducible refine (impl_InsOk.calls k a0_0 a0_1 a0_2 a0_3 a0_4 true _ A2.out).mono ?_); rintro e da ⟨rfl, hb⟩; replace ba := nblk ba hb; replace HB := nbs HB hb; (try clear hb)))
        replace ba := Aside0.mk (blk_drew ba.out); replace HB := Aside0.mk (below_drew1 HB.out); refine start_ (n := 6) (S := fun w' => w'.cell? ⟨bm, 0, none⟩ = some (.int .i64 a0_0) ∧ w'.cell? ⟨bm, 1, none⟩ = some (.int .i64 a0_1) ∧ w'.cell? ⟨bm, 2, none⟩ = some (.int .i64 a0_2) ∧ w'.cell? ⟨bm, 3, none⟩ = some (.int .i64 a0_3) ∧ w'.cell? ⟨bm, 4, none⟩ = some (.int .i64 a0_4)) (ds := []) #[false, false, false, false, false, false] (by kernel_rfl) rfl rfl ⟨(blk_cell ba.out 0).trans rfl, (blk_cell ba.out 1).trans rfl, (blk_cell ba.out 2).trans rfl, (blk_cell ba.out 3).trans rfl, (blk_cell ba.out 4).trans rfl⟩ (fun hHeld => ?_); generalize da.drew = dx at ba HB hHeld ⊢; refine rPk 1 12 #[false, true, false, false, false, false] ?_; refine rTk hHeld 2 13 #[false, true, true, false, false, false] ?_; refine one_ (i := 0) (N := some 11) #[true, true, true, false, false, false] rfl rfl (by kernel_rfl) (by decide) (fun K hK => ?_); refine goesR Tryd.func18 (by kernel_rfl) rfl #[] (by rfl) rfl rfl ?_; (with_reducible refine (impl_opNames.calls bc _ A5.out).mono ?_); rintro e dy ⟨dz, rfl, bT, hb⟩; refine ⟨_, rfl, ?_⟩; have bs := Aside0.mk (Kd.R_lower bT (bsz HB)); replace ba := nblk ba hb; replace HB := nbs HB hb; (try clear hb); (try clear bT); obtain ⟨dA, dB, bU⟩ := Kd.R_slice bs.out; (first | subst bU | (injection bU with f1_ f2_ f3_; have f4_ := f1_.symm; have f5_ := f3_.symm; clear f1_ f2_ f3_; subst f4_; subst f5_)); have p129 : 0 ≤ (a0_0 : Int) := of_decide_eq_true (by first | (with_reducible assumption) | assumption); have q129 : a0_0 < (bc.length : Int) := of_decide_eq_true (by first | (with_reducible assumption) | assumption); obtain ⟨db, e129, bH⟩ := Kd.at_string (Kd.R_reads' bs.out).2.2 a0_0 p129 q129
        cases e129
        replace p129 := eq_true p129; replace q129 := eq_true q129; refine hK.out _ _ ⟨(blk_cell ba.out 0).trans rfl, (blk_cell ba.out 1).trans rfl, (blk_cell ba.out 2).trans rfl, (blk_cell ba.out 3).trans rfl, (blk_cell ba.out 4).trans rfl⟩ (fun hHeld => ?_); clear hK K; refine norm_ (a' := ?_) ?_ ?_; rotate_left
        · show Act.put _ (some 11) _ = _
          simp only [Act.put, List.setIfInBounds_toArray, List.set_cons_zero, List.set_cons_succ, i64_w, i32_w]; rfl
        refine rPk 3 14 #[true, true, true, true, false, false] ?_; refine one_ (i := 4) (N := some 15) #[true, true, true, true, true, false] rfl rfl (by kernel_rfl) (by decide) (fun K hK => ?_); refine ev_step (v := .string (rdOf ByteArray.empty bc a0_0)) (w1 := dy) ?hw ?hrun ?_; (case hw => rfl); (case hrun => go_simp; try rfl)
        refine hK.out _ _ ⟨(blk_cell ba.out 0).trans rfl, (blk_cell ba.out 1).trans rfl, (blk_cell ba.out 2).trans rfl, (blk_cell ba.out 3).trans rfl, (blk_cell ba.out 4).trans rfl⟩ (fun hHeld => ?_); clear hK K; refine norm_ (a' := ?_) ?_ ?_; rotate_left
        · show Act.put _ (some 15) _ = _
          simp only [Act.put, List.setIfInBounds_toArray, List.set_cons_zero, List.set_cons_succ, i64_w, i32_w]; rfl
        refine rPk 5 3 #[true, true, true, true, true, true] ?_; refine done_ (by kernel_rfl) ?_; obtain ⟨hcz_0, hcz_1, hcz_2, hcz_3, hcz_4⟩ := c5e ba
        go_wp2_with (first | (go_at_call 19; (with_reducible refine (impl_formOf.calls k a0_0 fm fb _ A8.out).mono ?_); rintro e w4 ⟨rfl, hd⟩; have hb := hd.below; replace ba := nblk ba hb; replace HB := nbs HB hb; clear hb hd hcz_0 hcz_1 hcz_2 hcz_3 hcz_4))
        obtain ⟨cs, fr, bP, bX⟩ := impl_InsText.row w4 fm; have BY := Aside0.mk bP; clear bP; have hgm : bm < w4.heap.size := blk_lt ba.out; have BK : Aside0 ((Lib.bytesWorld w4 5 fm).heap[bm]? = some (.cells #[.int .i64 a0_0, .int .i64 a0_1, .int .i64 a0_2, .int .i64 a0_3, .int .i64 a0_4] 25 (0, 0))) := ⟨(Lib.bytesWorld_at_old w4 5 fm bm hgm).trans ba.out⟩; have HB2 : Aside0 (Below w.heap.size w (Lib.bytesWorld w4 5 fm)) := ⟨bytes_below HB.out (below_size HB.out) _ _⟩; clear HB ba hgm kb
        go_loopg [3, 25] k (fun kq v3 bY w' => ∃ (x3 : ByteArray) (bg : Int), v3 = .string x3 ∧ bY = .int .i64 bg ∧ Aside0 (impl_InsText.l0 kq fm x3 bg a0_0 a0_1 a0_2 a0_3 a0_4 = some r) ∧ Aside0 (kq ≤ k) ∧ Aside0 (w'.heap[w4.heap.size]? = some (.cells cs 5 fr)) ∧ Aside0 (w'.heap[bm]? = some (.cells #[.int .i64 a0_0, .int .i64 a0_1, .int .i64 a0_2, .int .i64 a0_3, .int .i64 a0_4] 25 (0, 0))) ∧ Aside0 (Below w.heap.size w w'))
        case atStart => exact ⟨_, 0, rfl, rfl, H', ⟨Nat.le_refl _⟩, BY, BK, HB2⟩
        case round =>
         clear H' BY BK HB2; obtain ⟨x3, bg, rfl, rfl, HA, HK, BY, BK, HB⟩ := hrel
         cases gk with
         | zero => exact absurd HA.out (by simp [impl_InsText.l0])
         | succ k1 =>
          have H := HA.out; clear HA; simp only [impl_InsText.l0] at H
          by_cases c8 : bg < (fm.size : Int)
          · rw [if_pos c8] at H
            by_cases c9 : 0 ≤ bg
            · rw [if_pos c9] at H
              obtain ⟨t, A110, H⟩ := Option.bind_eq_some_iff.mp H; have A11 := Aside0.mk A110; obtain ⟨s, A120, H⟩ := Option.bind_eq_some_iff.mp H; have A12 := Aside0.mk A120; clear A110 A120; have hby := impl_InsText.byte BY.out fm bX bg c9 c8; obtain ⟨hcz_0, hcz_1, hcz_2, hcz_3, hcz_4⟩ := c5e BK; have c8b : decide (bg < (fm.size : Int)) = true := decide_eq_true c8; have c9b : decide (0 ≤ bg) = true := decide_eq_true c9; replace c8 := eq_true c8; replace c9 := eq_true c9; obtain ⟨q, hq⟩ : ∃ q, q = rd (bytesOf fm) bg := ⟨_, rfl⟩; rw [← hq] at hby A11 H; clear hq
              by_cases c14 : q = 78
              · have c14b : (q == 78) = true := beq_iff_eq.mpr c14
                have c14c : (q != 78) = false := bne_eq_false_iff_eq.mpr c14; rw [if_pos c14] at H; clear c14
                by_cases c15 : x3.size + 1 ≤ 9223372036854775807
                · rw [if_pos c15] at H
                  have c15b0 := eq_true c15; have c15b2 : (9223372036854775807 < x3.size + 1) = False := eq_false (Nat.not_lt.2 c15)
                  by_cases c16 : (x3 ++ (⟨#[32]⟩ : ByteArray)).size + s.size ≤ 9223372036854775807
                  · rw [if_pos c16] at H
                    have c16b0 := eq_true c16; have c16b2 : (9223372036854775807 < (x3 ++ (⟨#[32]⟩ : ByteArray)).size + s.size) = False := eq_false (Nat.not_lt.2 c16); have c16b3 : (9223372036854775807 < x3.size + 1 + s.size) = False := eq_false (Nat.not_lt.2 (by have h_ := c16; simp only [ByteArray.size_append] at h_; exact h_)); have H' := Aside0.mk H; clear H
                    go_wp2_with (first | (go_at_call 21; (with_reducible refine (impl_partOf.calls a0_0 a0_1 a0_2 a0_3 a0_4 q t _ A11.out).mono ?_); rintro e wA ⟨rfl, hb⟩; replace BY := nblk BY hb; replace BK := nblk BK hb; replace HB := nbs HB hb; clear hb hcz_0 hcz_1 hcz_2 hcz_3 hcz_4) | (go_at_call 20; (with_reducible refine (strconv_Itoa.calls t s _ A12.out ?hT).mono ?_); (case hT => exact nT HT HB); rintro e wB ⟨rfl, hb⟩; replace BY := nblk BY hb; replace BK := nblk BK hb; replace HB := nbs HB hb; clear hb))
                    go_roundg k1
                    case measure => have := HK.out; omega
                    case rel => exact ⟨_, _, rfl, rfl, H', ⟨by have := HK.out; omega⟩, ⟨nb BY⟩, ⟨nb BK⟩, ⟨nbe HB⟩⟩
                  · rw [if_neg c16] at H
                    exact absurd H (by simp)
                · rw [if_neg c15] at H
                  exact absurd H (by simp)
              · have c14b : (q == 78) = false := beq_eq_false_iff_ne.mpr c14
                have c14c : (q != 78) = true := bne_iff_ne.mpr c14; rw [if_neg c14] at H; clear c14
                by_cases c15 : x3.size + 1 ≤ 9223372036854775807
                · rw [if_pos c15] at H
                  have c15b0 := eq_true c15; have c15b2 : (9223372036854775807 < x3.size + 1) = False := eq_false (Nat.not_lt.2 c15)
                  by_cases c17 : (x3 ++ (⟨#[32]⟩ : ByteArray)).size + 1 ≤ 9223372036854775807
                  · rw [if_pos c17] at H
                    have c17b2 : (9223372036854775807 < (x3 ++ (⟨#[32]⟩ : ByteArray)).size + 1) = False := eq_false (Nat.not_lt.2 c17); have c17b3 : (9223372036854775807 < x3.size + 1 + 1) = False := eq_false (Nat.not_lt.2 (by have h_ := c17; simp only [ByteArray.size_append] at h_; exact h_))
                    by_cases c16 : ((x3 ++ (⟨#[32]⟩ : ByteArray)) ++ (⟨#[114]⟩ : ByteArray)).size + s.size ≤ 9223372036854775807
                    · rw [if_pos c16] at H
                      have c16b2 : (9223372036854775807 < ((x3 ++ (⟨#[32]⟩ : ByteArray)) ++ (⟨#[114]⟩ : ByteArray)).size + s.size) = False := eq_false (Nat.not_lt.2 c16); have c16b3 : (9223372036854775807 < x3.size + 1 + 1 + s.size) = False := eq_false (Nat.not_lt.2 (by have h_ := c16; simp only [ByteArray.size_append] at h_; exact h_)); have H' := Aside0.mk H; clear H
                      go_wp2_with (first | (go_at_call 21; (with_reducible refine (impl_partOf.calls a0_0 a0_1 a0_2 a0_3 a0_4 q t _ A11.out).mono ?_); rintro e wA ⟨rfl, hb⟩; replace BY := nblk BY hb; replace BK := nblk BK hb; replace HB := nbs HB hb; clear hb hcz_0 hcz_1 hcz_2 hcz_3 hcz_4) | (go_at_call 20; (with_reducible refine (strconv_Itoa.calls t s _ A12.out ?hT).mono ?_); (case hT => exact nT HT HB); rintro e wB ⟨rfl, hb⟩; replace BY := nblk BY hb; replace BK := nblk BK hb; replace HB := nbs HB hb; clear hb))
                      go_roundg k1
                      case measure => have := HK.out; omega
                      case rel => exact ⟨_, _, rfl, rfl, H', ⟨by have := HK.out; omega⟩, ⟨nb BY⟩, ⟨nb BK⟩, ⟨nbe HB⟩⟩
                    · rw [if_neg c16] at H
                      exact absurd H (by simp)
                  · rw [if_neg c17] at H
                    exact absurd H (by simp)
                · rw [if_neg c15] at H
                  exact absurd H (by simp)
            · rw [if_neg c9] at H
              exact absurd H (by simp)
          · rw [if_neg c8] at H
            have c8b : decide (bg < (fm.size : Int)) = false := decide_eq_false c8; obtain rfl := Option.some.inj H; go_wp2
            go_ret
            exact ⟨er_, nbe HB⟩
      · rw [if_neg hs] at H
        exact absurd H (by simp)
    · rw [if_neg c7] at H
      exact absurd H (by simp)
  · rw [if_neg c6] at H
    exact absurd H (by simp)

-- NOT PRINTED: function 34 (impl_Ins_34)

-- NOT PRINTED: function 30 (impl_Ins_30)

/-! ### impl_CodeOk_1: function 31 -/
def impl_CodeOk_1.f (k : Nat) (a0_0 : Int) (a0_1 : Int) (a0_2 : Int) (a0_3 : Int) (a0_4 : Int) : Option (Bool) := (impl_InsOk.f k a0_0 a0_1 a0_2 a0_3 a0_4).bind fun bl => (some (!bl))
theorem impl_CodeOk_1.mono : ∀ a0 a1 a2 a3 a4 k, LeO (impl_CodeOk_1.f k a0 a1 a2 a3 a4) (impl_CodeOk_1.f (k + 1) a0 a1 a2 a3 a4) := by
  intro a0 a1 a2 a3 a4 k
  unfold impl_CodeOk_1.f
  repeat' first
      | (with_reducible exact impl_InsOk.mono _ _ _ _ _ _)
      | (with_reducible exact LeO.refl _)
      | (with_reducible exact LeO.none _)
      | (with_reducible refine LeO.ite ?_ ?_)
      | (with_reducible refine LeO.bind ?_ (fun _ => ?_))
      | exact impl_InsOk.mono _ _ _ _ _ _
      | exact LeO.none _
      | refine LeO.ite ?_ ?_
      | refine LeO.bind ?_ (fun _ => ?_)
set_option maxHeartbeats 8000000 in
set_option maxRecDepth 100000 in
theorem impl_CodeOk_1.calls (k : Nat) (a0_0 : Int) (a0_1 : Int) (a0_2 : Int) (a0_3 : Int) (a0_4 : Int) (r : Bool) (w : World) (h : impl_CodeOk_1.f k a0_0 a0_1 a0_2 a0_3 a0_4 = some r) :
    Calls Tryd.prog 31 #[.agg #[.int .i64 a0_0, .int .i64 a0_1, .int .i64 a0_2, .int .i64 a0_3, .int .i64 a0_4]] w fun e w' => e = .returned (.bool r) ∧ Below w.heap.size w w' := by
  have hu25 := Tryd.underlying25; have HB := Aside0.mk (Below.refl w.heap.size w); have H : ((impl_InsOk.f k a0_0 a0_1 a0_2 a0_3 a0_4).bind fun bl => (some (!bl))) = some r := h; clear h; replace H := Option.bind_eq_some_iff.mp H; obtain ⟨bl, A20, H⟩ := H; replace H : (some (!bl)) = some r := H; have A2 := Aside0.mk A20; clear A20; obtain rfl := Option.some.inj H
  go_enter Tryd.func31, Tryd.ntmps31
  go_wp2_with (first | ((with_reducible refine gate_dst (N := 1) rfl ?_); refine bxe 1 #[.int .i64 a0_0, .int .i64 a0_1, .int .i64 a0_2, .int .i64 a0_3, .int .i64 a0_4] 25 ?_; intro b2 hg w3 hbox hb; have bu := hbox; have b3 := nge HB hg; have b4 := nge HB hg; replace HB := nbs HB hb; clear hb hbox hg; obtain ⟨b5, b6, b7, b8, b9⟩ := c5e bu; obtain ⟨dc, dd, de, df, dg⟩ := z5_ bu) | ((with_reducible refine gate_callee (f := 17) rfl ?_); refine goesM (some 4) rfl rfl Tryd.func17 (by kernel_rfl) rfl #[.agg #[.int .i64 a0_0, .int .i64 a0_1, .int .i64 a0_2, .int .i64 a0_3, .int .i64 a0_4]] rfl ?_; (with_reducible refine (impl_InsOk.calls k a0_0 a0_1 a0_2 a0_3 a0_4 bl _ A2.out).mono ?_); rintro e w5 ⟨rfl, hb⟩; refine ⟨_, rfl, ?_⟩; replace bu := nblk bu hb; replace HB := nbs HB hb; (try clear hb)))
  go_ret
  exact ⟨er_, nbe HB⟩

/-! ### CF_impl_CodeOk_1: function 30 with function 31 -/
def CF_impl_CodeOk_1.l0 : Nat → List (S25) → Int → Option Int
  | 0, _, _ => none
  | k + 1, l, i => if i < (l.length : Int) then (if 0 ≤ i then (impl_CodeOk_1.f k (rd_T25 l i).f0 (rd_T25 l i).f1 (rd_T25 l i).f2 (rd_T25 l i).f3 (rd_T25 l i).f4).bind fun t => (if t = true then some i else CF_impl_CodeOk_1.l0 k l (wrap64 (i + 1))) else none) else some (-1)
def CF_impl_CodeOk_1.f (k : Nat) (l0 : List (S25)) (u : Unit) : Option Bool := (CF_impl_CodeOk_1.l0 k l0 0).bind fun t => some (decide (t ≥ 0))
theorem CF_impl_CodeOk_1.mono_l : ∀ k, (∀ y0 y1, LeO (CF_impl_CodeOk_1.l0 k y0 y1) (CF_impl_CodeOk_1.l0 (k + 1) y0 y1))
  | 0 => fun _ _ r h => by simp [CF_impl_CodeOk_1.l0] at h
  | k + 1 => by
    have ih0 := CF_impl_CodeOk_1.mono_l k
    · intro y0 y1
      unfold CF_impl_CodeOk_1.l0
      repeat' first
      | (with_reducible exact ih0 _ _)
      | (with_reducible exact impl_CodeOk_1.mono _ _ _ _ _ _)
      | (with_reducible exact LeO.refl _)
      | (with_reducible exact LeO.none _)
      | (with_reducible refine LeO.ite ?_ ?_)
      | (with_reducible refine LeO.bind ?_ (fun _ => ?_))
      | exact ih0 _ _
      | exact impl_CodeOk_1.mono _ _ _ _ _ _
      | exact LeO.none _
      | refine LeO.ite ?_ ?_
      | refine LeO.bind ?_ (fun _ => ?_)
theorem CF_impl_CodeOk_1.mono : ∀ a0 a1 k, LeO (CF_impl_CodeOk_1.f k a0 a1) (CF_impl_CodeOk_1.f (k + 1) a0 a1) := by
  intro a0 a1 k; have ih0 := CF_impl_CodeOk_1.mono_l k
  unfold CF_impl_CodeOk_1.f
  repeat' first
      | (with_reducible exact ih0 _ _)
      | (with_reducible exact impl_CodeOk_1.mono _ _ _ _ _ _)
      | (with_reducible exact LeO.refl _)
      | (with_reducible exact LeO.none _)
      | (with_reducible refine LeO.ite ?_ ?_)
      | (with_reducible refine LeO.bind ?_ (fun _ => ?_))
      | exact ih0 _ _
      | exact impl_CodeOk_1.mono _ _ _ _ _ _
      | exact LeO.none _
      | refine LeO.ite ?_ ?_
      | refine LeO.bind ?_ (fun _ => ?_)
set_option maxHeartbeats 8000000 in
set_option maxRecDepth 100000 in
theorem CF_impl_CodeOk_1.idx (k : Nat) (A0 : Option Addr) (c0 : Nat) (l0 : List (S25)) (r : Int) (w : World) (hr0 : Kd.C k25 w A0 l0.length l0) (h : CF_impl_CodeOk_1.l0 k l0 0 = some r) :
  Calls Tryd.prog 34 #[.slice A0 l0.length c0, .func (.func 31) #[] #[]] w fun e w' => e = .returned (.int .i64 r) ∧ Below w.heap.size w w' := by
 have hu25 := Tryd.underlying25; have bi := Aside0.mk hr0; have HB := Aside0.mk (Below.refl w.heap.size w); have H' := Aside0.mk h; clear hr0 h
 go_enter Tryd.func34, Tryd.ntmps34
 go_wp2
 go_loopg [5, 8] k (fun kq v5 v8 w' => ∃ x8 : Int, v8 = .int .i64 x8 ∧ Aside0 (CF_impl_CodeOk_1.l0 kq l0 x8 = some r) ∧ Aside0 (kq ≤ k) ∧ Aside0 (Below w.heap.size w w'))
 case atStart => exact ⟨0, rfl, H', ⟨Nat.le_refl _⟩, HB⟩
 case round =>
  clear H'; obtain ⟨x8, rfl, HA, HK, HB⟩ := hrel
  cases gk with
  | zero => exact absurd HA.out (by simp [CF_impl_CodeOk_1.l0])
  | succ k1 =>
   have H := HA.out; clear HA; simp only [CF_impl_CodeOk_1.l0] at H
   by_cases c1 : x8 < (l0.length : Int)
   · rw [if_pos c1] at H
     by_cases c2 : 0 ≤ x8
     · rw [if_pos c2] at H
       replace H := Option.bind_eq_some_iff.mp H; obtain ⟨t, A80, H⟩ := H; have A8 := Aside0.mk A80; clear A80; obtain ⟨dh, e1, hx_0, hx_1, hx_2, hx_3, hx_4⟩ := at_T25 bi.out x8 c2 c1
       cases e1
       replace hx_0 := (HB.out.cell (World.block_lt_of_cell? w _ hx_0)).trans hx_0; replace hx_1 := (HB.out.cell (World.block_lt_of_cell? w _ hx_1)).trans hx_1; replace hx_2 := (HB.out.cell (World.block_lt_of_cell? w _ hx_2)).trans hx_2; replace hx_3 := (HB.out.cell (World.block_lt_of_cell? w _ hx_3)).trans hx_3; replace hx_4 := (HB.out.cell (World.block_lt_of_cell? w _ hx_4)).trans hx_4; have c1b : decide (x8 < (l0.length : Int)) = true := decide_eq_true c1; have c2b : decide (0 ≤ x8) = true := decide_eq_true c2; replace c2 := eq_true c2; replace c1 := eq_true c1
       cases t with
       | true =>
         obtain rfl : x8 = r := by simpa using H
         clear H
         go_wp2_with (first | (go_at_call 31; refine (impl_CodeOk_1.calls k1 (rd_T25 l0 x8).f0 (rd_T25 l0 x8).f1 (rd_T25 l0 x8).f2 (rd_T25 l0 x8).f3 (rd_T25 l0 x8).f4 true _ A8.out).mono ?_; rintro e w' ⟨rfl, hb⟩))
         go_ret
         exact ⟨rfl, below_step HB.out hb⟩
       | false =>
         have H' : Aside0 (CF_impl_CodeOk_1.l0 k1 l0 (wrap64 (x8 + 1)) = some r) := ⟨by simpa using H⟩; clear H
         go_wp2_with (first | (go_at_call 31; refine (impl_CodeOk_1.calls k1 (rd_T25 l0 x8).f0 (rd_T25 l0 x8).f1 (rd_T25 l0 x8).f2 (rd_T25 l0 x8).f3 (rd_T25 l0 x8).f4 false _ A8.out).mono ?_; rintro e w' ⟨rfl, hb⟩))
         go_roundg k1
         case measure => have := HK.out; omega
         case rel => exact ⟨_, rfl, H', ⟨by have := HK.out; omega⟩, ⟨below_step HB.out hb⟩⟩
     · rw [if_neg c2] at H
       exact absurd H (by simp)
   · rw [if_neg c1] at H
     obtain rfl : -1 = r := by simpa using H
     clear H; go_wp2
     go_ret
     exact ⟨rfl, HB.out⟩
set_option maxHeartbeats 8000000 in
set_option maxRecDepth 100000 in
theorem CF_impl_CodeOk_1.calls (k : Nat) (A0 : Option Addr) (c0 : Nat) (l0 : List (S25)) (u : Unit) (r : Bool) (w : World) (hr0 : Kd.C k25 w A0 l0.length l0) (hc0 : l0.length ≤ c0) (h : CF_impl_CodeOk_1.f k l0 u = some r) :
  Calls Tryd.prog 30 #[.slice A0 l0.length c0, .func (.func 31) #[] #[]] w fun e w' => e = .returned (.bool r) ∧ Below w.heap.size w w' := by
 obtain ⟨t, A80, H⟩ := Option.bind_eq_some_iff.mp h; have A8 := Aside0.mk A80; have bi := Aside0.mk hr0; obtain rfl : decide (t ≥ 0) = r := by simpa using H
 clear A80 H h hr0 hc0
 go_enter Tryd.func30, Tryd.ntmps30
 go_wp2_with (first | (go_at_call 34; refine (CF_impl_CodeOk_1.idx k A0 c0 l0 t _ bi.out A8.out).mono ?_; rintro e w' ⟨rfl, hb⟩))
 go_ret
 exact ⟨rfl, hb⟩

/-! ### impl_CodeOk: function 23 -/
def impl_CodeOk.f (k : Nat) (l0 : List (S25)) : Option (Bool) := (impl_in.f (l0.length : Int) 1 48).bind fun bn => (if bn = true then ((CF_impl_CodeOk_1.f k l0 ()).bind fun bh => (some (!bh))) else (some false))
theorem impl_CodeOk.mono : ∀ a0 k, LeO (impl_CodeOk.f k a0) (impl_CodeOk.f (k + 1) a0) := by
  intro a0 k
  unfold impl_CodeOk.f
  repeat' first
      | (with_reducible exact CF_impl_CodeOk_1.mono _ _ _)
      | (with_reducible exact LeO.refl _)
      | (with_reducible exact LeO.none _)
      | (with_reducible refine LeO.ite ?_ ?_)
      | (with_reducible refine LeO.bind ?_ (fun _ => ?_))
      | exact CF_impl_CodeOk_1.mono _ _ _
      | exact LeO.none _
      | refine LeO.ite ?_ ?_
      | refine LeO.bind ?_ (fun _ => ?_)
set_option maxHeartbeats 8000000 in
set_option maxRecDepth 100000 in
theorem impl_CodeOk.calls (k : Nat) (A0 : Option Addr) (c0 : Nat) (l0 : List (S25)) (r : Bool) (w : World) (hr0 : Kd.C k25 w A0 l0.length l0) (hc0 : l0.length ≤ c0) (h : impl_CodeOk.f k l0 = some r) :
    Calls Tryd.prog 23 #[.slice A0 l0.length c0] w fun e w' => e = .returned (.bool r) ∧ Below w.heap.size w w' := by
  have bi := Aside0.mk hr0; have bv := Aside0.mk hc0; clear hr0 hc0; have HB := Aside0.mk (Below.refl w.heap.size w); have H : ((impl_in.f (l0.length : Int) 1 48).bind fun bn => (if bn = true then ((CF_impl_CodeOk_1.f k l0 ()).bind fun bh => (some (!bh))) else (some false))) = some r := h; clear h; replace H := Option.bind_eq_some_iff.mp H; obtain ⟨bn, A20, H⟩ := H; replace H : (if bn = true then ((CF_impl_CodeOk_1.f k l0 ()).bind fun bh => (some (!bh))) else (some false)) = some r := H; have A2 := Aside0.mk A20; clear A20
  by_cases c3 : bn = true
  · subst c3
    have H1 : ((CF_impl_CodeOk_1.f k l0 ()).bind fun bh => (some (!bh))) = some r := by rw [if_pos rfl] at H; exact H
    clear H; have H := H1; clear H1; replace H := Option.bind_eq_some_iff.mp H; obtain ⟨bh, A40, H⟩ := H; replace H : (some (!bh)) = some r := H; have A4 := Aside0.mk A40; clear A40; obtain rfl := Option.some.inj H
    go_enter Tryd.func23, Tryd.ntmps23
    go_wp2_with (first | ((with_reducible refine gate_callee (f := 28) rfl ?_); refine goesM (some 5) rfl rfl Tryd.func28 (by kernel_rfl) rfl #[.int .i64 (l0.length : Int), .int .i64 1, .int .i64 48] rfl ?_; (with_reducible refine (impl_in.calls (l0.length : Int) 1 48 true _ A2.out).mono ?_); rintro e w' ⟨rfl, ⟨nd, rfl⟩⟩; refine ⟨_, rfl, ?_⟩) | (go_at_call 30; (with_reducible refine (CF_impl_CodeOk_1.calls k _ _ l0 () bh _ ?side1 ?side2 A4.out).mono ?_); (case side1 => exact nC bi); (case side2 => exact bv.out); rintro e w5 ⟨rfl, hb⟩; replace HB := nbs HB hb; (try clear hb)))
    go_ret
    exact ⟨er_, nbe HB⟩
  · replace c3 := Bool.eq_false_iff.mpr c3
    subst c3; have H1 : (some false) = some r := by rw [if_neg (show ¬ (false = true) by decide)] at H; exact H
    clear H; have H := H1; clear H1; obtain rfl := Option.some.inj H
    go_enter Tryd.func23, Tryd.ntmps23
    go_wp2_with (first | ((with_reducible refine gate_callee (f := 28) rfl ?_); refine goesM (some 5) rfl rfl Tryd.func28 (by kernel_rfl) rfl #[.int .i64 (l0.length : Int), .int .i64 1, .int .i64 48] rfl ?_; (with_reducible refine (impl_in.calls (l0.length : Int) 1 48 false _ A2.out).mono ?_); rintro e w' ⟨rfl, ⟨nd, rfl⟩⟩; refine ⟨_, rfl, ?_⟩))
    go_ret
    exact ⟨er_, nbe HB⟩

/-! ### impl_CodeText: function 11 -/
def impl_CodeText.l0 : Nat → ByteArray → List (S25) → Int → Int → Option (ByteArray)
  | 0, _, _, _, _ => none
  | k + 1, x3, x9, bQ, bj => if bj < bQ then (if 0 ≤ bj then (if bj < (x9.length : Int) then ((impl_InsText.f k ((rd_T25 x9 bj).f0) ((rd_T25 x9 bj).f1) ((rd_T25 x9 bj).f2) ((rd_T25 x9 bj).f3) ((rd_T25 x9 bj).f4)).bind fun bd => (if bd.size + 1 ≤ 9223372036854775807 then (if x3.size + (bd ++ (⟨#[10]⟩ : ByteArray)).size ≤ 9223372036854775807 then (impl_CodeText.l0 k (x3 ++ (bd ++ (⟨#[10]⟩ : ByteArray))) x9 bQ (wrap64 (bj + 1))) else (none)) else (none))) else (none)) else (none)) else (some x3)
def impl_CodeText.f (k : Nat) (l0 : List (S25)) : Option (ByteArray) := (impl_CodeOk.f k l0).bind fun bp => (if bp = true then (impl_CodeText.l0 k (⟨#[]⟩ : ByteArray) l0 (l0.length : Int) 0) else (some (⟨#[]⟩ : ByteArray)))
theorem impl_CodeText.mono_l : ∀ k, (∀ y0 y1 y2 y3, LeO (impl_CodeText.l0 k y0 y1 y2 y3) (impl_CodeText.l0 (k + 1) y0 y1 y2 y3))
  | 0 => fun _ _ _ _ r h => by simp [impl_CodeText.l0] at h
  | k + 1 => by
    have ih0 := impl_CodeText.mono_l k
    · intro y0 y1 y2 y3
      unfold impl_CodeText.l0
      repeat' first
      | (with_reducible exact ih0 _ _ _ _)
      | (with_reducible exact impl_CodeOk.mono _ _)
      | (with_reducible exact impl_InsText.mono _ _ _ _ _ _)
      | (with_reducible exact LeO.refl _)
      | (with_reducible exact LeO.none _)
      | (with_reducible refine LeO.ite ?_ ?_)
      | (with_reducible refine LeO.bind ?_ (fun _ => ?_))
      | exact ih0 _ _ _ _
      | exact impl_CodeOk.mono _ _
      | exact impl_InsText.mono _ _ _ _ _ _
      | exact LeO.none _
      | refine LeO.ite ?_ ?_
      | refine LeO.bind ?_ (fun _ => ?_)
theorem impl_CodeText.mono : ∀ a0 k, LeO (impl_CodeText.f k a0) (impl_CodeText.f (k + 1) a0) := by
  intro a0 k; have ih0 := impl_CodeText.mono_l k
  unfold impl_CodeText.f
  repeat' first
      | (with_reducible exact ih0 _ _ _ _)
      | (with_reducible exact impl_CodeOk.mono _ _)
      | (with_reducible exact impl_InsText.mono _ _ _ _ _ _)
      | (with_reducible exact LeO.refl _)
      | (with_reducible exact LeO.none _)
      | (with_reducible refine LeO.ite ?_ ?_)
      | (with_reducible refine LeO.bind ?_ (fun _ => ?_))
      | exact ih0 _ _ _ _
      | exact impl_CodeOk.mono _ _
      | exact impl_InsText.mono _ _ _ _ _ _
      | exact LeO.none _
      | refine LeO.ite ?_ ?_
      | refine LeO.bind ?_ (fun _ => ?_)
set_option maxHeartbeats 8000000 in
set_option maxRecDepth 100000 in
theorem impl_CodeText.calls (k : Nat) (A0 : Option Addr) (c0 : Nat) (l0 : List (S25)) (r : ByteArray) (w : World) (hr0 : Kd.C k25 w A0 l0.length l0) (hc0 : l0.length ≤ c0) (h : impl_CodeText.f k l0 = some r) (hT_ : TabW w) :
    Calls Tryd.prog 11 #[.slice A0 l0.length c0] w fun e w' => e = .returned (.string r) ∧ Below w.heap.size w w' := by
  have HT := Aside0.mk hT_; clear hT_
  have hu25 := Tryd.underlying25; have bi := Aside0.mk hr0; have bv := Aside0.mk hc0; clear hr0 hc0; have HB := Aside0.mk (Below.refl w.heap.size w); have H : ((impl_CodeOk.f k l0).bind fun bp => (if bp = true then (impl_CodeText.l0 k (⟨#[]⟩ : ByteArray) l0 (l0.length : Int) 0) else (some (⟨#[]⟩ : ByteArray)))) = some r := h; clear h; replace H := Option.bind_eq_some_iff.mp H; obtain ⟨bp, A20, H⟩ := H; replace H : (if bp = true then (impl_CodeText.l0 k (⟨#[]⟩ : ByteArray) l0 (l0.length : Int) 0) else (some (⟨#[]⟩ : ByteArray))) = some r := H; have A2 := Aside0.mk A20; clear A20
  by_cases c3 : bp = true
  · subst c3
    have H1 : (impl_CodeText.l0 k (⟨#[]⟩ : ByteArray) l0 (l0.length : Int) 0) = some r := by rw [if_pos rfl] at H; exact H
    clear H; have H := H1; clear H1; have H' := Aside0.mk H; clear H
    go_enter Tryd.func11, Tryd.ntmps11
    go_wp2_with (first | ((with_reducible refine gate_callee (f := 23) rfl ?_); refine goesM (some 7) rfl rfl Tryd.func23 (by kernel_rfl) rfl #[.slice A0 l0.length c0] rfl ?_; (with_reducible refine (impl_CodeOk.calls k _ _ l0 true _ ?side1 ?side2 A2.out).mono ?_); (case side1 => exact nC bi); (case side2 => exact bv.out); rintro e w4 ⟨rfl, hb⟩; refine ⟨_, rfl, ?_⟩; replace HB := nbs HB hb; (try clear hb)))
    go_loopg [3, 11] k (fun kq v3 bZ w' => ∃ (bk : ByteArray) (bb : Int), v3 = .string bk ∧ bZ = .int .i64 bb ∧ Aside0 (impl_CodeText.l0 kq bk l0 (l0.length : Int) bb = some r) ∧ Aside0 (kq ≤ k) ∧ Aside0 (Below w.heap.size w w'))
    case atStart => exact ⟨((⟨#[]⟩ : ByteArray)), (0), (by first | rfl | (simp; done) | (simp [*]; done)), (by first | rfl | (simp; done) | (simp [*]; done)), H', ⟨Nat.le_refl _⟩, ⟨nbe HB⟩⟩
    case round =>
      clear H'; try clear c1
      try clear c2
      try clear p2
      try clear c3
      obtain ⟨bk, bb, rfl, rfl, HA, bR, HB⟩ := hrel
      cases gk with
      | zero => exact absurd HA.out (by simp [impl_CodeText.l0])
      | succ k1 =>
        have H := HA.out; clear HA; simp only [impl_CodeText.l0] at H
        by_cases c5 : bb < (l0.length : Int)
        · rw [if_pos c5] at H
          have c5b0 : decide (bb < (l0.length : Int)) = true := decide_eq_true c5; clear c5
          by_cases c6 : 0 ≤ bb
          · rw [if_pos c6] at H
            have c6b0 : decide (0 ≤ bb) = true := decide_eq_true c6; clear c6
            by_cases c7 : bb < (l0.length : Int)
            · rw [if_pos c7] at H
              have c7b0 : decide (bb < (l0.length : Int)) = true := decide_eq_true c7; clear c7; replace H := Option.bind_eq_some_iff.mp H; obtain ⟨bd, A80, H⟩ := H; replace H : (if bd.size + 1 ≤ 9223372036854775807 then (if bk.size + (bd ++ (⟨#[10]⟩ : ByteArray)).size ≤ 9223372036854775807 then (impl_CodeText.l0 k1 (bk ++ (bd ++ (⟨#[10]⟩ : ByteArray))) l0 (l0.length : Int) (wrap64 (bb + 1))) else (none)) else (none)) = some r := H; have A8 := Aside0.mk A80; clear A80
              by_cases c9 : bd.size + 1 ≤ 9223372036854775807
              · rw [if_pos c9] at H
                have c9b0 := eq_true c9; have c9b1 : decide (bd.size + 1 ≤ 9223372036854775807) = true := decide_eq_true c9
                try have c9b2 : (9223372036854775807 < bd.size + 1) = False := eq_false (Nat.not_lt.2 c9)
                by_cases c10 : bk.size + (bd ++ (⟨#[10]⟩ : ByteArray)).size ≤ 9223372036854775807
                · rw [if_pos c10] at H
                  have c10b0 := eq_true c10; have c10b1 : decide (bk.size + (bd ++ (⟨#[10]⟩ : ByteArray)).size ≤ 9223372036854775807) = true := decide_eq_true c10
                  try have c10b2 : (9223372036854775807 < bk.size + (bd ++ (⟨#[10]⟩ : ByteArray)).size) = False := eq_false (Nat.not_lt.2 c10)
                  have c10b3 : (9223372036854775807 < bk.size + (bd.size + 1)) = False := eq_false (Nat.not_lt.2 (by have h_ := c10; simp only [ByteArray.size_append] at h_; exact h_))
                  have H' := Aside0.mk H; clear H; have p165 : 0 ≤ (bb : Int) := of_decide_eq_true (by first | (with_reducible assumption) | assumption); have q165 : bb < (l0.length : Int) := of_decide_eq_true (by first | (with_reducible assumption) | assumption); obtain ⟨di, e165, bJ, bK, bL, bM, bN⟩ := at_T25 bi.out bb p165 q165
                  cases e165
                  replace bJ := (HB.out.cell (World.block_lt_of_cell? w _ bJ)).trans bJ; replace bK := (HB.out.cell (World.block_lt_of_cell? w _ bK)).trans bK; replace bL := (HB.out.cell (World.block_lt_of_cell? w _ bL)).trans bL; replace bM := (HB.out.cell (World.block_lt_of_cell? w _ bM)).trans bM; replace bN := (HB.out.cell (World.block_lt_of_cell? w _ bN)).trans bN; replace p165 := eq_true p165; replace q165 := eq_true q165
                  go_wp2_with (first | ((with_reducible refine gate_dst (N := 5) rfl ?_); refine bxe 5 #[.int .i64 0, .int .i64 0, .int .i64 0, .int .i64 0, .int .i64 0] 25 ?_; intro b0 hg dj hbox hb; have bI := hbox; have dk := nge HB hg; have dl := nge HB hg; replace HB := nbs HB hb; clear hb hbox hg; obtain ⟨dm, dn, dp, dq, dr⟩ := c5e bI; obtain ⟨dt, du, dv, dC, dD⟩ := z5_ bI) | ((with_reducible refine gate_callee (f := 7) rfl ?_); refine goesM (some 17) rfl rfl Tryd.func7 (by kernel_rfl) rfl #[.agg #[.int .i64 ((rd_T25 l0 bb).f0), .int .i64 ((rd_T25 l0 bb).f1), .int .i64 ((rd_T25 l0 bb).f2), .int .i64 ((rd_T25 l0 bb).f3), .int .i64 ((rd_T25 l0 bb).f4)]] rfl ?_; (with_reducible refine (impl_InsText.calls k1 ((rd_T25 l0 bb).f0) ((rd_T25 l0 bb).f1) ((rd_T25 l0 bb).f2) ((rd_T25 l0 bb).f3) ((rd_T25 l0 bb).f4) bd _ A8.out ?hT).mono ?_); (case hT => exact nT HT HB); rintro e dE ⟨rfl, hb⟩; refine ⟨_, rfl, ?_⟩; replace bI := Aside0.mk (blk_below (g := b0) (o := .cells #[.int .i64 ((rd_T25 l0 bb).f0), .int .i64 ((rd_T25 l0 bb).f1), .int .i64 ((rd_T25 l0 bb).f2), .int .i64 ((rd_T25 l0 bb).f3), .int .i64 ((rd_T25 l0 bb).f4)] 25 (0, 0)) (q5 bI) hb); replace HB := nbs HB hb; (try clear hb)))
                  go_roundg k1
                  case measure => have := bR.out; omega
                  case rel => exact ⟨(bk ++ (bd ++ (⟨#[10]⟩ : ByteArray))), (wrap64 (bb + 1)), (by first | rfl | (simp; done) | (simp [*]; done)), (by first | rfl | (simp; done) | (simp [*]; done)), H', ⟨by have := bR.out; omega⟩, ⟨nbe HB⟩⟩
                · rw [if_neg c10] at H
                  exact absurd H (by simp)
              · rw [if_neg c9] at H
                exact absurd H (by simp)
            · rw [if_neg c7] at H
              exact absurd H (by simp)
          · rw [if_neg c6] at H
            exact absurd H (by simp)
        · rw [if_neg c5] at H
          have c5b0 : decide (bb < (l0.length : Int)) = false := decide_eq_false c5; clear c5; obtain rfl := Option.some.inj H; go_wp2
          go_ret
          exact ⟨er_, nbe HB⟩
  · replace c3 := Bool.eq_false_iff.mpr c3
    subst c3; have H1 : (some (⟨#[]⟩ : ByteArray)) = some r := by rw [if_neg (show ¬ (false = true) by decide)] at H; exact H
    clear H; have H := H1; clear H1; obtain rfl := Option.some.inj H
    go_enter Tryd.func11, Tryd.ntmps11
    go_wp2_with (first | ((with_reducible refine gate_callee (f := 23) rfl ?_); refine goesM (some 7) rfl rfl Tryd.func23 (by kernel_rfl) rfl #[.slice A0 l0.length c0] rfl ?_; (with_reducible refine (impl_CodeOk.calls k _ _ l0 false _ ?side1 ?side2 A2.out).mono ?_); (case side1 => exact nC bi); (case side2 => exact bv.out); rintro e dF ⟨rfl, hb⟩; refine ⟨_, rfl, ?_⟩; replace HB := nbs HB hb; (try clear hb)))
    go_ret
    exact ⟨er_, nbe HB⟩

end Go.Proofs.YteamcnoabglobaaDoor.PFnExactCodeText
