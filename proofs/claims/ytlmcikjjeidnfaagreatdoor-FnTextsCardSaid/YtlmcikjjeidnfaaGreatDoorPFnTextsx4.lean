-- Written by a program of this session (wip/patch.py turns a copy of the kit's print): the functions that the law reaches, and their walks.
import Derived.Test.YtlmcikjjeidnfaaGreatDoorShelf
import Derived.Lib.SmallJoins
import Derived.Lib.LaidTab
import Derived.Lib.ItoaNum
import Derived.Test.YtlmcikjjeidnfaaGreatDoorPFnTextsx0
import Derived.Test.YtlmcikjjeidnfaaGreatDoorPFnTextsx2
import Derived.Test.YtlmcikjjeidnfaaGreatDoorPFnTextsx3
import Derived.Test.YtlmcikjjeidnfaaGreatDoorCFnTexts
namespace Go.Proofs.YtlmcikjjeidnfaaGreatDoor.PFnTexts
open Go.RowKit Go.Proofs.YtlmcikjjeidnfaaGreatDoorW.PrintWords Go.Proofs.YtlmcikjjeidnfaaGreatDoorW.PrintLast Go.Proofs.YtlmcikjjeidnfaaGreatDoorW.PrintMore Go.Proofs.YtlmcikjjeidnfaaGreatDoorW.Mine
attribute [local go_sem] max2_int min2_int max_two min_two max_three min_three max_four min_four   -- for this text's walks alone
set_option linter.unusedVariables false
set_option linter.unusedSimpArgs false

/-! ### impl_InsOk: function 8 -/
def impl_InsOk.l0 : Nat → Bool → Int → Int → Int → Int → Int → Int → Option (Bool)
  | 0, _, _, _, _, _, _, _ => none
  | k + 1, x4, i, op, r, a, b, n => if i < 4 then (if 0 ≤ i then ((impl_partOf.f op r a b n (rd [82, 65, 66, 78] i)).bind fun t => ((impl_hasPart.f k op r a b n (rd [82, 65, 66, 78] i)).bind fun h => (if h = true then (if (rd [82, 65, 66, 78] i) = 78 then (if x4 = true then ((impl_in.f t (-128) 127).bind fun q => (impl_InsOk.l0 k q (wrap64 (i + 1)) op r a b n)) else (impl_InsOk.l0 k false (wrap64 (i + 1)) op r a b n)) else (if x4 = true then ((impl_in.f t 0 7).bind fun q => (impl_InsOk.l0 k q (wrap64 (i + 1)) op r a b n)) else (impl_InsOk.l0 k false (wrap64 (i + 1)) op r a b n))) else (if x4 = true then (impl_InsOk.l0 k (t == 0) (wrap64 (i + 1)) op r a b n) else (impl_InsOk.l0 k false (wrap64 (i + 1)) op r a b n))))) else none) else (some x4)
def impl_InsOk.f (k : Nat) (a0_0 : Int) (a0_1 : Int) (a0_2 : Int) (a0_3 : Int) (a0_4 : Int) : Option (Bool) := (impl_formOf.f k a0_0).bind fun bt => (impl_InsOk.l0 k bt.2 0 a0_0 a0_1 a0_2 a0_3 a0_4)
theorem impl_InsOk.mono_l : ∀ k, (∀ y0 y1 y2 y3 y4 y5 y6, LeO (impl_InsOk.l0 k y0 y1 y2 y3 y4 y5 y6) (impl_InsOk.l0 (k + 1) y0 y1 y2 y3 y4 y5 y6))
  | 0 => fun _ _ _ _ _ _ _ r h => by simp [impl_InsOk.l0] at h
  | k + 1 => by
    have ih0 := impl_InsOk.mono_l k
    · intro y0 y1 y2 y3 y4 y5 y6
      unfold impl_InsOk.l0
      repeat' first
      | (with_reducible exact ih0 _ _ _ _ _ _ _)
      | (with_reducible exact impl_hasPart.mono _ _ _ _ _ _ _)
      | (with_reducible exact impl_formOf.mono _ _)
      | (with_reducible exact LeO.refl _)
      | (with_reducible exact LeO.none _)
      | (with_reducible refine LeO.ite ?_ ?_)
      | (with_reducible refine LeO.bind ?_ (fun _ => ?_))
      | exact ih0 _ _ _ _ _ _ _
      | exact impl_hasPart.mono _ _ _ _ _ _ _
      | exact impl_formOf.mono _ _
      | exact LeO.none _
      | refine LeO.ite ?_ ?_
      | refine LeO.bind ?_ (fun _ => ?_)
theorem impl_InsOk.mono : ∀ a0 a1 a2 a3 a4 k, LeO (impl_InsOk.f k a0 a1 a2 a3 a4) (impl_InsOk.f (k + 1) a0 a1 a2 a3 a4) := by
  intro a0 a1 a2 a3 a4 k; have ih0 := impl_InsOk.mono_l k
  unfold impl_InsOk.f
  repeat' first
      | (with_reducible exact ih0 _ _ _ _ _ _ _)
      | (with_reducible exact impl_hasPart.mono _ _ _ _ _ _ _)
      | (with_reducible exact impl_formOf.mono _ _)
      | (with_reducible exact LeO.refl _)
      | (with_reducible exact LeO.none _)
      | (with_reducible refine LeO.ite ?_ ?_)
      | (with_reducible refine LeO.bind ?_ (fun _ => ?_))
      | exact ih0 _ _ _ _ _ _ _
      | exact impl_hasPart.mono _ _ _ _ _ _ _
      | exact impl_formOf.mono _ _
      | exact LeO.none _
      | refine LeO.ite ?_ ?_
      | refine LeO.bind ?_ (fun _ => ?_)
theorem impl_InsOk.mk_cell {W : World} {g : Nat} {cs : Array Value} {t : TypeId} {fr : Nat × Nat} {v : Value} (h : W.heap[g]? = some (.cells cs t fr)) (j : Nat) (hj : cs[j]? = some v) : W.cell? ⟨g, j, none⟩ = some v := by
  simp [World.cell?, h, hj]
theorem impl_InsOk.byte {W : World} {g : Nat} (h : W.heap[g]? = some (.cells #[.int .u8 82, .int .u8 65, .int .u8 66, .int .u8 78] 5 (4, 5))) (i : Int) (h0 : 0 ≤ i) (h1 : i < 4) : W.cell? ⟨g, i.toNat, none⟩ = some (.int .u8 (rd [82, 65, 66, 78] i)) := by
  rcases (show i = 0 ∨ i = 1 ∨ i = 2 ∨ i = 3 by omega) with rfl | rfl | rfl | rfl <;> exact impl_InsOk.mk_cell h _ rfl
set_option maxHeartbeats 8000000 in
set_option maxRecDepth 100000 in
theorem impl_InsOk.calls (k : Nat) (a0_0 : Int) (a0_1 : Int) (a0_2 : Int) (a0_3 : Int) (a0_4 : Int) (r : Bool) (w : World) (h : impl_InsOk.f k a0_0 a0_1 a0_2 a0_3 a0_4 = some r) :
  Calls Tryz.prog 8 #[.agg #[.int .i64 a0_0, .int .i64 a0_1, .int .i64 a0_2, .int .i64 a0_3, .int .i64 a0_4]] w fun e w' => e = .returned (.bool r) ∧ Below w.heap.size w w' := by
 obtain ⟨⟨s, b⟩, A80, H⟩ := Option.bind_eq_some_iff.mp h; have A8 := Aside0.mk A80; have H' : Aside0 (impl_InsOk.l0 k b 0 a0_0 a0_1 a0_2 a0_3 a0_4 = some r) := ⟨H⟩; clear A80 h H; have HB := Aside0.mk (Below.refl w.heap.size w); have kc : ∀ W : World, (convert 22 22 (.slice (some ⟨W.heap.size, 0, none⟩) 4 4)).run Tryz.prog (W.alloc (.cells #[.int .u8 82, .int .u8 65, .int .u8 66, .int .u8 78] 5)) = .ok (.slice (some ⟨W.heap.size, 0, none⟩) 4 4) (W.alloc (.cells #[.int .u8 82, .int .u8 65, .int .u8 66, .int .u8 78] 5 (4, 5))) := fun W => Lib.run_convert_bytes_const (P := Tryz.prog) W 22 5 _ 4 4 Tryz.underlying22 Tryz.underlying5
 go_enter Tryz.func8, Tryz.ntmps8
 go_wp2_with (first | ((with_reducible refine gate_dst (N := 1) rfl ?_); refine bxe 1 #[.int .i64 a0_0, .int .i64 a0_1, .int .i64 a0_2, .int .i64 a0_3, .int .i64 a0_4] 25 ?_; intro gb hg w3 hbox hb; have BK := hbox; replace HB := nbs HB hb; clear hb hbox hg; obtain ⟨hcz_0, hcz_1, hcz_2, hcz_3, hcz_4⟩ := c5e BK) | ((with_reducible refine gate_callee (f := 22) rfl ?_); refine goesM (some 11) rfl rfl Tryz.func22 (by kernel_rfl) rfl #[.int .i64 a0_0] rfl ?_; (with_reducible refine (impl_formOf.calls k a0_0 s b _ A8.out).mono ?_); rintro e w4 ⟨rfl, hd⟩; have hb := hd.below; refine ⟨_, rfl, ?_⟩; replace BK := nblk BK hb; replace HB := nbs HB hb; clear hb hd hcz_0 hcz_1 hcz_2 hcz_3 hcz_4))
 have BY : Aside0 ((w4.alloc (.cells #[.int .u8 82, .int .u8 65, .int .u8 66, .int .u8 78] 5 (4, 5))).heap[w4.heap.size]? = some (.cells #[.int .u8 82, .int .u8 65, .int .u8 66, .int .u8 78] 5 (4, 5))) := ⟨by show (w4.heap.push _)[w4.heap.size]? = _; simp⟩; clear kc
 go_loopg [4, 17] k (fun kq v4 bZ w' => ∃ (x4 : Bool) (bn : Int), v4 = .bool x4 ∧ bZ = .int .i64 bn ∧ Aside0 (impl_InsOk.l0 kq x4 bn a0_0 a0_1 a0_2 a0_3 a0_4 = some r) ∧ Aside0 (kq ≤ k) ∧ Aside0 (w'.heap[w4.heap.size]? = some (.cells #[.int .u8 82, .int .u8 65, .int .u8 66, .int .u8 78] 5 (4, 5))) ∧ Aside0 (w'.heap[gb]? = some (.cells #[.int .i64 a0_0, .int .i64 a0_1, .int .i64 a0_2, .int .i64 a0_3, .int .i64 a0_4] 25 (0, 0))) ∧ Aside0 (Below w.heap.size w w'))
 case atStart => exact ⟨b, 0, rfl, rfl, H', ⟨Nat.le_refl _⟩, BY, ⟨blk_alloc BK.out _⟩, ⟨below_alloc HB.out _⟩⟩
 case round =>
  clear H' BY BK HB; obtain ⟨x4, bn, rfl, rfl, HA, HK, BY, BK, HB⟩ := hrel
  cases gk with
  | zero => exact absurd HA.out (by simp [impl_InsOk.l0])
  | succ k1 =>
   have H := HA.out; clear HA; simp only [impl_InsOk.l0] at H
   by_cases c8 : bn < 4
   · rw [if_pos c8] at H
     by_cases c9 : 0 ≤ bn
     · rw [if_pos c9] at H
       replace H := Option.bind_eq_some_iff.mp H; obtain ⟨t, A110, H⟩ := H; have A11 := Aside0.mk A110; replace H := Option.bind_eq_some_iff.mp H; obtain ⟨hh, A120, H⟩ := H; have A12 := Aside0.mk A120; clear A110 A120; have hby := impl_InsOk.byte BY.out bn c9 c8; obtain ⟨hcz_0, hcz_1, hcz_2, hcz_3, hcz_4⟩ := c5e BK; have c8b : decide (bn < (4 : Int)) = true := decide_eq_true c8; have c9b : decide (0 ≤ bn) = true := decide_eq_true c9; replace c8 := eq_true c8; replace c9 := eq_true c9; obtain ⟨q, hq⟩ : ∃ q, q = rd [82, 65, 66, 78] bn := ⟨_, rfl⟩; rw [← hq] at hby A11 A12 H; clear hq
       cases hh with
       | true =>
         by_cases c14 : q = 78
         · have c14b : (q == 78) = true := beq_iff_eq.mpr c14
           rw [if_pos rfl, if_pos c14] at H; clear c14
           cases x4 with
           | true =>
             rw [if_pos rfl] at H; replace H := Option.bind_eq_some_iff.mp H; obtain ⟨t2, A160, H⟩ := H; have A16 := Aside0.mk A160; have H' := Aside0.mk H; clear A160 H
             go_wp2_with (first | (go_at_call 24; (with_reducible refine (impl_partOf.calls a0_0 a0_1 a0_2 a0_3 a0_4 q t _ A11.out).mono ?_); rintro e wA ⟨rfl, hb⟩; replace BY := nblk BY hb; replace BK := nblk BK hb; replace HB := nbs HB hb; clear hb hcz_0 hcz_1 hcz_2 hcz_3 hcz_4; obtain ⟨hcz_0, hcz_1, hcz_2, hcz_3, hcz_4⟩ := c5e BK) | (go_at_call 29; (with_reducible refine (impl_hasPart.calls k1 a0_0 a0_1 a0_2 a0_3 a0_4 q true _ A12.out).mono ?_); rintro e wB ⟨rfl, hb⟩; replace BY := nblk BY hb; replace BK := nblk BK hb; replace HB := nbs HB hb; clear hb) | (go_at_call 30; (with_reducible refine (impl_in.calls t (-128) 127 t2 _ A16.out).mono ?_); rintro e wC ⟨rfl, ⟨nd, rfl⟩⟩))
             go_roundg k1
             case measure => have := HK.out; omega
             case rel => exact ⟨_, _, rfl, rfl, H', ⟨by have := HK.out; omega⟩, ⟨nb BY⟩, ⟨nb BK⟩, ⟨nbe HB⟩⟩
           | false =>
             rw [if_neg (by simp)] at H; have H' := Aside0.mk H; clear H
             go_wp2_with (first | (go_at_call 24; (with_reducible refine (impl_partOf.calls a0_0 a0_1 a0_2 a0_3 a0_4 q t _ A11.out).mono ?_); rintro e wA ⟨rfl, hb⟩; replace BY := nblk BY hb; replace BK := nblk BK hb; replace HB := nbs HB hb; clear hb hcz_0 hcz_1 hcz_2 hcz_3 hcz_4; obtain ⟨hcz_0, hcz_1, hcz_2, hcz_3, hcz_4⟩ := c5e BK) | (go_at_call 29; (with_reducible refine (impl_hasPart.calls k1 a0_0 a0_1 a0_2 a0_3 a0_4 q true _ A12.out).mono ?_); rintro e wB ⟨rfl, hb⟩; replace BY := nblk BY hb; replace BK := nblk BK hb; replace HB := nbs HB hb; clear hb))
             go_roundg k1
             case measure => have := HK.out; omega
             case rel => exact ⟨_, _, rfl, rfl, H', ⟨by have := HK.out; omega⟩, ⟨nb BY⟩, ⟨nb BK⟩, ⟨nbe HB⟩⟩
         · have c14b : (q == 78) = false := beq_eq_false_iff_ne.mpr c14
           rw [if_pos rfl, if_neg c14] at H; clear c14
           cases x4 with
           | true =>
             rw [if_pos rfl] at H; replace H := Option.bind_eq_some_iff.mp H; obtain ⟨t2, A160, H⟩ := H; have A16 := Aside0.mk A160; have H' := Aside0.mk H; clear A160 H
             go_wp2_with (first | (go_at_call 24; (with_reducible refine (impl_partOf.calls a0_0 a0_1 a0_2 a0_3 a0_4 q t _ A11.out).mono ?_); rintro e wA ⟨rfl, hb⟩; replace BY := nblk BY hb; replace BK := nblk BK hb; replace HB := nbs HB hb; clear hb hcz_0 hcz_1 hcz_2 hcz_3 hcz_4; obtain ⟨hcz_0, hcz_1, hcz_2, hcz_3, hcz_4⟩ := c5e BK) | (go_at_call 29; (with_reducible refine (impl_hasPart.calls k1 a0_0 a0_1 a0_2 a0_3 a0_4 q true _ A12.out).mono ?_); rintro e wB ⟨rfl, hb⟩; replace BY := nblk BY hb; replace BK := nblk BK hb; replace HB := nbs HB hb; clear hb) | (go_at_call 30; (with_reducible refine (impl_in.calls t 0 7 t2 _ A16.out).mono ?_); rintro e wC ⟨rfl, ⟨nd, rfl⟩⟩))
             go_roundg k1
             case measure => have := HK.out; omega
             case rel => exact ⟨_, _, rfl, rfl, H', ⟨by have := HK.out; omega⟩, ⟨nb BY⟩, ⟨nb BK⟩, ⟨nbe HB⟩⟩
           | false =>
             rw [if_neg (by simp)] at H; have H' := Aside0.mk H; clear H
             go_wp2_with (first | (go_at_call 24; (with_reducible refine (impl_partOf.calls a0_0 a0_1 a0_2 a0_3 a0_4 q t _ A11.out).mono ?_); rintro e wA ⟨rfl, hb⟩; replace BY := nblk BY hb; replace BK := nblk BK hb; replace HB := nbs HB hb; clear hb hcz_0 hcz_1 hcz_2 hcz_3 hcz_4; obtain ⟨hcz_0, hcz_1, hcz_2, hcz_3, hcz_4⟩ := c5e BK) | (go_at_call 29; (with_reducible refine (impl_hasPart.calls k1 a0_0 a0_1 a0_2 a0_3 a0_4 q true _ A12.out).mono ?_); rintro e wB ⟨rfl, hb⟩; replace BY := nblk BY hb; replace BK := nblk BK hb; replace HB := nbs HB hb; clear hb))
             go_roundg k1
             case measure => have := HK.out; omega
             case rel => exact ⟨_, _, rfl, rfl, H', ⟨by have := HK.out; omega⟩, ⟨nb BY⟩, ⟨nb BK⟩, ⟨nbe HB⟩⟩
       | false =>
         rw [if_neg (by simp)] at H
         cases x4 with
         | true =>
           rw [if_pos rfl] at H; have H' := Aside0.mk H; clear H
           go_wp2_with (first | (go_at_call 24; (with_reducible refine (impl_partOf.calls a0_0 a0_1 a0_2 a0_3 a0_4 q t _ A11.out).mono ?_); rintro e wA ⟨rfl, hb⟩; replace BY := nblk BY hb; replace BK := nblk BK hb; replace HB := nbs HB hb; clear hb hcz_0 hcz_1 hcz_2 hcz_3 hcz_4; obtain ⟨hcz_0, hcz_1, hcz_2, hcz_3, hcz_4⟩ := c5e BK) | (go_at_call 29; (with_reducible refine (impl_hasPart.calls k1 a0_0 a0_1 a0_2 a0_3 a0_4 q false _ A12.out).mono ?_); rintro e wB ⟨rfl, hb⟩; replace BY := nblk BY hb; replace BK := nblk BK hb; replace HB := nbs HB hb; clear hb))
           go_roundg k1
           case measure => have := HK.out; omega
           case rel => exact ⟨_, _, rfl, rfl, H', ⟨by have := HK.out; omega⟩, ⟨nb BY⟩, ⟨nb BK⟩, ⟨nbe HB⟩⟩
         | false =>
           rw [if_neg (by simp)] at H; have H' := Aside0.mk H; clear H
           go_wp2_with (first | (go_at_call 24; (with_reducible refine (impl_partOf.calls a0_0 a0_1 a0_2 a0_3 a0_4 q t _ A11.out).mono ?_); rintro e wA ⟨rfl, hb⟩; replace BY := nblk BY hb; replace BK := nblk BK hb; replace HB := nbs HB hb; clear hb hcz_0 hcz_1 hcz_2 hcz_3 hcz_4; obtain ⟨hcz_0, hcz_1, hcz_2, hcz_3, hcz_4⟩ := c5e BK) | (go_at_call 29; (with_reducible refine (impl_hasPart.calls k1 a0_0 a0_1 a0_2 a0_3 a0_4 q false _ A12.out).mono ?_); rintro e wB ⟨rfl, hb⟩; replace BY := nblk BY hb; replace BK := nblk BK hb; replace HB := nbs HB hb; clear hb))
           go_roundg k1
           case measure => have := HK.out; omega
           case rel => exact ⟨_, _, rfl, rfl, H', ⟨by have := HK.out; omega⟩, ⟨nb BY⟩, ⟨nb BK⟩, ⟨nbe HB⟩⟩
     · rw [if_neg c9] at H
       exact absurd H (by simp)
   · rw [if_neg c8] at H
     obtain rfl : x4 = r := by simpa using H
     clear H; have c8b : decide (bn < (4 : Int)) = false := decide_eq_false c8; go_wp2
     go_ret
     exact ⟨rfl, HB.out⟩

/-! ### impl_opNames: function 21 -/
def impl_opNames.f  : Option (List ByteArray) := some (([(⟨#[]⟩ : ByteArray), (⟨#[115, 101, 116]⟩ : ByteArray), (⟨#[97, 100, 100]⟩ : ByteArray), (⟨#[109, 111, 118, 101]⟩ : ByteArray), (⟨#[119, 101, 97, 107]⟩ : ByteArray), (⟨#[98, 111, 117, 110, 100]⟩ : ByteArray), (⟨#[112, 111, 105, 110, 116]⟩ : ByteArray), (⟨#[115, 101, 97, 108]⟩ : ByteArray), (⟨#[111, 112, 101, 110]⟩ : ByteArray), (⟨#[105, 115]⟩ : ByteArray), (⟨#[108, 111, 97, 100]⟩ : ByteArray), (⟨#[115, 116, 111, 114, 101]⟩ : ByteArray), (⟨#[106, 117, 109, 112]⟩ : ByteArray), (⟨#[122, 101, 114, 111]⟩ : ByteArray), (⟨#[103, 111, 110, 101]⟩ : ByteArray), (⟨#[104, 97, 108, 116]⟩ : ByteArray)] : List ByteArray))
set_option maxHeartbeats 8000000 in
set_option maxRecDepth 100000 in
theorem impl_opNames.calls  (r : List ByteArray) (w : World) (h : impl_opNames.f  = some r) :
    Calls Tryz.prog 21 #[] w fun e w' => ∃ v0_ : Value, e = .returned (v0_) ∧ Kd.R Kd.string 9 w' w.heap.size (fun _ => True) v0_ r ∧ Below w.heap.size w w' := by
  have HB := Aside0.mk (Below.refl w.heap.size w); have H : (some (([(⟨#[]⟩ : ByteArray), (⟨#[115, 101, 116]⟩ : ByteArray), (⟨#[97, 100, 100]⟩ : ByteArray), (⟨#[109, 111, 118, 101]⟩ : ByteArray), (⟨#[119, 101, 97, 107]⟩ : ByteArray), (⟨#[98, 111, 117, 110, 100]⟩ : ByteArray), (⟨#[112, 111, 105, 110, 116]⟩ : ByteArray), (⟨#[115, 101, 97, 108]⟩ : ByteArray), (⟨#[111, 112, 101, 110]⟩ : ByteArray), (⟨#[105, 115]⟩ : ByteArray), (⟨#[108, 111, 97, 100]⟩ : ByteArray), (⟨#[115, 116, 111, 114, 101]⟩ : ByteArray), (⟨#[106, 117, 109, 112]⟩ : ByteArray), (⟨#[122, 101, 114, 111]⟩ : ByteArray), (⟨#[103, 111, 110, 101]⟩ : ByteArray), (⟨#[104, 97, 108, 116]⟩ : ByteArray)] : List ByteArray))) = some r := h; clear h; obtain ⟨b0, bL⟩ : ∃ y_ : List ByteArray, y_ = (([(⟨#[]⟩ : ByteArray), (⟨#[115, 101, 116]⟩ : ByteArray), (⟨#[97, 100, 100]⟩ : ByteArray), (⟨#[109, 111, 118, 101]⟩ : ByteArray), (⟨#[119, 101, 97, 107]⟩ : ByteArray), (⟨#[98, 111, 117, 110, 100]⟩ : ByteArray), (⟨#[112, 111, 105, 110, 116]⟩ : ByteArray), (⟨#[115, 101, 97, 108]⟩ : ByteArray), (⟨#[111, 112, 101, 110]⟩ : ByteArray), (⟨#[105, 115]⟩ : ByteArray), (⟨#[108, 111, 97, 100]⟩ : ByteArray), (⟨#[115, 116, 111, 114, 101]⟩ : ByteArray), (⟨#[106, 117, 109, 112]⟩ : ByteArray), (⟨#[122, 101, 114, 111]⟩ : ByteArray), (⟨#[103, 111, 110, 101]⟩ : ByteArray), (⟨#[104, 97, 108, 116]⟩ : ByteArray)] : List ByteArray)) := ⟨_, rfl⟩; replace H : (some b0) = some r := by first | (rw [bL]; with_reducible exact H) | (have H2_ := (Option.bind_some _ _).symm.trans H; rw [bL]; with_reducible exact H2_) | (have H2_ := (Option.bind_some _ _).symm.trans H; with_reducible exact H2_) | with_reducible exact H | (rw [bL]; exact H) | exact H
  have bS := Aside0.mk bL; clear bL; obtain rfl := Option.some.inj H
  go_enter Tryz.func21, Tryz.ntmps21
  go_wp2_with (first | ((with_reducible refine gate_dst (N := 1) rfl ?_); refine Kd.R_lit Kd.string _ 9 ?hg (N := 1) ?hd (xs := ([(⟨#[]⟩ : ByteArray), (⟨#[115, 101, 116]⟩ : ByteArray), (⟨#[97, 100, 100]⟩ : ByteArray), (⟨#[109, 111, 118, 101]⟩ : ByteArray), (⟨#[119, 101, 97, 107]⟩ : ByteArray), (⟨#[98, 111, 117, 110, 100]⟩ : ByteArray), (⟨#[112, 111, 105, 110, 116]⟩ : ByteArray), (⟨#[115, 101, 97, 108]⟩ : ByteArray), (⟨#[111, 112, 101, 110]⟩ : ByteArray), (⟨#[105, 115]⟩ : ByteArray), (⟨#[108, 111, 97, 100]⟩ : ByteArray), (⟨#[115, 116, 111, 114, 101]⟩ : ByteArray), (⟨#[106, 117, 109, 112]⟩ : ByteArray), (⟨#[122, 101, 114, 111]⟩ : ByteArray), (⟨#[103, 111, 110, 101]⟩ : ByteArray), (⟨#[104, 97, 108, 116]⟩ : ByteArray)] : List ByteArray)) (inner := [.string (⟨#[]⟩ : ByteArray), .string (⟨#[115, 101, 116]⟩ : ByteArray), .string (⟨#[97, 100, 100]⟩ : ByteArray), .string (⟨#[109, 111, 118, 101]⟩ : ByteArray), .string (⟨#[119, 101, 97, 107]⟩ : ByteArray), .string (⟨#[98, 111, 117, 110, 100]⟩ : ByteArray), .string (⟨#[112, 111, 105, 110, 116]⟩ : ByteArray), .string (⟨#[115, 101, 97, 108]⟩ : ByteArray), .string (⟨#[111, 112, 101, 110]⟩ : ByteArray), .string (⟨#[105, 115]⟩ : ByteArray), .string (⟨#[108, 111, 97, 100]⟩ : ByteArray), .string (⟨#[115, 116, 111, 114, 101]⟩ : ByteArray), .string (⟨#[106, 117, 109, 112]⟩ : ByteArray), .string (⟨#[122, 101, 114, 111]⟩ : ByteArray), .string (⟨#[103, 111, 110, 101]⟩ : ByteArray), .string (⟨#[104, 97, 108, 116]⟩ : ByteArray)]) (ok := fun _ => True) (okp := fun _ => True) ?hr ?hp (fun _ hk => hk) trivial (Below.refl _ _) (Nat.le_refl _) (by simp) ?_; (case hd => rfl); (case hg => rfl); (case hr => first | (go_simp; done) | (go_simp; rfl)); (case hp => exact (Reps.one (show Kd.M Kd.string _ _ _ (⟨#[]⟩ : ByteArray) [.string (⟨#[]⟩ : ByteArray)] from rfl) (Reps.one (show Kd.M Kd.string _ _ _ (⟨#[115, 101, 116]⟩ : ByteArray) [.string (⟨#[115, 101, 116]⟩ : ByteArray)] from rfl) (Reps.one (show Kd.M Kd.string _ _ _ (⟨#[97, 100, 100]⟩ : ByteArray) [.string (⟨#[97, 100, 100]⟩ : ByteArray)] from rfl) (Reps.one (show Kd.M Kd.string _ _ _ (⟨#[109, 111, 118, 101]⟩ : ByteArray) [.string (⟨#[109, 111, 118, 101]⟩ : ByteArray)] from rfl) (Reps.one (show Kd.M Kd.string _ _ _ (⟨#[119, 101, 97, 107]⟩ : ByteArray) [.string (⟨#[119, 101, 97, 107]⟩ : ByteArray)] from rfl) (Reps.one (show Kd.M Kd.string _ _ _ (⟨#[98, 111, 117, 110, 100]⟩ : ByteArray) [.string (⟨#[98, 111, 117, 110, 100]⟩ : ByteArray)] from rfl) (Reps.one (show Kd.M Kd.string _ _ _ (⟨#[112, 111, 105, 110, 116]⟩ : ByteArray) [.string (⟨#[112, 111, 105, 110, 116]⟩ : ByteArray)] from rfl) (Reps.one (show Kd.M Kd.string _ _ _ (⟨#[115, 101, 97, 108]⟩ : ByteArray) [.string (⟨#[115, 101, 97, 108]⟩ : ByteArray)] from rfl) (Reps.one (show Kd.M Kd.string _ _ _ (⟨#[111, 112, 101, 110]⟩ : ByteArray) [.string (⟨#[111, 112, 101, 110]⟩ : ByteArray)] from rfl) (Reps.one (show Kd.M Kd.string _ _ _ (⟨#[105, 115]⟩ : ByteArray) [.string (⟨#[105, 115]⟩ : ByteArray)] from rfl) (Reps.one (show Kd.M Kd.string _ _ _ (⟨#[108, 111, 97, 100]⟩ : ByteArray) [.string (⟨#[108, 111, 97, 100]⟩ : ByteArray)] from rfl) (Reps.one (show Kd.M Kd.string _ _ _ (⟨#[115, 116, 111, 114, 101]⟩ : ByteArray) [.string (⟨#[115, 116, 111, 114, 101]⟩ : ByteArray)] from rfl) (Reps.one (show Kd.M Kd.string _ _ _ (⟨#[106, 117, 109, 112]⟩ : ByteArray) [.string (⟨#[106, 117, 109, 112]⟩ : ByteArray)] from rfl) (Reps.one (show Kd.M Kd.string _ _ _ (⟨#[122, 101, 114, 111]⟩ : ByteArray) [.string (⟨#[122, 101, 114, 111]⟩ : ByteArray)] from rfl) (Reps.one (show Kd.M Kd.string _ _ _ (⟨#[103, 111, 110, 101]⟩ : ByteArray) [.string (⟨#[103, 111, 110, 101]⟩ : ByteArray)] from rfl) (Reps.one (show Kd.M Kd.string _ _ _ (⟨#[104, 97, 108, 116]⟩ : ByteArray) [.string (⟨#[104, 97, 108, 116]⟩ : ByteArray)] from rfl) (Reps.none _ _)))))))))))))))))); intro b8 w1 bl hb hg_ hnew_; clear hg_ hnew_; (first | rw [← bS.out] at bl | (simp only [Int.reduceToNat] at bl; rw [← bS.out] at bl)); have b1 := Aside0.mk (Kd.R_lower bl (bsz HB)); replace HB := nbs HB hb; clear hb bl))
  go_ret
  exact ⟨_, er_, by (with_reducible repeat (first | apply Kd.R_alloc | apply Kd.R_drewN | apply Kd.R_drew)); exact b1.out, nbe HB⟩

-- NOT PRINTED: function 75 (strconv_small)

-- NOT PRINTED: function 89 (strconv_log10Pow2)

-- NOT PRINTED: function 90 (bits_Len64)

-- NOT PRINTED: function 91 (strconv_bool2_int)

-- NOT PRINTED: function 76 (strconv_numDigits)

-- NOT PRINTED: function 77 (strconv_formatBase10)

-- NOT PRINTED: function 92 (strconv_isPowerOfTwo)

-- NOT PRINTED: function 99 (bits_TrailingZeros32)

-- NOT PRINTED: function 100 (bits_TrailingZeros64)

-- NOT PRINTED: function 93 (bits_TrailingZeros)

-- NOT PRINTED: function 78 (strconv_formatBits)

-- NOT PRINTED: function 62 (strconv_FormatInt)

-- NOT PRINTED: function 49 (strconv_Itoa_49)

/-! ### what the shelf's contracts ask of the world's variables -/
def TabW (w : World) : Prop := Lib.TabIs Tryz.prog w "internal/strconv.uint64pow10" .u64 Lib.pow10Tab ∧ (∃ m, w.cell? ⟨2, 0, none⟩ = some (.int .i64 m)) ∧ (∃ t p, w.var? Tryz.prog "strconv.ErrSyntax" = some #[.iface t p]) ∧ (∃ t p, w.var? Tryz.prog "strconv.ErrRange" = some #[.iface t p])
theorem tabW_below {w W : World} (h : TabW w) (hb : Below w.heap.size w W) : TabW W := by
  obtain ⟨h1, ⟨m, h2⟩, ⟨t, p, h3⟩, ⟨t', p', h4⟩⟩ := h; have g1 : Tryz.prog.globalNamed "internal/strconv.uint64pow10" = some 3 := by kernel_rfl
  have g3 : Tryz.prog.globalNamed "strconv.ErrSyntax" = some 0 := by kernel_rfl
  have g4 : Tryz.prog.globalNamed "strconv.ErrRange" = some 1 := by kernel_rfl
  exact ⟨Go.Joins.tab_stays g1 h1 hb (Nat.le_refl _), ⟨m, (hb.cell (World.block_lt_of_cell? _ _ h2)).trans h2⟩, ⟨t, p, Go.Joins.var_stays g3 h3 hb (Nat.le_refl _)⟩, ⟨t', p', Go.Joins.var_stays g4 h4 hb (Nat.le_refl _)⟩⟩
theorem nT {w W' W : World} (H : Aside0 (TabW w)) (HB : Aside0 (Below w.heap.size w W')) (h : Below w.heap.size w W := by repeat (first | (with_reducible first | exact Aside0.out (by assumption) | apply below_alloc | apply pw_below_drewN | apply below_drew1 | refine below_set ?_ (Aside0.out (by assumption))) | exact Aside0.out (by assumption))) : TabW W := tabW_below H.out h
/-! ### strconv_Itoa: function 23, by the shelf's contract -/
theorem strconv_Itoa.grown (w : World) (k : Nat) (os : Array Obj) : Below w.heap.size w (Go.Sort.grow (w.drewN k) os) := ⟨rfl, rfl, rfl, by first | (simp [Go.Sort.grow]; done) | (simp [Go.Sort.grow]; omega), fun i hi => by
  show ((w.drewN k).heap ++ os)[i]? = _; rw [Array.getElem?_append_left (by show i < w.heap.size; omega)]
  rfl⟩
def strconv_Itoa.f (n : Int) : Option ByteArray := if -9223372036854775808 ≤ n then (if n ≤ 9223372036854775807 then some ⟨(Lib.itoa n).toArray⟩ else none) else none
theorem strconv_Itoa.calls (n : Int) (r : ByteArray) (w : World) (h : strconv_Itoa.f n = some r) (hT_ : TabW w) :
  Calls Tryz.prog 23 #[.int .i64 n] w fun e w' => e = .returned (.string r) ∧ Below w.heap.size w w' := by
 unfold strconv_Itoa.f at h
 by_cases h0 : -9223372036854775808 ≤ n
 · rw [if_pos h0] at h
   by_cases h1 : n ≤ 9223372036854775807
   · rw [if_pos h1] at h
     obtain rfl := Option.some.inj h; refine (Tryz.strconv_Itoa n h0 h1 w hT_.1).mono ?_; rintro e w' ⟨rfl, k, os, rfl⟩; exact ⟨rfl, strconv_Itoa.grown w k os⟩
   · rw [if_neg h1] at h
     exact absurd h (by simp)
 · rw [if_neg h0] at h
   exact absurd h (by simp)

/-! ### impl_InsText: function 6 -/
def impl_InsText.l0 : Nat → ByteArray → ByteArray → Int → Int → Int → Int → Int → Int → Option (ByteArray)
  | 0, _, _, _, _, _, _, _, _ => none
  | k + 1, fm, x, i, op, r, a, b, n => if i < (fm.size : Int) then (if 0 ≤ i then ((impl_partOf.f op r a b n (rd (bytesOf fm) i)).bind fun t => ((strconv_Itoa.f t).bind fun s => (if (rd (bytesOf fm) i) = 78 then (if x.size + 1 ≤ 9223372036854775807 then (if (x ++ (⟨#[32]⟩ : ByteArray)).size + s.size ≤ 9223372036854775807 then (impl_InsText.l0 k fm ((x ++ (⟨#[32]⟩ : ByteArray)) ++ s) (wrap64 (i + 1)) op r a b n) else none) else none) else (if x.size + 1 ≤ 9223372036854775807 then (if (x ++ (⟨#[32]⟩ : ByteArray)).size + 1 ≤ 9223372036854775807 then (if ((x ++ (⟨#[32]⟩ : ByteArray)) ++ (⟨#[114]⟩ : ByteArray)).size + s.size ≤ 9223372036854775807 then (impl_InsText.l0 k fm (((x ++ (⟨#[32]⟩ : ByteArray)) ++ (⟨#[114]⟩ : ByteArray)) ++ s) (wrap64 (i + 1)) op r a b n) else none) else none) else none)))) else none) else some x
def impl_InsText.f (k : Nat) (a0_0 : Int) (a0_1 : Int) (a0_2 : Int) (a0_3 : Int) (a0_4 : Int) : Option (ByteArray) := (impl_InsOk.f k a0_0 a0_1 a0_2 a0_3 a0_4).bind fun bo => (if bo = true then ((impl_opNames.f).bind fun bc => (if 0 ≤ a0_0 then (if a0_0 < (bc.length : Int) then ((impl_formOf.f k a0_0).bind fun bt => (if bt.1.size ≤ 9223372036854775807 then (impl_InsText.l0 k bt.1 (rdOf ByteArray.empty bc a0_0) 0 a0_0 a0_1 a0_2 a0_3 a0_4) else none)) else none) else none)) else (some (⟨#[]⟩ : ByteArray)))
theorem impl_InsText.mono_l : ∀ k, (∀ y0 y1 y2 y3 y4 y5 y6 y7, LeO (impl_InsText.l0 k y0 y1 y2 y3 y4 y5 y6 y7) (impl_InsText.l0 (k + 1) y0 y1 y2 y3 y4 y5 y6 y7))
  | 0 => fun _ _ _ _ _ _ _ _ r h => by simp [impl_InsText.l0] at h
  | k + 1 => by
    have ih0 := impl_InsText.mono_l k
    · intro y0 y1 y2 y3 y4 y5 y6 y7
      unfold impl_InsText.l0
      repeat' first
      | (with_reducible exact ih0 _ _ _ _ _ _ _ _)
      | (with_reducible exact impl_InsOk.mono _ _ _ _ _ _)
      | (with_reducible exact impl_formOf.mono _ _)
      | (with_reducible exact LeO.refl _)
      | (with_reducible exact LeO.none _)
      | (with_reducible refine LeO.ite ?_ ?_)
      | (with_reducible refine LeO.bind ?_ (fun _ => ?_))
      | exact ih0 _ _ _ _ _ _ _ _
      | exact impl_InsOk.mono _ _ _ _ _ _
      | exact impl_formOf.mono _ _
      | exact LeO.none _
      | refine LeO.ite ?_ ?_
      | refine LeO.bind ?_ (fun _ => ?_)
theorem impl_InsText.mono : ∀ a0 a1 a2 a3 a4 k, LeO (impl_InsText.f k a0 a1 a2 a3 a4) (impl_InsText.f (k + 1) a0 a1 a2 a3 a4) := by
  intro a0 a1 a2 a3 a4 k; have ih0 := impl_InsText.mono_l k
  unfold impl_InsText.f
  repeat' first
      | (with_reducible exact ih0 _ _ _ _ _ _ _ _)
      | (with_reducible exact impl_InsOk.mono _ _ _ _ _ _)
      | (with_reducible exact impl_formOf.mono _ _)
      | (with_reducible exact LeO.refl _)
      | (with_reducible exact LeO.none _)
      | (with_reducible refine LeO.ite ?_ ?_)
      | (with_reducible refine LeO.bind ?_ (fun _ => ?_))
      | exact ih0 _ _ _ _ _ _ _ _
      | exact impl_InsOk.mono _ _ _ _ _ _
      | exact impl_formOf.mono _ _
      | exact LeO.none _
      | refine LeO.ite ?_ ?_
      | refine LeO.bind ?_ (fun _ => ?_)
theorem impl_InsText.byte {W : World} {g : Nat} {cs : Array Value} {fr : Nat × Nat} (h : W.heap[g]? = some (.cells cs 5 fr)) (s : ByteArray) (hc : ∀ j, j < s.size → cs[j]? = some (.int .u8 (s.data.toList.getD j 0).toNat)) (i : Int) (h0 : 0 ≤ i) (h1 : i < (s.size : Int)) : W.cell? ⟨g, i.toNat, none⟩ = some (.int .u8 (rd (bytesOf s) i)) := by
  have h2 : i.toNat < s.size := by omega
  have h3 := hc i.toNat h2
  have h4 : rd (bytesOf s) i = ((s.data.toList.getD i.toNat 0).toNat : Int) := by
    have hl : i.toNat < s.data.toList.length := by rw [data_length]; exact h2
    unfold rd bytesOf
    rw [List.getD_eq_getElem?_getD, List.getD_eq_getElem?_getD, List.getElem?_map, List.getElem?_eq_getElem hl]; rfl
  rw [h4]
  simp [World.cell?, h, h3]
theorem impl_InsText.row (W : World) (s : ByteArray) : ∃ (cs : Array Value) (fr : Nat × Nat), (Lib.bytesWorld W 5 s).heap[W.heap.size]? = some (.cells cs 5 fr) ∧ ∀ j, j < s.size → cs[j]? = some (.int .u8 (s.data.toList.getD j 0).toNat) := by
  refine ⟨_, _, Lib.bytesWorld_at_new W 5 s, fun j hj => ?_⟩; have h := Lib.bytesWorld_cell W 5 s j hj
  simpa [World.cell?, Lib.bytesWorld_at_new] using h
set_option maxHeartbeats 8000000 in
set_option maxRecDepth 100000 in
theorem impl_InsText.calls (k : Nat) (a0_0 : Int) (a0_1 : Int) (a0_2 : Int) (a0_3 : Int) (a0_4 : Int) (r : ByteArray) (w : World) (h : impl_InsText.f k a0_0 a0_1 a0_2 a0_3 a0_4 = some r) (hT_ : TabW w) :
  Calls Tryz.prog 6 #[.agg #[.int .i64 a0_0, .int .i64 a0_1, .int .i64 a0_2, .int .i64 a0_3, .int .i64 a0_4]] w fun e w' => e = .returned (.string r) ∧ Below w.heap.size w w' := by
 have HT := Aside0.mk hT_; clear hT_; have hu25 := Tryz.underlying25; have HB := Aside0.mk (Below.refl w.heap.size w); obtain ⟨bo, A20, H⟩ := Option.bind_eq_some_iff.mp h; clear h; have A2 := Aside0.mk A20; clear A20; replace H : (if bo = true then ((impl_opNames.f).bind fun bc => (if 0 ≤ a0_0 then (if a0_0 < (bc.length : Int) then ((impl_formOf.f k a0_0).bind fun bt => (if bt.1.size ≤ 9223372036854775807 then (impl_InsText.l0 k bt.1 (rdOf ByteArray.empty bc a0_0) 0 a0_0 a0_1 a0_2 a0_3 a0_4) else none)) else none) else none)) else (some (⟨#[]⟩ : ByteArray))) = some r := H
 cases bo with
 | false =>
  rw [if_neg (by simp)] at H; obtain rfl := Option.some.inj H
  go_enter Tryz.func6, Tryz.ntmps6
  go_wp2_with (first | ((with_reducible refine gate_dst (N := 1) rfl ?_); refine bxe 1 #[.int .i64 a0_0, .int .i64 a0_1, .int .i64 a0_2, .int .i64 a0_3, .int .i64 a0_4] 25 ?_; intro bm hg w9 hbox hb; have ba := hbox; replace HB := nbs HB hb; clear hb hbox hg; obtain ⟨bw, bx, bz, bA, bB⟩ := c5e ba; obtain ⟨bC, bD, bE, bF, bG⟩ := z5_ ba) | (go_at_call 8; (with_reducible refine (impl_InsOk.calls k a0_0 a0_1 a0_2 a0_3 a0_4 false _ A2.out).mono ?_); rintro e dw ⟨rfl, hb⟩; replace ba := nblk ba hb; replace HB := nbs HB hb; (try clear hb)))
  go_ret
  exact ⟨er_, nbe HB⟩
 | true =>
  rw [if_pos rfl] at H; obtain ⟨bc, A50, H⟩ := Option.bind_eq_some_iff.mp H; have A5 := Aside0.mk A50; clear A50
  by_cases c6 : 0 ≤ a0_0
  · rw [if_pos c6] at H
    have c6b0 : decide (0 ≤ a0_0) = true := decide_eq_true c6; clear c6
    by_cases c7 : a0_0 < (bc.length : Int)
    · rw [if_pos c7] at H
      have c7b0 : decide (a0_0 < (bc.length : Int)) = true := decide_eq_true c7; clear c7; obtain ⟨⟨fm, fb⟩, A80, H⟩ := Option.bind_eq_some_iff.mp H; have A8 := Aside0.mk A80; clear A80; replace H : (if fm.size ≤ 9223372036854775807 then (impl_InsText.l0 k fm (rdOf ByteArray.empty bc a0_0) 0 a0_0 a0_1 a0_2 a0_3 a0_4) else none) = some r := H
      by_cases hs : fm.size ≤ 9223372036854775807
      · rw [if_pos hs] at H
        have H' := Aside0.mk H; clear H; have kb := fun (W : World) => print_bytes (P := Tryz.prog) 9 22 5 Tryz.underlying9 Tryz.underlying22 Tryz.underlying5 fm W
        go_enter Tryz.func6, Tryz.ntmps6
        try go_wp2_with (first | ((with_reducible refine gate_dst (N := 1) rfl ?_); refine bxe 1 #[.int .i64 a0_0, .int .i64 a0_1, .int .i64 a0_2, .int .i64 a0_3, .int .i64 a0_4] 25 ?_; intro bm hg w9 hbox hb; have ba := hbox; replace HB := nbs HB hb; clear hb hbox hg; obtain ⟨bw, bx, bz, bA, bB⟩ := c5e ba; obtain ⟨bC, bD, bE, bF, bG⟩ := z5_ ba) | (go_at_call 8; (with_reducible refine (impl_InsOk.calls k a0_0 a0_1 a0_2 a0_3 a0_4 true _ A2.out).mono ?_); rintro e da ⟨rfl, hb⟩; replace ba := nblk ba hb; replace HB := nbs HB hb; (try clear hb)))
        replace ba := Aside0.mk (blk_drew ba.out); replace HB := Aside0.mk (below_drew1 HB.out); refine start_ (n := 6) (S := fun w' => w'.cell? ⟨bm, 0, none⟩ = some (.int .i64 a0_0) ∧ w'.cell? ⟨bm, 1, none⟩ = some (.int .i64 a0_1) ∧ w'.cell? ⟨bm, 2, none⟩ = some (.int .i64 a0_2) ∧ w'.cell? ⟨bm, 3, none⟩ = some (.int .i64 a0_3) ∧ w'.cell? ⟨bm, 4, none⟩ = some (.int .i64 a0_4)) (ds := []) #[false, false, false, false, false, false] (by kernel_rfl) rfl rfl ⟨(blk_cell ba.out 0).trans rfl, (blk_cell ba.out 1).trans rfl, (blk_cell ba.out 2).trans rfl, (blk_cell ba.out 3).trans rfl, (blk_cell ba.out 4).trans rfl⟩ (fun hHeld => ?_); generalize da.drew = dx at ba HB hHeld ⊢; refine rPk 1 12 #[false, true, false, false, false, false] ?_; refine rTk hHeld 2 13 #[false, true, true, false, false, false] ?_; refine one_ (i := 0) (N := some 11) #[true, true, true, false, false, false] rfl rfl (by kernel_rfl) (by decide) (fun K hK => ?_); refine goesR Tryz.func21 (by kernel_rfl) rfl #[] (by rfl) rfl rfl ?_; (with_reducible refine (impl_opNames.calls bc _ A5.out).mono ?_); rintro e dy ⟨dz, rfl, bT, hb⟩; refine ⟨_, rfl, ?_⟩; have bs := Aside0.mk (Kd.R_lower bT (bsz HB)); replace ba := nblk ba hb; replace HB := nbs HB hb; (try clear hb); (try clear bT); obtain ⟨dA, dB, bU⟩ := Kd.R_slice bs.out; (first | subst bU | (injection bU with f1_ f2_ f3_; have f4_ := f1_.symm; have f5_ := f3_.symm; clear f1_ f2_ f3_; subst f4_; subst f5_)); have p129 : 0 ≤ (a0_0 : Int) := of_decide_eq_true (by first | (with_reducible assumption) | assumption); have q129 : a0_0 < (bc.length : Int) := of_decide_eq_true (by first | (with_reducible assumption) | assumption); obtain ⟨db, e129, bH⟩ := Kd.at_string (Kd.R_reads' bs.out).2.2 a0_0 p129 q129
        cases e129
        replace p129 := eq_true p129; replace q129 := eq_true q129; refine hK.out _ _ ⟨(blk_cell ba.out 0).trans rfl, (blk_cell ba.out 1).trans rfl, (blk_cell ba.out 2).trans rfl, (blk_cell ba.out 3).trans rfl, (blk_cell ba.out 4).trans rfl⟩ (fun hHeld => ?_); clear hK K; refine norm_ (a' := ?_) ?_ ?_; rotate_left
        · show Act.put _ (some 11) _ = _
          simp only [Act.put, List.setIfInBounds_toArray, List.set_cons_zero, List.set_cons_succ, i64_w, i32_w]; rfl
        refine rPk 3 14 #[true, true, true, true, false, false] ?_; refine one_ (i := 4) (N := some 15) #[true, true, true, true, true, false] rfl rfl (by kernel_rfl) (by decide) (fun K hK => ?_); refine ev_step (v := .string (rdOf ByteArray.empty bc a0_0)) (w1 := dy) ?hw ?hrun ?_; (case hw => rfl); (case hrun => go_simp; try rfl)
        refine hK.out _ _ ⟨(blk_cell ba.out 0).trans rfl, (blk_cell ba.out 1).trans rfl, (blk_cell ba.out 2).trans rfl, (blk_cell ba.out 3).trans rfl, (blk_cell ba.out 4).trans rfl⟩ (fun hHeld => ?_); clear hK K; refine norm_ (a' := ?_) ?_ ?_; rotate_left
        · show Act.put _ (some 15) _ = _
          simp only [Act.put, List.setIfInBounds_toArray, List.set_cons_zero, List.set_cons_succ, i64_w, i32_w]; rfl
        refine rPk 5 3 #[true, true, true, true, true, true] ?_; refine done_ (by kernel_rfl) ?_; obtain ⟨hcz_0, hcz_1, hcz_2, hcz_3, hcz_4⟩ := c5e ba
        go_wp2_with (first | (go_at_call 22; (with_reducible refine (impl_formOf.calls k a0_0 fm fb _ A8.out).mono ?_); rintro e w4 ⟨rfl, hd⟩; have hb := hd.below; replace ba := nblk ba hb; replace HB := nbs HB hb; clear hb hd hcz_0 hcz_1 hcz_2 hcz_3 hcz_4))
        obtain ⟨cs, fr, bV, b2⟩ := impl_InsText.row w4 fm; have BY := Aside0.mk bV; clear bV; have hgm : bm < w4.heap.size := blk_lt ba.out; have BK : Aside0 ((Lib.bytesWorld w4 5 fm).heap[bm]? = some (.cells #[.int .i64 a0_0, .int .i64 a0_1, .int .i64 a0_2, .int .i64 a0_3, .int .i64 a0_4] 25 (0, 0))) := ⟨(Lib.bytesWorld_at_old w4 5 fm bm hgm).trans ba.out⟩; have HB2 : Aside0 (Below w.heap.size w (Lib.bytesWorld w4 5 fm)) := ⟨bytes_below HB.out (below_size HB.out) _ _⟩; clear HB ba hgm kb
        go_loopg [3, 25] k (fun kq v3 b3 w' => ∃ (x3 : ByteArray) (bp : Int), v3 = .string x3 ∧ b3 = .int .i64 bp ∧ Aside0 (impl_InsText.l0 kq fm x3 bp a0_0 a0_1 a0_2 a0_3 a0_4 = some r) ∧ Aside0 (kq ≤ k) ∧ Aside0 (w'.heap[w4.heap.size]? = some (.cells cs 5 fr)) ∧ Aside0 (w'.heap[bm]? = some (.cells #[.int .i64 a0_0, .int .i64 a0_1, .int .i64 a0_2, .int .i64 a0_3, .int .i64 a0_4] 25 (0, 0))) ∧ Aside0 (Below w.heap.size w w'))
        case atStart => exact ⟨_, 0, rfl, rfl, H', ⟨Nat.le_refl _⟩, BY, BK, HB2⟩
        case round =>
         clear H' BY BK HB2; obtain ⟨x3, bp, rfl, rfl, HA, HK, BY, BK, HB⟩ := hrel
         cases gk with
         | zero => exact absurd HA.out (by simp [impl_InsText.l0])
         | succ k1 =>
          have H := HA.out; clear HA; simp only [impl_InsText.l0] at H
          by_cases c8 : bp < (fm.size : Int)
          · rw [if_pos c8] at H
            by_cases c9 : 0 ≤ bp
            · rw [if_pos c9] at H
              obtain ⟨t, A110, H⟩ := Option.bind_eq_some_iff.mp H; have A11 := Aside0.mk A110; obtain ⟨s, A120, H⟩ := Option.bind_eq_some_iff.mp H; have A12 := Aside0.mk A120; clear A110 A120; have hby := impl_InsText.byte BY.out fm b2 bp c9 c8; obtain ⟨hcz_0, hcz_1, hcz_2, hcz_3, hcz_4⟩ := c5e BK; have c8b : decide (bp < (fm.size : Int)) = true := decide_eq_true c8; have c9b : decide (0 ≤ bp) = true := decide_eq_true c9; replace c8 := eq_true c8; replace c9 := eq_true c9; obtain ⟨q, hq⟩ : ∃ q, q = rd (bytesOf fm) bp := ⟨_, rfl⟩; rw [← hq] at hby A11 H; clear hq
              by_cases c14 : q = 78
              · have c14b : (q == 78) = true := beq_iff_eq.mpr c14
                have c14c : (q != 78) = false := bne_eq_false_iff_eq.mpr c14; rw [if_pos c14] at H; clear c14
                by_cases c15 : x3.size + 1 ≤ 9223372036854775807
                · rw [if_pos c15] at H
                  have c15b0 := eq_true c15; have c15b2 : (9223372036854775807 < x3.size + 1) = False := eq_false (Nat.not_lt.2 c15)
                  by_cases c16 : (x3 ++ (⟨#[32]⟩ : ByteArray)).size + s.size ≤ 9223372036854775807
                  · rw [if_pos c16] at H
                    have c16b0 := eq_true c16; have c16b2 : (9223372036854775807 < (x3 ++ (⟨#[32]⟩ : ByteArray)).size + s.size) = False := eq_false (Nat.not_lt.2 c16); have c16b3 : (9223372036854775807 < x3.size + 1 + s.size) = False := eq_false (Nat.not_lt.2 (by have h_ := c16; simp only [ByteArray.size_append] at h_; exact h_)); have H' := Aside0.mk H; clear H
                    go_wp2_with (first | (go_at_call 24; (with_reducible refine (impl_partOf.calls a0_0 a0_1 a0_2 a0_3 a0_4 q t _ A11.out).mono ?_); rintro e wA ⟨rfl, hb⟩; replace BY := nblk BY hb; replace BK := nblk BK hb; replace HB := nbs HB hb; clear hb hcz_0 hcz_1 hcz_2 hcz_3 hcz_4) | (go_at_call 23; (with_reducible refine (strconv_Itoa.calls t s _ A12.out ?hT).mono ?_); (case hT => exact nT HT HB); rintro e wB ⟨rfl, hb⟩; replace BY := nblk BY hb; replace BK := nblk BK hb; replace HB := nbs HB hb; clear hb))
                    go_roundg k1
                    case measure => have := HK.out; omega
                    case rel => exact ⟨_, _, rfl, rfl, H', ⟨by have := HK.out; omega⟩, ⟨nb BY⟩, ⟨nb BK⟩, ⟨nbe HB⟩⟩
                  · rw [if_neg c16] at H
                    exact absurd H (by simp)
                · rw [if_neg c15] at H
                  exact absurd H (by simp)
              · have c14b : (q == 78) = false := beq_eq_false_iff_ne.mpr c14
                have c14c : (q != 78) = true := bne_iff_ne.mpr c14; rw [if_neg c14] at H; clear c14
                by_cases c15 : x3.size + 1 ≤ 9223372036854775807
                · rw [if_pos c15] at H
                  have c15b0 := eq_true c15; have c15b2 : (9223372036854775807 < x3.size + 1) = False := eq_false (Nat.not_lt.2 c15)
                  by_cases c17 : (x3 ++ (⟨#[32]⟩ : ByteArray)).size + 1 ≤ 9223372036854775807
                  · rw [if_pos c17] at H
                    have c17b2 : (9223372036854775807 < (x3 ++ (⟨#[32]⟩ : ByteArray)).size + 1) = False := eq_false (Nat.not_lt.2 c17); have c17b3 : (9223372036854775807 < x3.size + 1 + 1) = False := eq_false (Nat.not_lt.2 (by have h_ := c17; simp only [ByteArray.size_append] at h_; exact h_))
                    by_cases c16 : ((x3 ++ (⟨#[32]⟩ : ByteArray)) ++ (⟨#[114]⟩ : ByteArray)).size + s.size ≤ 9223372036854775807
                    · rw [if_pos c16] at H
                      have c16b2 : (9223372036854775807 < ((x3 ++ (⟨#[32]⟩ : ByteArray)) ++ (⟨#[114]⟩ : ByteArray)).size + s.size) = False := eq_false (Nat.not_lt.2 c16); have c16b3 : (9223372036854775807 < x3.size + 1 + 1 + s.size) = False := eq_false (Nat.not_lt.2 (by have h_ := c16; simp only [ByteArray.size_append] at h_; exact h_)); have H' := Aside0.mk H; clear H
                      go_wp2_with (first | (go_at_call 24; (with_reducible refine (impl_partOf.calls a0_0 a0_1 a0_2 a0_3 a0_4 q t _ A11.out).mono ?_); rintro e wA ⟨rfl, hb⟩; replace BY := nblk BY hb; replace BK := nblk BK hb; replace HB := nbs HB hb; clear hb hcz_0 hcz_1 hcz_2 hcz_3 hcz_4) | (go_at_call 23; (with_reducible refine (strconv_Itoa.calls t s _ A12.out ?hT).mono ?_); (case hT => exact nT HT HB); rintro e wB ⟨rfl, hb⟩; replace BY := nblk BY hb; replace BK := nblk BK hb; replace HB := nbs HB hb; clear hb))
                      go_roundg k1
                      case measure => have := HK.out; omega
                      case rel => exact ⟨_, _, rfl, rfl, H', ⟨by have := HK.out; omega⟩, ⟨nb BY⟩, ⟨nb BK⟩, ⟨nbe HB⟩⟩
                    · rw [if_neg c16] at H
                      exact absurd H (by simp)
                  · rw [if_neg c17] at H
                    exact absurd H (by simp)
                · rw [if_neg c15] at H
                  exact absurd H (by simp)
            · rw [if_neg c9] at H
              exact absurd H (by simp)
          · rw [if_neg c8] at H
            have c8b : decide (bp < (fm.size : Int)) = false := decide_eq_false c8; obtain rfl := Option.some.inj H; go_wp2
            go_ret
            exact ⟨er_, nbe HB⟩
      · rw [if_neg hs] at H
        exact absurd H (by simp)
    · rw [if_neg c7] at H
      exact absurd H (by simp)
  · rw [if_neg c6] at H
    exact absurd H (by simp)

/-! ### spec_l6Field: function 51 -/
def spec_l6Field.f (a0 : Int) (a1 : Bool) : Option (Bool) := (spec_l1In.f a0 0 7).bind fun bv => (if bv = true then (if a1 = true then (some true) else (some (a0 == 0))) else (some false))
set_option maxHeartbeats 8000000 in
set_option maxRecDepth 100000 in
theorem spec_l6Field.calls (a0 : Int) (a1 : Bool) (r : Bool) (w : World) (h : spec_l6Field.f a0 a1 = some r) :
    Calls Tryz.prog 51 #[.int .i64 a0, .bool a1] w fun e w' => e = .returned (.bool r) ∧ Drawn0 w w' := by
  have H : ((spec_l1In.f a0 0 7).bind fun bv => (if bv = true then (if a1 = true then (some true) else (some (a0 == 0))) else (some false))) = some r := h; clear h; replace H := Option.bind_eq_some_iff.mp H; obtain ⟨bv, A30, H⟩ := H; replace H : (if bv = true then (if a1 = true then (some true) else (some (a0 == 0))) else (some false)) = some r := H; have A3 := Aside0.mk A30; clear A30
  by_cases c4 : bv = true
  · subst c4
    have H1 : (if a1 = true then (some true) else (some (a0 == 0))) = some r := by rw [if_pos rfl] at H; exact H
    clear H; have H := H1; clear H1
    by_cases c5 : a1 = true
    · subst c5
      have H1 : (some true) = some r := by rw [if_pos rfl] at H; exact H
      clear H; have H := H1; clear H1; obtain rfl := Option.some.inj H
      go_enter Tryz.func51, Tryz.ntmps51
      go_wp2_with (first | ((with_reducible refine gate_callee (f := 50) rfl ?_); refine goesM (some 6) rfl rfl Tryz.func50 (by kernel_rfl) rfl #[.int .i64 a0, .int .i64 0, .int .i64 7] rfl ?_; (with_reducible refine (spec_l1In.calls a0 0 7 true _ A3.out).mono ?_); rintro e w' ⟨rfl, ⟨nd, rfl⟩⟩; refine ⟨_, rfl, ?_⟩))
      go_ret
      exact ⟨by first | rfl | (simp; done) | (simp [*]; done), by repeat (first | exact Drawn0.refl _ | apply Drawn0.step)⟩
    · replace c5 := Bool.eq_false_iff.mpr c5
      subst c5; have H1 : (some (a0 == 0)) = some r := by rw [if_neg (show ¬ (false = true) by decide)] at H; exact H
      clear H; have H := H1; clear H1; obtain rfl := Option.some.inj H
      go_enter Tryz.func51, Tryz.ntmps51
      go_wp2_with (first | ((with_reducible refine gate_callee (f := 50) rfl ?_); refine goesM (some 6) rfl rfl Tryz.func50 (by kernel_rfl) rfl #[.int .i64 a0, .int .i64 0, .int .i64 7] rfl ?_; (with_reducible refine (spec_l1In.calls a0 0 7 true _ A3.out).mono ?_); rintro e w' ⟨rfl, ⟨nd, rfl⟩⟩; refine ⟨_, rfl, ?_⟩))
      go_ret
      exact ⟨by first | rfl | (simp; done) | (simp [*]; done), by repeat (first | exact Drawn0.refl _ | apply Drawn0.step)⟩
  · replace c4 := Bool.eq_false_iff.mpr c4
    subst c4; have H1 : (some false) = some r := by rw [if_neg (show ¬ (false = true) by decide)] at H; exact H
    clear H; have H := H1; clear H1; obtain rfl := Option.some.inj H
    go_enter Tryz.func51, Tryz.ntmps51
    go_wp2_with (first | ((with_reducible refine gate_callee (f := 50) rfl ?_); refine goesM (some 6) rfl rfl Tryz.func50 (by kernel_rfl) rfl #[.int .i64 a0, .int .i64 0, .int .i64 7] rfl ?_; (with_reducible refine (spec_l1In.calls a0 0 7 false _ A3.out).mono ?_); rintro e w' ⟨rfl, ⟨nd, rfl⟩⟩; refine ⟨_, rfl, ?_⟩))
    go_ret
    exact ⟨by first | rfl | (simp; done) | (simp [*]; done), by repeat (first | exact Drawn0.refl _ | apply Drawn0.step)⟩

/-! ### spec_InsOk: function 25 -/
def spec_InsOk.f (a0_0 : Int) (a0_1 : Int) (a0_2 : Int) (a0_3 : Int) (a0_4 : Int) : Option (Bool) := (spec_l6Has.f a0_0).bind fun bb => ((spec_l1In.f a0_0 1 15).bind fun bu => (if bu = true then ((spec_l6Field.f a0_1 ((Go.bits .and .i64 bb 1) != 0)).bind fun bk => (if bk = true then ((spec_l6Field.f a0_2 ((Go.bits .and .i64 bb 2) != 0)).bind fun bj => (if bj = true then ((spec_l6Field.f a0_3 ((Go.bits .and .i64 bb 4) != 0)).bind fun bh => (if bh = true then ((spec_l1In.f a0_4 (-128) 127).bind fun bg => (if bg = true then (if (Go.bits .and .i64 bb 8) = 0 then (some (a0_4 == 0)) else (some true)) else (some false))) else (some false))) else (some false))) else (some false))) else (some false)))
set_option maxHeartbeats 8000000 in
set_option maxRecDepth 100000 in
theorem spec_InsOk.calls (a0_0 : Int) (a0_1 : Int) (a0_2 : Int) (a0_3 : Int) (a0_4 : Int) (r : Bool) (w : World) (h : spec_InsOk.f a0_0 a0_1 a0_2 a0_3 a0_4 = some r) :
    Calls Tryz.prog 25 #[.agg #[.int .i64 a0_0, .int .i64 a0_1, .int .i64 a0_2, .int .i64 a0_3, .int .i64 a0_4]] w fun e w' => e = .returned (.bool r) ∧ Below w.heap.size w w' := by
  have hu25 := Tryz.underlying25; have HB := Aside0.mk (Below.refl w.heap.size w); have H : ((spec_l6Has.f a0_0).bind fun bb => ((spec_l1In.f a0_0 1 15).bind fun bu => (if bu = true then ((spec_l6Field.f a0_1 ((Go.bits .and .i64 bb 1) != 0)).bind fun bk => (if bk = true then ((spec_l6Field.f a0_2 ((Go.bits .and .i64 bb 2) != 0)).bind fun bj => (if bj = true then ((spec_l6Field.f a0_3 ((Go.bits .and .i64 bb 4) != 0)).bind fun bh => (if bh = true then ((spec_l1In.f a0_4 (-128) 127).bind fun bg => (if bg = true then (if (Go.bits .and .i64 bb 8) = 0 then (some (a0_4 == 0)) else (some true)) else (some false))) else (some false))) else (some false))) else (some false))) else (some false)))) = some r := h; clear h; replace H := Option.bind_eq_some_iff.mp H; obtain ⟨bb, A20, H⟩ := H; replace H : ((spec_l1In.f a0_0 1 15).bind fun bu => (if bu = true then ((spec_l6Field.f a0_1 ((Go.bits .and .i64 bb 1) != 0)).bind fun bk => (if bk = true then ((spec_l6Field.f a0_2 ((Go.bits .and .i64 bb 2) != 0)).bind fun bj => (if bj = true then ((spec_l6Field.f a0_3 ((Go.bits .and .i64 bb 4) != 0)).bind fun bh => (if bh = true then ((spec_l1In.f a0_4 (-128) 127).bind fun bg => (if bg = true then (if (Go.bits .and .i64 bb 8) = 0 then (some (a0_4 == 0)) else (some true)) else (some false))) else (some false))) else (some false))) else (some false))) else (some false))) = some r := H; have A2 := Aside0.mk A20; clear A20; replace H := Option.bind_eq_some_iff.mp H; obtain ⟨bu, A30, H⟩ := H; replace H : (if bu = true then ((spec_l6Field.f a0_1 ((Go.bits .and .i64 bb 1) != 0)).bind fun bk => (if bk = true then ((spec_l6Field.f a0_2 ((Go.bits .and .i64 bb 2) != 0)).bind fun bj => (if bj = true then ((spec_l6Field.f a0_3 ((Go.bits .and .i64 bb 4) != 0)).bind fun bh => (if bh = true then ((spec_l1In.f a0_4 (-128) 127).bind fun bg => (if bg = true then (if (Go.bits .and .i64 bb 8) = 0 then (some (a0_4 == 0)) else (some true)) else (some false))) else (some false))) else (some false))) else (some false))) else (some false)) = some r := H; have A3 := Aside0.mk A30; clear A30
  by_cases c4 : bu = true
  · subst c4
    have H1 : ((spec_l6Field.f a0_1 ((Go.bits .and .i64 bb 1) != 0)).bind fun bk => (if bk = true then ((spec_l6Field.f a0_2 ((Go.bits .and .i64 bb 2) != 0)).bind fun bj => (if bj = true then ((spec_l6Field.f a0_3 ((Go.bits .and .i64 bb 4) != 0)).bind fun bh => (if bh = true then ((spec_l1In.f a0_4 (-128) 127).bind fun bg => (if bg = true then (if (Go.bits .and .i64 bb 8) = 0 then (some (a0_4 == 0)) else (some true)) else (some false))) else (some false))) else (some false))) else (some false))) = some r := by rw [if_pos rfl] at H; exact H
    clear H; have H := H1; clear H1; replace H := Option.bind_eq_some_iff.mp H; obtain ⟨bk, A50, H⟩ := H; replace H : (if bk = true then ((spec_l6Field.f a0_2 ((Go.bits .and .i64 bb 2) != 0)).bind fun bj => (if bj = true then ((spec_l6Field.f a0_3 ((Go.bits .and .i64 bb 4) != 0)).bind fun bh => (if bh = true then ((spec_l1In.f a0_4 (-128) 127).bind fun bg => (if bg = true then (if (Go.bits .and .i64 bb 8) = 0 then (some (a0_4 == 0)) else (some true)) else (some false))) else (some false))) else (some false))) else (some false)) = some r := H; have A5 := Aside0.mk A50; clear A50
    by_cases c6 : bk = true
    · subst c6
      have H1 : ((spec_l6Field.f a0_2 ((Go.bits .and .i64 bb 2) != 0)).bind fun bj => (if bj = true then ((spec_l6Field.f a0_3 ((Go.bits .and .i64 bb 4) != 0)).bind fun bh => (if bh = true then ((spec_l1In.f a0_4 (-128) 127).bind fun bg => (if bg = true then (if (Go.bits .and .i64 bb 8) = 0 then (some (a0_4 == 0)) else (some true)) else (some false))) else (some false))) else (some false))) = some r := by rw [if_pos rfl] at H; exact H
      clear H; have H := H1; clear H1; replace H := Option.bind_eq_some_iff.mp H; obtain ⟨bj, A70, H⟩ := H; replace H : (if bj = true then ((spec_l6Field.f a0_3 ((Go.bits .and .i64 bb 4) != 0)).bind fun bh => (if bh = true then ((spec_l1In.f a0_4 (-128) 127).bind fun bg => (if bg = true then (if (Go.bits .and .i64 bb 8) = 0 then (some (a0_4 == 0)) else (some true)) else (some false))) else (some false))) else (some false)) = some r := H; have A7 := Aside0.mk A70; clear A70
      by_cases c8 : bj = true
      · subst c8
        have H1 : ((spec_l6Field.f a0_3 ((Go.bits .and .i64 bb 4) != 0)).bind fun bh => (if bh = true then ((spec_l1In.f a0_4 (-128) 127).bind fun bg => (if bg = true then (if (Go.bits .and .i64 bb 8) = 0 then (some (a0_4 == 0)) else (some true)) else (some false))) else (some false))) = some r := by rw [if_pos rfl] at H; exact H
        clear H; have H := H1; clear H1; replace H := Option.bind_eq_some_iff.mp H; obtain ⟨bh, A90, H⟩ := H; replace H : (if bh = true then ((spec_l1In.f a0_4 (-128) 127).bind fun bg => (if bg = true then (if (Go.bits .and .i64 bb 8) = 0 then (some (a0_4 == 0)) else (some true)) else (some false))) else (some false)) = some r := H; have A9 := Aside0.mk A90; clear A90
        by_cases c10 : bh = true
        · subst c10
          have H1 : ((spec_l1In.f a0_4 (-128) 127).bind fun bg => (if bg = true then (if (Go.bits .and .i64 bb 8) = 0 then (some (a0_4 == 0)) else (some true)) else (some false))) = some r := by rw [if_pos rfl] at H; exact H
          clear H; have H := H1; clear H1; replace H := Option.bind_eq_some_iff.mp H; obtain ⟨bg, A110, H⟩ := H; replace H : (if bg = true then (if (Go.bits .and .i64 bb 8) = 0 then (some (a0_4 == 0)) else (some true)) else (some false)) = some r := H; have A11 := Aside0.mk A110; clear A110
          by_cases c12 : bg = true
          · subst c12
            have H1 : (if (Go.bits .and .i64 bb 8) = 0 then (some (a0_4 == 0)) else (some true)) = some r := by rw [if_pos rfl] at H; exact H
            clear H; have H := H1; clear H1
            by_cases c13 : (Go.bits .and .i64 bb 8) = 0
            · rw [if_pos c13] at H
              have c13b0 : ((Go.bits .and .i64 bb 8) == 0) = true := beq_iff_eq.mpr c13; have c13b1 : ((Go.bits .and .i64 bb 8) != 0) = false := bne_eq_false_iff_eq.mpr c13; clear c13; obtain rfl := Option.some.inj H
              go_enter Tryz.func25, Tryz.ntmps25
              go_wp2_with (first | ((with_reducible refine gate_dst (N := 1) rfl ?_); refine bxe 1 #[.int .i64 a0_0, .int .i64 a0_1, .int .i64 a0_2, .int .i64 a0_3, .int .i64 a0_4] 25 ?_; intro bI hg b9 hbox hb; have bd := hbox; have bJ := nge HB hg; have bK := nge HB hg; replace HB := nbs HB hb; clear hb hbox hg; obtain ⟨dc, dd, de, df, dg⟩ := c5e bd; obtain ⟨dh, di, dj, dk, dl⟩ := z5_ bd) | ((with_reducible refine gate_callee (f := 26) rfl ?_); refine goesM (some 6) rfl rfl Tryz.func26 (by kernel_rfl) rfl #[.int .i64 a0_0] rfl ?_; (with_reducible refine (spec_l6Has.calls a0_0 bb _ A2.out).mono ?_); rintro e dm ⟨rfl, hb⟩; refine ⟨_, rfl, ?_⟩; replace bd := nblk bd hb; replace HB := nbs HB hb; (try clear hb); obtain ⟨dn, dp, dq, dr, dt⟩ := c5e bd; obtain ⟨du, dv, dC, dD, dE⟩ := z5_ bd) | ((with_reducible refine gate_callee (f := 50) rfl ?_); refine goesM (some 9) rfl rfl Tryz.func50 (by kernel_rfl) rfl #[.int .i64 a0_0, .int .i64 1, .int .i64 15] rfl ?_; (with_reducible refine (spec_l1In.calls a0_0 1 15 true _ A3.out).mono ?_); rintro e w' ⟨rfl, ⟨nd, rfl⟩⟩; refine ⟨_, rfl, ?_⟩) | (go_at_call 51; (with_reducible refine (spec_l6Field.calls a0_1 ((Go.bits .and .i64 bb 1) != 0) true _ A5.out).mono ?_); rintro e w' ⟨rfl, ⟨nd, rfl⟩⟩) | (go_at_call 51; (with_reducible refine (spec_l6Field.calls a0_2 ((Go.bits .and .i64 bb 2) != 0) true _ A7.out).mono ?_); rintro e w' ⟨rfl, ⟨nd, rfl⟩⟩) | (go_at_call 51; (with_reducible refine (spec_l6Field.calls a0_3 ((Go.bits .and .i64 bb 4) != 0) true _ A9.out).mono ?_); rintro e w' ⟨rfl, ⟨nd, rfl⟩⟩) | (go_at_call 50; (with_reducible refine (spec_l1In.calls a0_4 (-128) 127 true _ A11.out).mono ?_); rintro e w' ⟨rfl, ⟨nd, rfl⟩⟩))
              go_ret
              exact ⟨er_, nbe HB⟩
            · rw [if_neg c13] at H
              have c13b0 : ((Go.bits .and .i64 bb 8) == 0) = false := beq_eq_false_iff_ne.mpr c13; have c13b1 : ((Go.bits .and .i64 bb 8) != 0) = true := bne_iff_ne.mpr c13; obtain rfl := Option.some.inj H
              go_enter Tryz.func25, Tryz.ntmps25
              go_wp2_with (first | ((with_reducible refine gate_dst (N := 1) rfl ?_); refine bxe 1 #[.int .i64 a0_0, .int .i64 a0_1, .int .i64 a0_2, .int .i64 a0_3, .int .i64 a0_4] 25 ?_; intro bI hg dF hbox hb; have bd := hbox; have bJ := nge HB hg; have bK := nge HB hg; replace HB := nbs HB hb; clear hb hbox hg; obtain ⟨dG, dH, dI, dJ, dK⟩ := c5e bd; obtain ⟨dL, dM, dN, dO, dP⟩ := z5_ bd) | ((with_reducible refine gate_callee (f := 26) rfl ?_); refine goesM (some 6) rfl rfl Tryz.func26 (by kernel_rfl) rfl #[.int .i64 a0_0] rfl ?_; (with_reducible refine (spec_l6Has.calls a0_0 bb _ A2.out).mono ?_); rintro e dQ ⟨rfl, hb⟩; refine ⟨_, rfl, ?_⟩; replace bd := nblk bd hb; replace HB := nbs HB hb; (try clear hb); obtain ⟨dR, dS, dT, dU, dV⟩ := c5e bd; obtain ⟨dW, dX, dY, dZ, d0⟩ := z5_ bd) | ((with_reducible refine gate_callee (f := 50) rfl ?_); refine goesM (some 9) rfl rfl Tryz.func50 (by kernel_rfl) rfl #[.int .i64 a0_0, .int .i64 1, .int .i64 15] rfl ?_; (with_reducible refine (spec_l1In.calls a0_0 1 15 true _ A3.out).mono ?_); rintro e w' ⟨rfl, ⟨nd, rfl⟩⟩; refine ⟨_, rfl, ?_⟩) | (go_at_call 51; (with_reducible refine (spec_l6Field.calls a0_1 ((Go.bits .and .i64 bb 1) != 0) true _ A5.out).mono ?_); rintro e w' ⟨rfl, ⟨nd, rfl⟩⟩) | (go_at_call 51; (with_reducible refine (spec_l6Field.calls a0_2 ((Go.bits .and .i64 bb 2) != 0) true _ A7.out).mono ?_); rintro e w' ⟨rfl, ⟨nd, rfl⟩⟩) | (go_at_call 51; (with_reducible refine (spec_l6Field.calls a0_3 ((Go.bits .and .i64 bb 4) != 0) true _ A9.out).mono ?_); rintro e w' ⟨rfl, ⟨nd, rfl⟩⟩) | (go_at_call 50; (with_reducible refine (spec_l1In.calls a0_4 (-128) 127 true _ A11.out).mono ?_); rintro e w' ⟨rfl, ⟨nd, rfl⟩⟩))
              go_ret
              exact ⟨er_, nbe HB⟩
          · replace c12 := Bool.eq_false_iff.mpr c12
            subst c12; have H1 : (some false) = some r := by rw [if_neg (show ¬ (false = true) by decide)] at H; exact H
            clear H; have H := H1; clear H1; obtain rfl := Option.some.inj H
            go_enter Tryz.func25, Tryz.ntmps25
            go_wp2_with (first | ((with_reducible refine gate_dst (N := 1) rfl ?_); refine bxe 1 #[.int .i64 a0_0, .int .i64 a0_1, .int .i64 a0_2, .int .i64 a0_3, .int .i64 a0_4] 25 ?_; intro bI hg d1 hbox hb; have bd := hbox; have bJ := nge HB hg; have bK := nge HB hg; replace HB := nbs HB hb; clear hb hbox hg; obtain ⟨d2, d3, d4, d5, d6⟩ := c5e bd; obtain ⟨d7, d8, d9, ea, eb⟩ := z5_ bd) | ((with_reducible refine gate_callee (f := 26) rfl ?_); refine goesM (some 6) rfl rfl Tryz.func26 (by kernel_rfl) rfl #[.int .i64 a0_0] rfl ?_; (with_reducible refine (spec_l6Has.calls a0_0 bb _ A2.out).mono ?_); rintro e ec ⟨rfl, hb⟩; refine ⟨_, rfl, ?_⟩; replace bd := nblk bd hb; replace HB := nbs HB hb; (try clear hb); obtain ⟨ed, ee, ef, eg, eh⟩ := c5e bd; obtain ⟨ei, ej, ek, el, em⟩ := z5_ bd) | ((with_reducible refine gate_callee (f := 50) rfl ?_); refine goesM (some 9) rfl rfl Tryz.func50 (by kernel_rfl) rfl #[.int .i64 a0_0, .int .i64 1, .int .i64 15] rfl ?_; (with_reducible refine (spec_l1In.calls a0_0 1 15 true _ A3.out).mono ?_); rintro e w' ⟨rfl, ⟨nd, rfl⟩⟩; refine ⟨_, rfl, ?_⟩) | (go_at_call 51; (with_reducible refine (spec_l6Field.calls a0_1 ((Go.bits .and .i64 bb 1) != 0) true _ A5.out).mono ?_); rintro e w' ⟨rfl, ⟨nd, rfl⟩⟩) | (go_at_call 51; (with_reducible refine (spec_l6Field.calls a0_2 ((Go.bits .and .i64 bb 2) != 0) true _ A7.out).mono ?_); rintro e w' ⟨rfl, ⟨nd, rfl⟩⟩) | (go_at_call 51; (with_reducible refine (spec_l6Field.calls a0_3 ((Go.bits .and .i64 bb 4) != 0) true _ A9.out).mono ?_); rintro e w' ⟨rfl, ⟨nd, rfl⟩⟩) | (go_at_call 50; (with_reducible refine (spec_l1In.calls a0_4 (-128) 127 false _ A11.out).mono ?_); rintro e w' ⟨rfl, ⟨nd, rfl⟩⟩))
            go_ret
            exact ⟨er_, nbe HB⟩
        · replace c10 := Bool.eq_false_iff.mpr c10
          subst c10; have H1 : (some false) = some r := by rw [if_neg (show ¬ (false = true) by decide)] at H; exact H
          clear H; have H := H1; clear H1; obtain rfl := Option.some.inj H
          go_enter Tryz.func25, Tryz.ntmps25
          go_wp2_with (first | ((with_reducible refine gate_dst (N := 1) rfl ?_); refine bxe 1 #[.int .i64 a0_0, .int .i64 a0_1, .int .i64 a0_2, .int .i64 a0_3, .int .i64 a0_4] 25 ?_; intro bI hg en hbox hb; have bd := hbox; have bJ := nge HB hg; have bK := nge HB hg; replace HB := nbs HB hb; clear hb hbox hg; obtain ⟨eo, ep, er, es, et⟩ := c5e bd; obtain ⟨eu, ev, ew, ex, ey⟩ := z5_ bd) | ((with_reducible refine gate_callee (f := 26) rfl ?_); refine goesM (some 6) rfl rfl Tryz.func26 (by kernel_rfl) rfl #[.int .i64 a0_0] rfl ?_; (with_reducible refine (spec_l6Has.calls a0_0 bb _ A2.out).mono ?_); rintro e ez ⟨rfl, hb⟩; refine ⟨_, rfl, ?_⟩; replace bd := nblk bd hb; replace HB := nbs HB hb; (try clear hb); obtain ⟨eA, eB, eC, eD, eE⟩ := c5e bd; obtain ⟨eF, eG, eH, eI, eJ⟩ := z5_ bd) | ((with_reducible refine gate_callee (f := 50) rfl ?_); refine goesM (some 9) rfl rfl Tryz.func50 (by kernel_rfl) rfl #[.int .i64 a0_0, .int .i64 1, .int .i64 15] rfl ?_; (with_reducible refine (spec_l1In.calls a0_0 1 15 true _ A3.out).mono ?_); rintro e w' ⟨rfl, ⟨nd, rfl⟩⟩; refine ⟨_, rfl, ?_⟩) | (go_at_call 51; (with_reducible refine (spec_l6Field.calls a0_1 ((Go.bits .and .i64 bb 1) != 0) true _ A5.out).mono ?_); rintro e w' ⟨rfl, ⟨nd, rfl⟩⟩) | (go_at_call 51; (with_reducible refine (spec_l6Field.calls a0_2 ((Go.bits .and .i64 bb 2) != 0) true _ A7.out).mono ?_); rintro e w' ⟨rfl, ⟨nd, rfl⟩⟩) | (go_at_call 51; (with_reducible refine (spec_l6Field.calls a0_3 ((Go.bits .and .i64 bb 4) != 0) false _ A9.out).mono ?_); rintro e w' ⟨rfl, ⟨nd, rfl⟩⟩))
          go_ret
          exact ⟨er_, nbe HB⟩
      · replace c8 := Bool.eq_false_iff.mpr c8
        subst c8; have H1 : (some false) = some r := by rw [if_neg (show ¬ (false = true) by decide)] at H; exact H
        clear H; have H := H1; clear H1; obtain rfl := Option.some.inj H
        go_enter Tryz.func25, Tryz.ntmps25
        go_wp2_with (first | ((with_reducible refine gate_dst (N := 1) rfl ?_); refine bxe 1 #[.int .i64 a0_0, .int .i64 a0_1, .int .i64 a0_2, .int .i64 a0_3, .int .i64 a0_4] 25 ?_; intro bI hg eK hbox hb; have bd := hbox; have bJ := nge HB hg; have bK := nge HB hg; replace HB := nbs HB hb; clear hb hbox hg; obtain ⟨eL, eM, eN, eO, eP⟩ := c5e bd; obtain ⟨eQ, eR, eS, eT, eU⟩ := z5_ bd) | ((with_reducible refine gate_callee (f := 26) rfl ?_); refine goesM (some 6) rfl rfl Tryz.func26 (by kernel_rfl) rfl #[.int .i64 a0_0] rfl ?_; (with_reducible refine (spec_l6Has.calls a0_0 bb _ A2.out).mono ?_); rintro e eV ⟨rfl, hb⟩; refine ⟨_, rfl, ?_⟩; replace bd := nblk bd hb; replace HB := nbs HB hb; (try clear hb); obtain ⟨eW, eX, eY, eZ, e0⟩ := c5e bd; obtain ⟨e1, e2, e3, e4, e5⟩ := z5_ bd) | ((with_reducible refine gate_callee (f := 50) rfl ?_); refine goesM (some 9) rfl rfl Tryz.func50 (by kernel_rfl) rfl #[.int .i64 a0_0, .int .i64 1, .int .i64 15] rfl ?_; (with_reducible refine (spec_l1In.calls a0_0 1 15 true _ A3.out).mono ?_); rintro e w' ⟨rfl, ⟨nd, rfl⟩⟩; refine ⟨_, rfl, ?_⟩) | (go_at_call 51; (with_reducible refine (spec_l6Field.calls a0_1 ((Go.bits .and .i64 bb 1) != 0) true _ A5.out).mono ?_); rintro e w' ⟨rfl, ⟨nd, rfl⟩⟩) | (go_at_call 51; (with_reducible refine (spec_l6Field.calls a0_2 ((Go.bits .and .i64 bb 2) != 0) false _ A7.out).mono ?_); rintro e w' ⟨rfl, ⟨nd, rfl⟩⟩))
        go_ret
        exact ⟨er_, nbe HB⟩
    · replace c6 := Bool.eq_false_iff.mpr c6
      subst c6; have H1 : (some false) = some r := by rw [if_neg (show ¬ (false = true) by decide)] at H; exact H
      clear H; have H := H1; clear H1; obtain rfl := Option.some.inj H
      go_enter Tryz.func25, Tryz.ntmps25
      go_wp2_with (first | ((with_reducible refine gate_dst (N := 1) rfl ?_); refine bxe 1 #[.int .i64 a0_0, .int .i64 a0_1, .int .i64 a0_2, .int .i64 a0_3, .int .i64 a0_4] 25 ?_; intro bI hg e6 hbox hb; have bd := hbox; have bJ := nge HB hg; have bK := nge HB hg; replace HB := nbs HB hb; clear hb hbox hg; obtain ⟨e7, e8, e9, ga, gc⟩ := c5e bd; obtain ⟨gd, gf, gg, gh, gi⟩ := z5_ bd) | ((with_reducible refine gate_callee (f := 26) rfl ?_); refine goesM (some 6) rfl rfl Tryz.func26 (by kernel_rfl) rfl #[.int .i64 a0_0] rfl ?_; (with_reducible refine (spec_l6Has.calls a0_0 bb _ A2.out).mono ?_); rintro e gj ⟨rfl, hb⟩; refine ⟨_, rfl, ?_⟩; replace bd := nblk bd hb; replace HB := nbs HB hb; (try clear hb); obtain ⟨gl, gm, gn, gp, gq⟩ := c5e bd; obtain ⟨gr, gs, gt, gu, gv⟩ := z5_ bd) | ((with_reducible refine gate_callee (f := 50) rfl ?_); refine goesM (some 9) rfl rfl Tryz.func50 (by kernel_rfl) rfl #[.int .i64 a0_0, .int .i64 1, .int .i64 15] rfl ?_; (with_reducible refine (spec_l1In.calls a0_0 1 15 true _ A3.out).mono ?_); rintro e w' ⟨rfl, ⟨nd, rfl⟩⟩; refine ⟨_, rfl, ?_⟩) | (go_at_call 51; (with_reducible refine (spec_l6Field.calls a0_1 ((Go.bits .and .i64 bb 1) != 0) false _ A5.out).mono ?_); rintro e w' ⟨rfl, ⟨nd, rfl⟩⟩))
      go_ret
      exact ⟨er_, nbe HB⟩
  · replace c4 := Bool.eq_false_iff.mpr c4
    subst c4; have H1 : (some false) = some r := by rw [if_neg (show ¬ (false = true) by decide)] at H; exact H
    clear H; have H := H1; clear H1; obtain rfl := Option.some.inj H
    go_enter Tryz.func25, Tryz.ntmps25
    go_wp2_with (first | ((with_reducible refine gate_dst (N := 1) rfl ?_); refine bxe 1 #[.int .i64 a0_0, .int .i64 a0_1, .int .i64 a0_2, .int .i64 a0_3, .int .i64 a0_4] 25 ?_; intro bI hg gw hbox hb; have bd := hbox; have bJ := nge HB hg; have bK := nge HB hg; replace HB := nbs HB hb; clear hb hbox hg; obtain ⟨gx, gy, gz, gA, gB⟩ := c5e bd; obtain ⟨gC, gD, gE, gF, gG⟩ := z5_ bd) | ((with_reducible refine gate_callee (f := 26) rfl ?_); refine goesM (some 6) rfl rfl Tryz.func26 (by kernel_rfl) rfl #[.int .i64 a0_0] rfl ?_; (with_reducible refine (spec_l6Has.calls a0_0 bb _ A2.out).mono ?_); rintro e gH ⟨rfl, hb⟩; refine ⟨_, rfl, ?_⟩; replace bd := nblk bd hb; replace HB := nbs HB hb; (try clear hb); obtain ⟨gI, gJ, gK, gL, gM⟩ := c5e bd; obtain ⟨gN, gO, gP, gQ, gR⟩ := z5_ bd) | ((with_reducible refine gate_callee (f := 50) rfl ?_); refine goesM (some 9) rfl rfl Tryz.func50 (by kernel_rfl) rfl #[.int .i64 a0_0, .int .i64 1, .int .i64 15] rfl ?_; (with_reducible refine (spec_l1In.calls a0_0 1 15 false _ A3.out).mono ?_); rintro e w' ⟨rfl, ⟨nd, rfl⟩⟩; refine ⟨_, rfl, ?_⟩))
    go_ret
    exact ⟨er_, nbe HB⟩

/-! ### spec_l7Names: function 27 -/
def spec_l7Names.f  : Option (List ByteArray) := some (([(⟨#[]⟩ : ByteArray), (⟨#[115, 101, 116]⟩ : ByteArray), (⟨#[97, 100, 100]⟩ : ByteArray), (⟨#[109, 111, 118, 101]⟩ : ByteArray), (⟨#[119, 101, 97, 107]⟩ : ByteArray), (⟨#[98, 111, 117, 110, 100]⟩ : ByteArray), (⟨#[112, 111, 105, 110, 116]⟩ : ByteArray), (⟨#[115, 101, 97, 108]⟩ : ByteArray), (⟨#[111, 112, 101, 110]⟩ : ByteArray), (⟨#[105, 115]⟩ : ByteArray), (⟨#[108, 111, 97, 100]⟩ : ByteArray), (⟨#[115, 116, 111, 114, 101]⟩ : ByteArray), (⟨#[106, 117, 109, 112]⟩ : ByteArray), (⟨#[122, 101, 114, 111]⟩ : ByteArray), (⟨#[103, 111, 110, 101]⟩ : ByteArray), (⟨#[104, 97, 108, 116]⟩ : ByteArray)] : List ByteArray))
set_option maxHeartbeats 8000000 in
set_option maxRecDepth 100000 in
theorem spec_l7Names.calls  (r : List ByteArray) (w : World) (h : spec_l7Names.f  = some r) :
    Calls Tryz.prog 27 #[] w fun e w' => ∃ v0_ : Value, e = .returned (v0_) ∧ Kd.R Kd.string 9 w' w.heap.size (fun _ => True) v0_ r ∧ Below w.heap.size w w' := by
  have HB := Aside0.mk (Below.refl w.heap.size w); have H : (some (([(⟨#[]⟩ : ByteArray), (⟨#[115, 101, 116]⟩ : ByteArray), (⟨#[97, 100, 100]⟩ : ByteArray), (⟨#[109, 111, 118, 101]⟩ : ByteArray), (⟨#[119, 101, 97, 107]⟩ : ByteArray), (⟨#[98, 111, 117, 110, 100]⟩ : ByteArray), (⟨#[112, 111, 105, 110, 116]⟩ : ByteArray), (⟨#[115, 101, 97, 108]⟩ : ByteArray), (⟨#[111, 112, 101, 110]⟩ : ByteArray), (⟨#[105, 115]⟩ : ByteArray), (⟨#[108, 111, 97, 100]⟩ : ByteArray), (⟨#[115, 116, 111, 114, 101]⟩ : ByteArray), (⟨#[106, 117, 109, 112]⟩ : ByteArray), (⟨#[122, 101, 114, 111]⟩ : ByteArray), (⟨#[103, 111, 110, 101]⟩ : ByteArray), (⟨#[104, 97, 108, 116]⟩ : ByteArray)] : List ByteArray))) = some r := h; clear h; obtain ⟨b4, bM⟩ : ∃ y_ : List ByteArray, y_ = (([(⟨#[]⟩ : ByteArray), (⟨#[115, 101, 116]⟩ : ByteArray), (⟨#[97, 100, 100]⟩ : ByteArray), (⟨#[109, 111, 118, 101]⟩ : ByteArray), (⟨#[119, 101, 97, 107]⟩ : ByteArray), (⟨#[98, 111, 117, 110, 100]⟩ : ByteArray), (⟨#[112, 111, 105, 110, 116]⟩ : ByteArray), (⟨#[115, 101, 97, 108]⟩ : ByteArray), (⟨#[111, 112, 101, 110]⟩ : ByteArray), (⟨#[105, 115]⟩ : ByteArray), (⟨#[108, 111, 97, 100]⟩ : ByteArray), (⟨#[115, 116, 111, 114, 101]⟩ : ByteArray), (⟨#[106, 117, 109, 112]⟩ : ByteArray), (⟨#[122, 101, 114, 111]⟩ : ByteArray), (⟨#[103, 111, 110, 101]⟩ : ByteArray), (⟨#[104, 97, 108, 116]⟩ : ByteArray)] : List ByteArray)) := ⟨_, rfl⟩; replace H : (some b4) = some r := by first | (rw [bM]; with_reducible exact H) | (have H2_ := (Option.bind_some _ _).symm.trans H; rw [bM]; with_reducible exact H2_) | (have H2_ := (Option.bind_some _ _).symm.trans H; with_reducible exact H2_) | with_reducible exact H | (rw [bM]; exact H) | exact H
  have bW := Aside0.mk bM; clear bM; obtain rfl := Option.some.inj H
  go_enter Tryz.func27, Tryz.ntmps27
  go_wp2_with (first | ((with_reducible refine gate_dst (N := 1) rfl ?_); refine Kd.R_lit Kd.string _ 9 ?hg (N := 1) ?hd (xs := ([(⟨#[]⟩ : ByteArray), (⟨#[115, 101, 116]⟩ : ByteArray), (⟨#[97, 100, 100]⟩ : ByteArray), (⟨#[109, 111, 118, 101]⟩ : ByteArray), (⟨#[119, 101, 97, 107]⟩ : ByteArray), (⟨#[98, 111, 117, 110, 100]⟩ : ByteArray), (⟨#[112, 111, 105, 110, 116]⟩ : ByteArray), (⟨#[115, 101, 97, 108]⟩ : ByteArray), (⟨#[111, 112, 101, 110]⟩ : ByteArray), (⟨#[105, 115]⟩ : ByteArray), (⟨#[108, 111, 97, 100]⟩ : ByteArray), (⟨#[115, 116, 111, 114, 101]⟩ : ByteArray), (⟨#[106, 117, 109, 112]⟩ : ByteArray), (⟨#[122, 101, 114, 111]⟩ : ByteArray), (⟨#[103, 111, 110, 101]⟩ : ByteArray), (⟨#[104, 97, 108, 116]⟩ : ByteArray)] : List ByteArray)) (inner := [.string (⟨#[]⟩ : ByteArray), .string (⟨#[115, 101, 116]⟩ : ByteArray), .string (⟨#[97, 100, 100]⟩ : ByteArray), .string (⟨#[109, 111, 118, 101]⟩ : ByteArray), .string (⟨#[119, 101, 97, 107]⟩ : ByteArray), .string (⟨#[98, 111, 117, 110, 100]⟩ : ByteArray), .string (⟨#[112, 111, 105, 110, 116]⟩ : ByteArray), .string (⟨#[115, 101, 97, 108]⟩ : ByteArray), .string (⟨#[111, 112, 101, 110]⟩ : ByteArray), .string (⟨#[105, 115]⟩ : ByteArray), .string (⟨#[108, 111, 97, 100]⟩ : ByteArray), .string (⟨#[115, 116, 111, 114, 101]⟩ : ByteArray), .string (⟨#[106, 117, 109, 112]⟩ : ByteArray), .string (⟨#[122, 101, 114, 111]⟩ : ByteArray), .string (⟨#[103, 111, 110, 101]⟩ : ByteArray), .string (⟨#[104, 97, 108, 116]⟩ : ByteArray)]) (ok := fun _ => True) (okp := fun _ => True) ?hr ?hp (fun _ hk => hk) trivial (Below.refl _ _) (Nat.le_refl _) (by simp) ?_; (case hd => rfl); (case hg => rfl); (case hr => first | (go_simp; done) | (go_simp; rfl)); (case hp => exact (Reps.one (show Kd.M Kd.string _ _ _ (⟨#[]⟩ : ByteArray) [.string (⟨#[]⟩ : ByteArray)] from rfl) (Reps.one (show Kd.M Kd.string _ _ _ (⟨#[115, 101, 116]⟩ : ByteArray) [.string (⟨#[115, 101, 116]⟩ : ByteArray)] from rfl) (Reps.one (show Kd.M Kd.string _ _ _ (⟨#[97, 100, 100]⟩ : ByteArray) [.string (⟨#[97, 100, 100]⟩ : ByteArray)] from rfl) (Reps.one (show Kd.M Kd.string _ _ _ (⟨#[109, 111, 118, 101]⟩ : ByteArray) [.string (⟨#[109, 111, 118, 101]⟩ : ByteArray)] from rfl) (Reps.one (show Kd.M Kd.string _ _ _ (⟨#[119, 101, 97, 107]⟩ : ByteArray) [.string (⟨#[119, 101, 97, 107]⟩ : ByteArray)] from rfl) (Reps.one (show Kd.M Kd.string _ _ _ (⟨#[98, 111, 117, 110, 100]⟩ : ByteArray) [.string (⟨#[98, 111, 117, 110, 100]⟩ : ByteArray)] from rfl) (Reps.one (show Kd.M Kd.string _ _ _ (⟨#[112, 111, 105, 110, 116]⟩ : ByteArray) [.string (⟨#[112, 111, 105, 110, 116]⟩ : ByteArray)] from rfl) (Reps.one (show Kd.M Kd.string _ _ _ (⟨#[115, 101, 97, 108]⟩ : ByteArray) [.string (⟨#[115, 101, 97, 108]⟩ : ByteArray)] from rfl) (Reps.one (show Kd.M Kd.string _ _ _ (⟨#[111, 112, 101, 110]⟩ : ByteArray) [.string (⟨#[111, 112, 101, 110]⟩ : ByteArray)] from rfl) (Reps.one (show Kd.M Kd.string _ _ _ (⟨#[105, 115]⟩ : ByteArray) [.string (⟨#[105, 115]⟩ : ByteArray)] from rfl) (Reps.one (show Kd.M Kd.string _ _ _ (⟨#[108, 111, 97, 100]⟩ : ByteArray) [.string (⟨#[108, 111, 97, 100]⟩ : ByteArray)] from rfl) (Reps.one (show Kd.M Kd.string _ _ _ (⟨#[115, 116, 111, 114, 101]⟩ : ByteArray) [.string (⟨#[115, 116, 111, 114, 101]⟩ : ByteArray)] from rfl) (Reps.one (show Kd.M Kd.string _ _ _ (⟨#[106, 117, 109, 112]⟩ : ByteArray) [.string (⟨#[106, 117, 109, 112]⟩ : ByteArray)] from rfl) (Reps.one (show Kd.M Kd.string _ _ _ (⟨#[122, 101, 114, 111]⟩ : ByteArray) [.string (⟨#[122, 101, 114, 111]⟩ : ByteArray)] from rfl) (Reps.one (show Kd.M Kd.string _ _ _ (⟨#[103, 111, 110, 101]⟩ : ByteArray) [.string (⟨#[103, 111, 110, 101]⟩ : ByteArray)] from rfl) (Reps.one (show Kd.M Kd.string _ _ _ (⟨#[104, 97, 108, 116]⟩ : ByteArray) [.string (⟨#[104, 97, 108, 116]⟩ : ByteArray)] from rfl) (Reps.none _ _)))))))))))))))))); intro gS w1 bl hb hg_ hnew_; clear hg_ hnew_; (first | rw [← bW.out] at bl | (simp only [Int.reduceToNat] at bl; rw [← bW.out] at bl)); have b5 := Aside0.mk (Kd.R_lower bl (bsz HB)); replace HB := nbs HB hb; clear hb bl))
  go_ret
  exact ⟨_, er_, by (with_reducible repeat (first | apply Kd.R_alloc | apply Kd.R_drewN | apply Kd.R_drew)); exact b5.out, nbe HB⟩

/-! ### spec_l7Digits: function 28 -/
def spec_l7Digits.l0 : Nat → Int → Bool → ByteArray → Option (ByteArray)
  | 0, _, _, _ => none
  | k + 1, x0, x3, x4 => if x0 = 0 then (if x3 = true then (if 1 + x4.size ≤ 9223372036854775807 then (some ((⟨#[45]⟩ : ByteArray) ++ x4)) else (none)) else (some x4)) else (if (Int.tmod x0 10) < 0 then ((some (([(wrap64 (48 + (wrap64 (-(Int.tmod x0 10))))) % 256] : List Int) : List Int)).bind fun bq => (if (strOfNums bq).size + x4.size ≤ 9223372036854775807 then (spec_l7Digits.l0 k (wrap64 (Int.tdiv x0 10)) x3 ((strOfNums bq) ++ x4)) else (none))) else ((some (([(wrap64 (48 + (Int.tmod x0 10))) % 256] : List Int) : List Int)).bind fun br => (if (strOfNums br).size + x4.size ≤ 9223372036854775807 then (spec_l7Digits.l0 k (wrap64 (Int.tdiv x0 10)) x3 ((strOfNums br) ++ x4)) else (none))))
def spec_l7Digits.f (k : Nat) (a0 : Int) : Option (ByteArray) := if a0 = 0 then (some (⟨#[48]⟩ : ByteArray)) else (spec_l7Digits.l0 k a0 (decide (a0 < 0)) (⟨#[]⟩ : ByteArray))
theorem spec_l7Digits.mono_l : ∀ k, (∀ y0 y1 y2, LeO (spec_l7Digits.l0 k y0 y1 y2) (spec_l7Digits.l0 (k + 1) y0 y1 y2))
  | 0 => fun _ _ _ r h => by simp [spec_l7Digits.l0] at h
  | k + 1 => by
    have ih0 := spec_l7Digits.mono_l k
    · intro y0 y1 y2
      unfold spec_l7Digits.l0
      repeat' first
      | (with_reducible exact ih0 _ _ _)
      | (with_reducible exact LeO.refl _)
      | (with_reducible exact LeO.none _)
      | (with_reducible refine LeO.ite ?_ ?_)
      | (with_reducible refine LeO.bind ?_ (fun _ => ?_))
      | exact ih0 _ _ _
      | exact LeO.none _
      | refine LeO.ite ?_ ?_
      | refine LeO.bind ?_ (fun _ => ?_)
theorem spec_l7Digits.mono : ∀ a0 k, LeO (spec_l7Digits.f k a0) (spec_l7Digits.f (k + 1) a0) := by
  intro a0 k; have ih0 := spec_l7Digits.mono_l k
  unfold spec_l7Digits.f
  repeat' first
      | (with_reducible exact ih0 _ _ _)
      | (with_reducible exact LeO.refl _)
      | (with_reducible exact LeO.none _)
      | (with_reducible refine LeO.ite ?_ ?_)
      | (with_reducible refine LeO.bind ?_ (fun _ => ?_))
      | exact ih0 _ _ _
      | exact LeO.none _
      | refine LeO.ite ?_ ?_
      | refine LeO.bind ?_ (fun _ => ?_)
set_option maxHeartbeats 8000000 in
set_option maxRecDepth 100000 in
theorem spec_l7Digits.calls (k : Nat) (a0 : Int) (r : ByteArray) (w : World) (h : spec_l7Digits.f k a0 = some r) :
    Calls Tryz.prog 28 #[.int .i64 a0] w fun e w' => e = .returned (.string r) ∧ Below w.heap.size w w' := by
  have HB := Aside0.mk (Below.refl w.heap.size w); have H : (if a0 = 0 then (some (⟨#[48]⟩ : ByteArray)) else (spec_l7Digits.l0 k a0 (decide (a0 < 0)) (⟨#[]⟩ : ByteArray))) = some r := h; clear h
  by_cases c2 : a0 = 0
  · rw [if_pos c2] at H
    have c2b0 : (a0 == 0) = true := beq_iff_eq.mpr c2; have c2b1 : (a0 != 0) = false := bne_eq_false_iff_eq.mpr c2; clear c2; obtain rfl := Option.some.inj H
    go_enter Tryz.func28, Tryz.ntmps28
    go_wp2
    go_ret
    exact ⟨er_, nbe HB⟩
  · rw [if_neg c2] at H
    have c2b0 : (a0 == 0) = false := beq_eq_false_iff_ne.mpr c2; have c2b1 : (a0 != 0) = true := bne_iff_ne.mpr c2; have H' := Aside0.mk H; clear H
    go_enter Tryz.func28, Tryz.ntmps28
    go_wp2
    go_loopg [0, 4] k (fun kq v0 v4 w' => ∃ (bf : Int) (bi : ByteArray), v0 = .int .i64 bf ∧ v4 = .string bi ∧ Aside0 (spec_l7Digits.l0 kq bf (decide (a0 < 0)) bi = some r) ∧ Aside0 (kq ≤ k) ∧ Aside0 (Below w.heap.size w w'))
    case atStart => exact ⟨(a0), ((⟨#[]⟩ : ByteArray)), (by first | rfl | (simp; done) | (simp [*]; done)), (by first | rfl | (simp; done) | (simp [*]; done)), H', ⟨Nat.le_refl _⟩, ⟨nbe HB⟩⟩
    case round =>
      clear H'; try clear c2
      try clear c2b0
      try clear c2b1
      try clear p2
      obtain ⟨bf, bi, rfl, rfl, HA, bR, HB⟩ := hrel
      cases gk with
      | zero => exact absurd HA.out (by simp [spec_l7Digits.l0])
      | succ k1 =>
        have H := HA.out; clear HA; simp only [spec_l7Digits.l0] at H
        by_cases c3 : bf = 0
        · rw [if_pos c3] at H
          have c3b0 : (bf == 0) = true := beq_iff_eq.mpr c3; have c3b1 : (bf != 0) = false := bne_eq_false_iff_eq.mpr c3; clear c3
          by_cases c4 : (decide (a0 < 0)) = true
          · rw [if_pos c4] at H
            have c4b0 : (decide (a0 < 0)) = true := c4; have c4b1 := of_decide_eq_true c4b0; have c4b2 := eq_true c4b1; clear c4
            by_cases c5 : 1 + bi.size ≤ 9223372036854775807
            · rw [if_pos c5] at H
              have c5b0 := eq_true c5; have c5b1 : decide (1 + bi.size ≤ 9223372036854775807) = true := decide_eq_true c5
              try have c5b2 : (9223372036854775807 < 1 + bi.size) = False := eq_false (Nat.not_lt.2 c5)
              obtain rfl := Option.some.inj H; go_wp2
              go_ret
              exact ⟨er_, nbe HB⟩
            · rw [if_neg c5] at H
              exact absurd H (by simp)
          · rw [if_neg c4] at H
            have c4b0 : (decide (a0 < 0)) = false := (by simpa using c4); have c4b1 := of_decide_eq_false c4b0; have c4b2 := eq_false c4b1
            clear c4; obtain rfl := Option.some.inj H; go_wp2
            go_ret
            exact ⟨er_, nbe HB⟩
        · rw [if_neg c3] at H
          have c3b0 : (bf == 0) = false := beq_eq_false_iff_ne.mpr c3; have c3b1 : (bf != 0) = true := bne_iff_ne.mpr c3
          by_cases c6 : (Int.tmod bf 10) < 0
          · rw [if_pos c6] at H
            have c6b0 : decide ((Int.tmod bf 10) < 0) = true := decide_eq_true c6; clear c6; obtain ⟨bq, bN⟩ : ∃ y_ : List Int, y_ = (([(wrap64 (48 + (wrap64 (-(Int.tmod bf 10))))) % 256] : List Int)) := ⟨_, rfl⟩; replace H : (if (strOfNums bq).size + bi.size ≤ 9223372036854775807 then (spec_l7Digits.l0 k1 (wrap64 (Int.tdiv bf 10)) (decide (a0 < 0)) ((strOfNums bq) ++ bi)) else (none)) = some r := by first | (rw [bN]; with_reducible exact H) | (have H2_ := (Option.bind_some _ _).symm.trans H; rw [bN]; with_reducible exact H2_) | (have H2_ := (Option.bind_some _ _).symm.trans H; with_reducible exact H2_) | with_reducible exact H | (rw [bN]; exact H) | exact H
            have bX := Aside0.mk bN; clear bN
            by_cases c7 : (strOfNums bq).size + bi.size ≤ 9223372036854775807
            · rw [if_pos c7] at H
              have c7b0 := eq_true c7; have c7b1 : decide ((strOfNums bq).size + bi.size ≤ 9223372036854775807) = true := decide_eq_true c7
              try have c7b2 : (9223372036854775807 < (strOfNums bq).size + bi.size) = False := eq_false (Nat.not_lt.2 c7)
              have H' := Aside0.mk H; clear H
              go_wp2_with (first | ((with_reducible refine gate_dst (N := 21) rfl ?_); refine Kd.R_lit (Kd.int .u8) _ 5 ?hg (N := 21) ?hd (xs := ([(wrap64 (48 + (wrap64 (-(Int.tmod bf 10))))) % 256] : List Int)) (inner := [.int .u8 ((wrap64 (48 + (wrap64 (-(Int.tmod bf 10))))) % 256)]) (ok := fun _ => True) (okp := fun _ => True) ?hr ?hp (fun _ hk => hk) trivial (Below.refl _ _) (Nat.le_refl _) (by simp) ?_; (case hd => rfl); (case hg => rfl); (case hr => first | (go_simp; done) | (go_simp; rfl)); (case hp => exact (Reps.one (show Kd.M (Kd.int .u8) _ _ _ ((wrap64 (48 + (wrap64 (-(Int.tmod bf 10))))) % 256) [.int .u8 ((wrap64 (48 + (wrap64 (-(Int.tmod bf 10))))) % 256)] from rfl) (Reps.none _ _))); intro gT w8 bO hb hg_ hnew_; clear hg_ hnew_; (first | rw [← bX.out] at bO | (simp only [Int.reduceToNat] at bO; rw [← bX.out] at bO)); have b6 := Aside0.mk (Kd.R_lower bO (bsz HB)); replace HB := nbs HB hb; clear hb bO; have hcv10 := own_string (P := Tryz.prog) Tryz.underlying22 Tryz.underlying5 Tryz.underlying9 (Kd.own_of_R b6.out)))
              go_roundg k1
              case measure => have := bR.out; omega
              case rel => exact ⟨(wrap64 (Int.tdiv bf 10)), ((strOfNums bq) ++ bi), (by first | rfl | (simp; done) | (simp [*]; done)), (by first | rfl | (simp; done) | (simp [*]; done)), H', ⟨by have := bR.out; omega⟩, ⟨nbe HB⟩⟩
            · rw [if_neg c7] at H
              exact absurd H (by simp)
          · rw [if_neg c6] at H
            have c6b0 : decide ((Int.tmod bf 10) < 0) = false := decide_eq_false c6; clear c6; obtain ⟨br, bP⟩ : ∃ y_ : List Int, y_ = (([(wrap64 (48 + (Int.tmod bf 10))) % 256] : List Int)) := ⟨_, rfl⟩; replace H : (if (strOfNums br).size + bi.size ≤ 9223372036854775807 then (spec_l7Digits.l0 k1 (wrap64 (Int.tdiv bf 10)) (decide (a0 < 0)) ((strOfNums br) ++ bi)) else (none)) = some r := by first | (rw [bP]; with_reducible exact H) | (have H2_ := (Option.bind_some _ _).symm.trans H; rw [bP]; with_reducible exact H2_) | (have H2_ := (Option.bind_some _ _).symm.trans H; with_reducible exact H2_) | with_reducible exact H | (rw [bP]; exact H) | exact H
            have bY := Aside0.mk bP; clear bP
            by_cases c11 : (strOfNums br).size + bi.size ≤ 9223372036854775807
            · rw [if_pos c11] at H
              have c11b0 := eq_true c11; have c11b1 : decide ((strOfNums br).size + bi.size ≤ 9223372036854775807) = true := decide_eq_true c11
              try have c11b2 : (9223372036854775807 < (strOfNums br).size + bi.size) = False := eq_false (Nat.not_lt.2 c11)
              have H' := Aside0.mk H; clear H
              go_wp2_with (first | ((with_reducible refine gate_dst (N := 21) rfl ?_); refine Kd.R_lit (Kd.int .u8) _ 5 ?hg (N := 21) ?hd (xs := ([(wrap64 (48 + (Int.tmod bf 10))) % 256] : List Int)) (inner := [.int .u8 ((wrap64 (48 + (Int.tmod bf 10))) % 256)]) (ok := fun _ => True) (okp := fun _ => True) ?hr ?hp (fun _ hk => hk) trivial (Below.refl _ _) (Nat.le_refl _) (by simp) ?_; (case hd => rfl); (case hg => rfl); (case hr => first | (go_simp; done) | (go_simp; rfl)); (case hp => exact (Reps.one (show Kd.M (Kd.int .u8) _ _ _ ((wrap64 (48 + (Int.tmod bf 10))) % 256) [.int .u8 ((wrap64 (48 + (Int.tmod bf 10))) % 256)] from rfl) (Reps.none _ _))); intro gU gV bQ hb hg_ hnew_; clear hg_ hnew_; (first | rw [← bY.out] at bQ | (simp only [Int.reduceToNat] at bQ; rw [← bY.out] at bQ)); have b7 := Aside0.mk (Kd.R_lower bQ (bsz HB)); replace HB := nbs HB hb; clear hb bQ; have hcv14 := own_string (P := Tryz.prog) Tryz.underlying22 Tryz.underlying5 Tryz.underlying9 (Kd.own_of_R b7.out)))
              go_roundg k1
              case measure => have := bR.out; omega
              case rel => exact ⟨(wrap64 (Int.tdiv bf 10)), ((strOfNums br) ++ bi), (by first | rfl | (simp; done) | (simp [*]; done)), (by first | rfl | (simp; done) | (simp [*]; done)), H', ⟨by have := bR.out; omega⟩, ⟨nbe HB⟩⟩
            · rw [if_neg c11] at H
              exact absurd H (by simp)

end Go.Proofs.YtlmcikjjeidnfaaGreatDoor.PFnTexts
