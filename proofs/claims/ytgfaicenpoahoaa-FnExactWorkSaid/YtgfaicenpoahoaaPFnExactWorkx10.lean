-- Written by a program of this session (wip/patch.py turns a copy of the kit's print): the functions that the law reaches, and their walks.
import Derived.Test.YtgfaicenpoahoaaPFnExactWorkx0
import Derived.Test.YtgfaicenpoahoaaPFnExactWorkx8
import Derived.Test.YtgfaicenpoahoaaPFnExactWorkx9
import Derived.Test.YtgfaicenpoahoaaCFnExactWork
namespace Go.Proofs.Ytgfaicenpoahoaa.PFnExactWork
open Go.RowKit Go.Proofs.YtgfaicenpoahoaaW.PrintWords Go.Proofs.YtgfaicenpoahoaaW.PrintLast Go.Proofs.YtgfaicenpoahoaaW.PrintMore Go.Proofs.YtgfaicenpoahoaaW.Mine
attribute [local go_sem] max2_int min2_int max_two min_two max_three min_three max_four min_four   -- for this text's walks alone
set_option linter.unusedVariables false
set_option linter.unusedSimpArgs false

/-! ### slices_Index_byte_byte: function 47 -/
def slices_Index_byte_byte.l0 : Nat → List Int → Int → Int → Int → Option (Int)
  | 0, _, _, _, _ => none
  | k + 1, x0, x1, x7, x8 => if x8 < x7 then (if 0 ≤ x8 then (if x8 < (x0.length : Int) then (if x1 = (rd x0 x8) then (some x8) else (slices_Index_byte_byte.l0 k x0 x1 x7 (wrap64 (x8 + 1)))) else (none)) else (none)) else (some (-1))
def slices_Index_byte_byte.f (k : Nat) (l0 : List Int) (a1 : Int) : Option (Int) := slices_Index_byte_byte.l0 k l0 a1 (l0.length : Int) 0
theorem slices_Index_byte_byte.mono_l : ∀ k, (∀ y0 y1 y2 y3, LeO (slices_Index_byte_byte.l0 k y0 y1 y2 y3) (slices_Index_byte_byte.l0 (k + 1) y0 y1 y2 y3))
  | 0 => fun _ _ _ _ r h => by simp [slices_Index_byte_byte.l0] at h
  | k + 1 => by
    have ih0 := slices_Index_byte_byte.mono_l k
    · intro y0 y1 y2 y3
      unfold slices_Index_byte_byte.l0
      repeat' first
      | (with_reducible exact ih0 _ _ _ _)
      | (with_reducible exact LeO.refl _)
      | (with_reducible exact LeO.none _)
      | (with_reducible refine LeO.ite ?_ ?_)
      | (with_reducible refine LeO.bind ?_ (fun _ => ?_))
      | exact ih0 _ _ _ _
      | exact LeO.none _
      | refine LeO.ite ?_ ?_
      | refine LeO.bind ?_ (fun _ => ?_)
theorem slices_Index_byte_byte.mono : ∀ a0 a1 k, LeO (slices_Index_byte_byte.f k a0 a1) (slices_Index_byte_byte.f (k + 1) a0 a1) := by
  intro a0 a1 k; have ih0 := slices_Index_byte_byte.mono_l k
  unfold slices_Index_byte_byte.f
  repeat' first
      | (with_reducible exact ih0 _ _ _ _)
      | (with_reducible exact LeO.refl _)
      | (with_reducible exact LeO.none _)
      | (with_reducible refine LeO.ite ?_ ?_)
      | (with_reducible refine LeO.bind ?_ (fun _ => ?_))
      | exact ih0 _ _ _ _
      | exact LeO.none _
      | refine LeO.ite ?_ ?_
      | refine LeO.bind ?_ (fun _ => ?_)
set_option maxHeartbeats 8000000 in
set_option maxRecDepth 100000 in
theorem slices_Index_byte_byte.calls (k : Nat) (A0 : Option Addr) (c0 : Nat) (l0 : List Int) (a1 : Int) (r : Int) (w : World) (hr0 : Kd.C (Kd.int .u8) w A0 l0.length l0) (hc0 : l0.length ≤ c0) (h : slices_Index_byte_byte.f k l0 a1 = some r) :
    Calls Try.prog 47 #[.slice A0 l0.length c0, .int .u8 a1] w fun e w' => e = .returned (.int .i64 r) ∧ Drawn0 w w' := by
  have bR := Aside0.mk hr0; have dY := Aside0.mk hc0; clear hr0 hc0; have H : (slices_Index_byte_byte.l0 k l0 a1 (l0.length : Int) 0) = some r := h; clear h; have H' := Aside0.mk H; clear H
  go_enter Try.func47, Try.ntmps47
  go_wp2
  go_loopg [8] k (fun kq v8 w' => ∃ (bl : Int), v8 = .int .i64 bl ∧ Aside0 (slices_Index_byte_byte.l0 kq l0 a1 (l0.length : Int) bl = some r) ∧ Aside0 (kq ≤ k) ∧ Drawn0 w w')
  case atStart => exact ⟨(0), (by first | rfl | (simp; done) | (simp [*]; done)), H', ⟨Nat.le_refl _⟩, by repeat (first | exact Drawn0.refl _ | apply Drawn0.step)⟩
  case round =>
    clear H'; try clear p2
    obtain ⟨bl, rfl, HA, dZ, ⟨m1, rfl⟩⟩ := hrel
    cases gk with
    | zero => exact absurd HA.out (by simp [slices_Index_byte_byte.l0])
    | succ k1 =>
      have H := HA.out; clear HA; simp only [slices_Index_byte_byte.l0] at H
      by_cases c3 : bl < (l0.length : Int)
      · rw [if_pos c3] at H
        have c3b0 : decide (bl < (l0.length : Int)) = true := decide_eq_true c3; clear c3
        by_cases c4 : 0 ≤ bl
        · rw [if_pos c4] at H
          have c4b0 : decide (0 ≤ bl) = true := decide_eq_true c4; clear c4
          by_cases c5 : bl < (l0.length : Int)
          · rw [if_pos c5] at H
            have c5b0 : decide (bl < (l0.length : Int)) = true := decide_eq_true c5; clear c5
            by_cases c6 : a1 = (rd l0 bl)
            · rw [if_pos c6] at H
              have c6b0 : (a1 == (rd l0 bl)) = true := beq_iff_eq.mpr c6; have c6b1 : (a1 != (rd l0 bl)) = false := bne_eq_false_iff_eq.mpr c6; clear c6; obtain rfl := Option.some.inj H; have p495 : 0 ≤ (bl : Int) := of_decide_eq_true (by first | (with_reducible assumption) | assumption); have q495 : bl < (l0.length : Int) := of_decide_eq_true (by first | (with_reducible assumption) | assumption); obtain ⟨eJ, e495, eK⟩ := Kd.at_int bR.out bl p495 q495
              cases e495
              replace p495 := eq_true p495; replace q495 := eq_true q495; go_wp2
              go_ret
              exact ⟨by first | rfl | (simp; done) | (simp [*]; done), by repeat (first | exact Drawn0.refl _ | apply Drawn0.step)⟩
            · rw [if_neg c6] at H
              have c6b0 : (a1 == (rd l0 bl)) = false := beq_eq_false_iff_ne.mpr c6; have c6b1 : (a1 != (rd l0 bl)) = true := bne_iff_ne.mpr c6; have H' := Aside0.mk H; clear H; have p495 : 0 ≤ (bl : Int) := of_decide_eq_true (by first | (with_reducible assumption) | assumption); have q495 : bl < (l0.length : Int) := of_decide_eq_true (by first | (with_reducible assumption) | assumption); obtain ⟨eJ, e495, eK⟩ := Kd.at_int bR.out bl p495 q495
              cases e495
              replace p495 := eq_true p495; replace q495 := eq_true q495; go_wp2
              go_roundg k1
              case measure => have := dZ.out; omega
              case rel => exact ⟨(wrap64 (bl + 1)), (by first | rfl | (simp; done) | (simp [*]; done)), H', ⟨by have := dZ.out; omega⟩, by repeat (first | exact Drawn0.refl _ | apply Drawn0.step)⟩
          · rw [if_neg c5] at H
            exact absurd H (by simp)
        · rw [if_neg c4] at H
          exact absurd H (by simp)
      · rw [if_neg c3] at H
        have c3b0 : decide (bl < (l0.length : Int)) = false := decide_eq_false c3; clear c3; obtain rfl := Option.some.inj H; go_wp2
        go_ret
        exact ⟨by first | rfl | (simp; done) | (simp [*]; done), by repeat (first | exact Drawn0.refl _ | apply Drawn0.step)⟩

/-! ### slices_Contains_byte_byte: function 33 -/
def slices_Contains_byte_byte.f (k : Nat) (l0 : List Int) (a1 : Int) : Option (Bool) := (slices_Index_byte_byte.f k l0 a1).bind fun bC => (some (decide (bC ≥ 0)))
theorem slices_Contains_byte_byte.mono : ∀ a0 a1 k, LeO (slices_Contains_byte_byte.f k a0 a1) (slices_Contains_byte_byte.f (k + 1) a0 a1) := by
  intro a0 a1 k
  unfold slices_Contains_byte_byte.f
  repeat' first
      | (with_reducible exact slices_Index_byte_byte.mono _ _ _)
      | (with_reducible exact LeO.refl _)
      | (with_reducible exact LeO.none _)
      | (with_reducible refine LeO.ite ?_ ?_)
      | (with_reducible refine LeO.bind ?_ (fun _ => ?_))
      | exact slices_Index_byte_byte.mono _ _ _
      | exact LeO.none _
      | refine LeO.ite ?_ ?_
      | refine LeO.bind ?_ (fun _ => ?_)
set_option maxHeartbeats 8000000 in
set_option maxRecDepth 100000 in
theorem slices_Contains_byte_byte.calls (k : Nat) (A0 : Option Addr) (c0 : Nat) (l0 : List Int) (a1 : Int) (r : Bool) (w : World) (hr0 : Kd.C (Kd.int .u8) w A0 l0.length l0) (hc0 : l0.length ≤ c0) (h : slices_Contains_byte_byte.f k l0 a1 = some r) :
    Calls Try.prog 33 #[.slice A0 l0.length c0, .int .u8 a1] w fun e w' => e = .returned (.bool r) ∧ Drawn0 w w' := by
  have bR := Aside0.mk hr0; have dY := Aside0.mk hc0; clear hr0 hc0; have H : ((slices_Index_byte_byte.f k l0 a1).bind fun bC => (some (decide (bC ≥ 0)))) = some r := h; clear h; replace H := Option.bind_eq_some_iff.mp H; obtain ⟨bC, A30, H⟩ := H; replace H : (some (decide (bC ≥ 0))) = some r := H; have A3 := Aside0.mk A30; clear A30; obtain rfl := Option.some.inj H
  go_enter Try.func33, Try.ntmps33
  go_wp2_with (first | ((with_reducible refine gate_callee (f := 47) rfl ?_); refine goesM (some 7) rfl rfl Try.func47 (by kernel_rfl) rfl #[.slice A0 l0.length c0, .int .u8 a1] rfl ?_; (with_reducible refine (slices_Index_byte_byte.calls k _ _ l0 a1 bC _ ?side1 ?side2 A3.out).mono ?_); (case side1 => exact nC bR); (case side2 => exact dY.out); rintro e w' ⟨rfl, ⟨nd, rfl⟩⟩; refine ⟨_, rfl, ?_⟩))
  go_ret
  exact ⟨by first | rfl | (simp; done) | (simp [*]; done), by repeat (first | exact Drawn0.refl _ | apply Drawn0.step)⟩

/-! ### impl_hasPart: function 17 -/
theorem impl_hasPart.reads (W : World) (s : ByteArray) (g : Nat) (hg : g = W.heap.size) (hs : s.size ≤ 9223372036854775807) : Kd.C (Kd.int .u8) (Lib.bytesWorld W 5 s) (some ⟨g, 0, none⟩) s.size (bytesOf s) := by
  subst hg; obtain ⟨h1, h2, h3⟩ := bytes_reads W 5 s hs; refine ⟨h1, h2, fun hp => ?_⟩; obtain ⟨ad, e, hc⟩ := h3 hp; refine ⟨ad, e, fun j p hj => ⟨[.int .u8 p], rfl, rfl, fun i u hu => ?_⟩⟩
  have hi : i = 0 := by
    cases i with
    | zero => rfl
    | succ i => simp at hu
  subst hi; obtain rfl : Value.int .u8 p = u := by simpa using hu
  have hjl : j < s.size := by
    rw [← h1]; exact (List.getElem?_eq_some_iff.1 hj).1
  have h4 := hc j hjl; rw [List.getD_eq_getElem?_getD, hj] at h4; have h5 : j * (Kd.int .u8).sz + 0 = j := Nat.mul_one j; rw [h5]; exact h4
def impl_hasPart.f (k : Nat) (a0_0 : Int) (a0_1 : Int) (a0_2 : Int) (a0_3 : Int) (a0_4 : Int) (a1 : Int) : Option (Bool) := (impl_formOf.f k a0_0).bind fun bt => (if bt.1.size ≤ 9223372036854775807 then slices_Contains_byte_byte.f k (bytesOf bt.1) a1 else none)
theorem impl_hasPart.mono : ∀ a0 a1 a2 a3 a4 a5 k, LeO (impl_hasPart.f k a0 a1 a2 a3 a4 a5) (impl_hasPart.f (k + 1) a0 a1 a2 a3 a4 a5) := by
  intro a0 a1 a2 a3 a4 a5 k
  unfold impl_hasPart.f
  refine LeO.bind ?_ (fun _ => ?_)
  · first | exact impl_formOf.mono _ _ | exact LeO.refl _
  · refine LeO.ite ?_ ?_
    · first | exact slices_Contains_byte_byte.mono _ _ _ | exact LeO.refl _
    · exact LeO.none _
set_option maxHeartbeats 8000000 in
set_option maxRecDepth 100000 in
theorem impl_hasPart.calls (k : Nat) (a0_0 : Int) (a0_1 : Int) (a0_2 : Int) (a0_3 : Int) (a0_4 : Int) (a1 : Int) (r : Bool) (w : World) (h : impl_hasPart.f k a0_0 a0_1 a0_2 a0_3 a0_4 a1 = some r) :
  Calls Try.prog 17 #[.agg #[.int .i64 a0_0, .int .i64 a0_1, .int .i64 a0_2, .int .i64 a0_3, .int .i64 a0_4], .int .u8 a1] w fun e w' => e = .returned (.bool r) ∧ Below w.heap.size w w' := by
 obtain ⟨⟨s, b⟩, A80, H⟩ := Option.bind_eq_some_iff.mp h; have A8 := Aside0.mk A80; clear A80 h; replace H : (if s.size ≤ 9223372036854775807 then slices_Contains_byte_byte.f k (bytesOf s) a1 else none) = some r := H
 by_cases hs : s.size ≤ 9223372036854775807
 · rw [if_pos hs] at H
   have HC : Aside0 (∀ (W : World) (ad : Option Addr) (c : Nat), Kd.C (Kd.int .u8) W ad s.size (bytesOf s) → s.size ≤ c → Calls Try.prog 33 #[.slice ad s.size c, .int .u8 a1] W fun e w' => e = .returned (.bool r) ∧ Drawn0 W w') := by
     refine ⟨fun W ad c h1 h2 => ?_⟩; rw [← bytesOf_length s] at h1 h2 ⊢; exact slices_Contains_byte_byte.calls k ad c (bytesOf s) a1 r W h1 h2 H
   clear H; have HS := Aside0.mk hs; clear hs; have kb := fun (W : World) => print_bytes (P := Try.prog) 9 54 5 Try.underlying9 Try.underlying54 Try.underlying5 s W
   have HB := Aside0.mk (Below.refl w.heap.size w)
   go_enter Try.func17, Try.ntmps17
   go_wp2_with (first | (go_at_call 32; refine (impl_formOf.calls k a0_0 s b _ A8.out).mono ?_; rintro e w' ⟨rfl, ⟨nd, rfl⟩⟩) | (go_at_call 33; refine (HC.out _ _ _ ?hrd (grownCap_ge _ _ _ _)).mono ?_; (case hrd => exact impl_hasPart.reads _ s _ (by simp) HS.out); rintro e w' ⟨rfl, ⟨nd2, rfl⟩⟩))
   go_ret
   refine ⟨rfl, ?_⟩; exact pw_below_drewN (bytes_below (pw_below_drewN (below_alloc HB.out _) _) (below_size (pw_below_drewN (below_alloc HB.out _) _)) _ _) _
 · rw [if_neg hs] at H
   exact absurd H (by simp)

/-! ### impl_Bare: function 48 -/
def impl_Bare.f (a0_0 : Int) (a0_1 : Bool) (a0_2 : Int) (a0_3 : Int) (a0_4 : Int) (a0_5 : Int) : Option (Int × Bool × Int × Int × Int × Int) := (impl_Plain.f a0_0).bind fun bp => (some (bp.1, bp.2.1, bp.2.2.1, bp.2.2.2.1, bp.2.2.2.2.1, bp.2.2.2.2.2))
set_option maxHeartbeats 8000000 in
set_option maxRecDepth 100000 in
theorem impl_Bare.calls (a0_0 : Int) (a0_1 : Bool) (a0_2 : Int) (a0_3 : Int) (a0_4 : Int) (a0_5 : Int) (r1 : Int) (r2 : Bool) (r3 : Int) (r4 : Int) (r5 : Int) (r6 : Int) (w : World) (h : impl_Bare.f a0_0 a0_1 a0_2 a0_3 a0_4 a0_5 = some (r1, r2, r3, r4, r5, r6)) :
    Calls Try.prog 48 #[.agg #[.int .i64 a0_0, .bool a0_1, .int .i64 a0_2, .int .i64 a0_3, .int .i64 a0_4, .int .i64 a0_5]] w fun e w' => e = .returned (.agg #[.int .i64 r1, .bool r2, .int .i64 r3, .int .i64 r4, .int .i64 r5, .int .i64 r6]) ∧ Below w.heap.size w w' := by
  have hu30 := Try.underlying30; have HB := Aside0.mk (Below.refl w.heap.size w); have H : ((impl_Plain.f a0_0).bind fun bp => (some (bp.1, bp.2.1, bp.2.2.1, bp.2.2.2.1, bp.2.2.2.2.1, bp.2.2.2.2.2))) = some (r1, r2, r3, r4, r5, r6) := h; clear h; replace H := Option.bind_eq_some_iff.mp H; obtain ⟨⟨b2, b3, b4, b5, b6, b7⟩, A20, H⟩ := H; replace H : (some (b2, b3, b4, b5, b6, b7)) = some (r1, r2, r3, r4, r5, r6) := H; have A2 := Aside0.mk A20; clear A20; simp only [Option.some.injEq, Prod.mk.injEq] at H; obtain ⟨rfl, rfl, rfl, rfl, rfl, rfl⟩ := H
  go_enter Try.func48, Try.ntmps48
  go_wp2_with (first | ((with_reducible refine gate_dst (N := 1) rfl ?_); refine bxe 1 #[.int .i64 a0_0, .bool a0_1, .int .i64 a0_2, .int .i64 a0_3, .int .i64 a0_4, .int .i64 a0_5] 30 ?_; intro hR hg w3 hbox hb; have bA := hbox; have hS := nge HB hg; have hT := nge HB hg; replace HB := nbs HB hb; clear hb hbox hg) | ((with_reducible refine gate_dst (N := 2) rfl ?_); refine bxe 2 #[.int .i64 0, .bool false, .int .i64 0, .int .i64 0, .int .i64 0, .int .i64 0] 30 ?_; intro eL hg w4 hbox hb; have bJ := hbox; have hU := nge HB hg; have hV := nge HB hg; have eM := nlt bA hg; have eN := ngt bA hg; replace bA := nblk bA hb; replace HB := nbs HB hb; clear hb hbox hg; have hW := eM.out; have hX := eN.out; obtain ⟨eO, eP, eQ, eR, eS, eT⟩ := c6e bA; obtain ⟨eU, eV, eW, eX, eY, eZ⟩ := z6_ bA) | ((with_reducible refine gate_callee (f := 29) rfl ?_); refine goesM (some 5) rfl rfl Try.func29 (by kernel_rfl) rfl #[.int .i64 a0_0] rfl ?_; (with_reducible refine (impl_Plain.calls a0_0 b2 b3 b4 b5 b6 b7 _ A2.out).mono ?_); rintro e w7 ⟨rfl, hb⟩; refine ⟨_, rfl, ?_⟩; replace bA := nblk bA hb; replace bJ := nblk bJ hb; replace HB := nbs HB hb; (try clear hb); obtain ⟨d0, d1, d2, d3, d4, d5⟩ := c6e bJ; obtain ⟨d6, d7, d8, d9, ea, eb⟩ := z6_ bJ))
  refine bodyPost_ret (results_cell_row rfl _ _ eL 30 #[.int .i64 b2, .bool b3, .int .i64 b4, .int .i64 b5, .int .i64 b6, .int .i64 b7] (0, 0) _ rfl (q6 bJ) Try.underlying30 rfl (by kernel_rfl)) rfl ?_; exact ⟨er_, nbe HB⟩

/-! ### impl_Weaken: function 34 -/
def impl_Weaken.f (k : Nat) (a0_0 : Int) (a0_1 : Bool) (a0_2 : Int) (a0_3 : Int) (a0_4 : Int) (a0_5 : Int) (a1 : Int) : Option (Int × Bool × Int × Int × Int × Int) := (impl_open.f k a0_0 a0_1 a0_2 a0_3 a0_4 a0_5).bind fun bD => (if bD = true then (some (a0_0, a0_1, a0_2, a0_3, Go.bits .and .i64 a0_4 (Go.bits .and .i64 a1 63), a0_5)) else ((impl_Bare.f a0_0 a0_1 a0_2 a0_3 a0_4 a0_5).bind fun bh => (some (bh.1, bh.2.1, bh.2.2.1, bh.2.2.2.1, bh.2.2.2.2.1, bh.2.2.2.2.2))))
theorem impl_Weaken.mono : ∀ a0 a1 a2 a3 a4 a5 a6 k, LeO (impl_Weaken.f k a0 a1 a2 a3 a4 a5 a6) (impl_Weaken.f (k + 1) a0 a1 a2 a3 a4 a5 a6) := by
  intro a0 a1 a2 a3 a4 a5 a6 k
  unfold impl_Weaken.f
  repeat' first
      | (with_reducible exact impl_open.mono _ _ _ _ _ _ _)
      | (with_reducible exact LeO.refl _)
      | (with_reducible exact LeO.none _)
      | (with_reducible refine LeO.ite ?_ ?_)
      | (with_reducible refine LeO.bind ?_ (fun _ => ?_))
      | exact impl_open.mono _ _ _ _ _ _ _
      | exact LeO.none _
      | refine LeO.ite ?_ ?_
      | refine LeO.bind ?_ (fun _ => ?_)
set_option maxHeartbeats 8000000 in
set_option maxRecDepth 100000 in
theorem impl_Weaken.calls (k : Nat) (a0_0 : Int) (a0_1 : Bool) (a0_2 : Int) (a0_3 : Int) (a0_4 : Int) (a0_5 : Int) (a1 : Int) (r1 : Int) (r2 : Bool) (r3 : Int) (r4 : Int) (r5 : Int) (r6 : Int) (w : World) (h : impl_Weaken.f k a0_0 a0_1 a0_2 a0_3 a0_4 a0_5 a1 = some (r1, r2, r3, r4, r5, r6)) :
    Calls Try.prog 34 #[.agg #[.int .i64 a0_0, .bool a0_1, .int .i64 a0_2, .int .i64 a0_3, .int .i64 a0_4, .int .i64 a0_5], .int .i64 a1] w fun e w' => e = .returned (.agg #[.int .i64 r1, .bool r2, .int .i64 r3, .int .i64 r4, .int .i64 r5, .int .i64 r6]) ∧ Below w.heap.size w w' := by
  have hu30 := Try.underlying30; have HB := Aside0.mk (Below.refl w.heap.size w); have H : ((impl_open.f k a0_0 a0_1 a0_2 a0_3 a0_4 a0_5).bind fun bD => (if bD = true then (some (a0_0, a0_1, a0_2, a0_3, Go.bits .and .i64 a0_4 (Go.bits .and .i64 a1 63), a0_5)) else ((impl_Bare.f a0_0 a0_1 a0_2 a0_3 a0_4 a0_5).bind fun bh => (some (bh.1, bh.2.1, bh.2.2.1, bh.2.2.2.1, bh.2.2.2.2.1, bh.2.2.2.2.2))))) = some (r1, r2, r3, r4, r5, r6) := h; clear h; replace H := Option.bind_eq_some_iff.mp H; obtain ⟨bD, A30, H⟩ := H; replace H : (if bD = true then (some (a0_0, a0_1, a0_2, a0_3, Go.bits .and .i64 a0_4 (Go.bits .and .i64 a1 63), a0_5)) else ((impl_Bare.f a0_0 a0_1 a0_2 a0_3 a0_4 a0_5).bind fun bh => (some (bh.1, bh.2.1, bh.2.2.1, bh.2.2.2.1, bh.2.2.2.2.1, bh.2.2.2.2.2)))) = some (r1, r2, r3, r4, r5, r6) := H; have A3 := Aside0.mk A30; clear A30
  by_cases c4 : bD = true
  · subst c4
    have H1 : (some (a0_0, a0_1, a0_2, a0_3, Go.bits .and .i64 a0_4 (Go.bits .and .i64 a1 63), a0_5)) = some (r1, r2, r3, r4, r5, r6) := by rw [if_pos rfl] at H; exact H
    clear H; have H := H1; clear H1; simp only [Option.some.injEq, Prod.mk.injEq] at H; obtain ⟨rfl, rfl, rfl, rfl, rfl, rfl⟩ := H
    go_enter Try.func34, Try.ntmps34
    go_wp2_with (first | ((with_reducible refine gate_dst (N := 2) rfl ?_); refine bxe 2 #[.int .i64 a0_0, .bool a0_1, .int .i64 a0_2, .int .i64 a0_3, .int .i64 a0_4, .int .i64 a0_5] 30 ?_; intro e0 hg w5 hbox hb; have bk := hbox; have e1 := nge HB hg; have e2 := nge HB hg; replace HB := nbs HB hb; clear hb hbox hg) | ((with_reducible refine gate_dst (N := 4) rfl ?_); refine bxe 4 #[.int .i64 0, .bool false, .int .i64 0, .int .i64 0, .int .i64 0, .int .i64 0] 30 ?_; intro b8 hg w6 hbox hb; have bo := hbox; have e3 := nge HB hg; have e4 := nge HB hg; have b9 := nlt bk hg; have bS := ngt bk hg; replace bk := nblk bk hb; replace HB := nbs HB hb; clear hb hbox hg; have hY := b9.out; have hZ := bS.out; obtain ⟨d0, d1, d2, d3, d4, d5⟩ := c6e bk; obtain ⟨d6, d7, d8, d9, ea, eb⟩ := z6_ bk) | ((with_reducible refine gate_callee (f := 30) rfl ?_); refine goesM (some 6) rfl rfl Try.func30 (by kernel_rfl) rfl #[.agg #[.int .i64 a0_0, .bool a0_1, .int .i64 a0_2, .int .i64 a0_3, .int .i64 a0_4, .int .i64 a0_5]] rfl ?_; (with_reducible refine (impl_open.calls k a0_0 a0_1 a0_2 a0_3 a0_4 a0_5 true _ A3.out).mono ?_); rintro e w9 ⟨rfl, hb⟩; refine ⟨_, rfl, ?_⟩; replace bk := nblk bk hb; replace bo := nblk bo hb; replace HB := nbs HB hb; (try clear hb); obtain ⟨ec, ed, ee, ef, eg, eh⟩ := c6e bk; obtain ⟨ei, ej, ek, el, em, en⟩ := z6_ bk; obtain ⟨h0, h6, h7, h8, h9, ia⟩ := c6e bo; obtain ⟨ib, ic, ig, ih, ii, ij⟩ := z6_ bo))
    refine bodyPost_ret (results_cell_row rfl _ _ b8 30 #[.int .i64 a0_0, .bool a0_1, .int .i64 a0_2, .int .i64 a0_3, .int .i64 (Go.bits .and .i64 a0_4 (Go.bits .and .i64 a1 63)), .int .i64 a0_5] (0, 0) _ rfl (p6 bo (k1_ bS.out (nb bo))) Try.underlying30 rfl (by kernel_rfl)) rfl ?_; exact ⟨er_, nbe HB⟩
  · replace c4 := Bool.eq_false_iff.mpr c4
    subst c4; have H1 : ((impl_Bare.f a0_0 a0_1 a0_2 a0_3 a0_4 a0_5).bind fun bh => (some (bh.1, bh.2.1, bh.2.2.1, bh.2.2.2.1, bh.2.2.2.2.1, bh.2.2.2.2.2))) = some (r1, r2, r3, r4, r5, r6) := by rw [if_neg (show ¬ (false = true) by decide)] at H; exact H
    clear H; have H := H1; clear H1; replace H := Option.bind_eq_some_iff.mp H; obtain ⟨⟨da, db, dc, dd, de, df⟩, A120, H⟩ := H; replace H : (some (da, db, dc, dd, de, df)) = some (r1, r2, r3, r4, r5, r6) := H; have A12 := Aside0.mk A120; clear A120; simp only [Option.some.injEq, Prod.mk.injEq] at H; obtain ⟨rfl, rfl, rfl, rfl, rfl, rfl⟩ := H
    go_enter Try.func34, Try.ntmps34
    go_wp2_with (first | ((with_reducible refine gate_dst (N := 2) rfl ?_); refine bxe 2 #[.int .i64 a0_0, .bool a0_1, .int .i64 a0_2, .int .i64 a0_3, .int .i64 a0_4, .int .i64 a0_5] 30 ?_; intro e0 hg e5 hbox hb; have bk := hbox; have e1 := nge HB hg; have e2 := nge HB hg; replace HB := nbs HB hb; clear hb hbox hg) | ((with_reducible refine gate_dst (N := 4) rfl ?_); refine bxe 4 #[.int .i64 0, .bool false, .int .i64 0, .int .i64 0, .int .i64 0, .int .i64 0] 30 ?_; intro b8 hg e6 hbox hb; have bo := hbox; have e3 := nge HB hg; have e4 := nge HB hg; have b9 := nlt bk hg; have bS := ngt bk hg; replace bk := nblk bk hb; replace HB := nbs HB hb; clear hb hbox hg; have ik := b9.out; have il := bS.out; obtain ⟨im, io, ip, iq, ir, iu⟩ := c6e bk; obtain ⟨iv, iw, ix, iy, iz, iA⟩ := z6_ bk) | ((with_reducible refine gate_callee (f := 30) rfl ?_); refine goesM (some 6) rfl rfl Try.func30 (by kernel_rfl) rfl #[.agg #[.int .i64 a0_0, .bool a0_1, .int .i64 a0_2, .int .i64 a0_3, .int .i64 a0_4, .int .i64 a0_5]] rfl ?_; (with_reducible refine (impl_open.calls k a0_0 a0_1 a0_2 a0_3 a0_4 a0_5 false _ A3.out).mono ?_); rintro e iB ⟨rfl, hb⟩; refine ⟨_, rfl, ?_⟩; replace bk := nblk bk hb; replace bo := nblk bo hb; replace HB := nbs HB hb; (try clear hb); obtain ⟨dg, dh, di, dj, dk, dl⟩ := c6e bk; obtain ⟨dm, dn, dp, dq, dr, ds⟩ := z6_ bk) | ((with_reducible refine gate_callee (f := 48) rfl ?_); refine goesM (some 9) rfl rfl Try.func48 (by kernel_rfl) rfl #[.agg #[.int .i64 a0_0, .bool a0_1, .int .i64 a0_2, .int .i64 a0_3, .int .i64 a0_4, .int .i64 a0_5]] rfl ?_; (with_reducible refine (impl_Bare.calls a0_0 a0_1 a0_2 a0_3 a0_4 a0_5 da db dc dd de df _ A12.out).mono ?_); rintro e e7 ⟨rfl, hb⟩; refine ⟨_, rfl, ?_⟩; replace bk := nblk bk hb; replace bo := nblk bo hb; replace HB := nbs HB hb; (try clear hb); obtain ⟨eo, ep, er, es, et, eu⟩ := c6e bo; obtain ⟨ev, ew, ex, ey, ez, eA⟩ := z6_ bo))
    refine bodyPost_ret (results_cell_row rfl _ _ b8 30 #[.int .i64 da, .bool db, .int .i64 dc, .int .i64 dd, .int .i64 de, .int .i64 df] (0, 0) _ rfl (q6 bo) Try.underlying30 rfl (by kernel_rfl)) rfl ?_; exact ⟨er_, nbe HB⟩

/-! ### impl_Narrow: function 35 -/
def impl_Narrow.j0 : Nat → Int → Bool → Int → Bool → Int → Int → Int → Int → Option (Int × Bool × Int × Int × Int × Int)
  | 0, _, _, _, _, _, _, _, _ => none
  | k + 1, x1, e8, bE, bT, bU, bV, bW, bX => if e8 = true then ((impl_Bare.f bE bT bU bV bW bX).bind fun bq => (some (bq.1, bq.2.1, bq.2.2.1, bq.2.2.2.1, bq.2.2.2.2.1, bq.2.2.2.2.2))) else ((impl_Wide.f k bE (wrap64 (bE + x1))).bind fun bv => (if bv.1 < bU then ((impl_Bare.f bE bT bU bV bW bX).bind fun bm => (some (bm.1, bm.2.1, bm.2.2.1, bm.2.2.2.1, bm.2.2.2.2.1, bm.2.2.2.2.2))) else (if bv.2 > bV then ((impl_Bare.f bE bT bU bV bW bX).bind fun bn => (some (bn.1, bn.2.1, bn.2.2.1, bn.2.2.2.1, bn.2.2.2.2.1, bn.2.2.2.2.2))) else (some (bE, bT, bv.1, bv.2, bW, bX)))))
def impl_Narrow.f (k : Nat) (a0_0 : Int) (a0_1 : Bool) (a0_2 : Int) (a0_3 : Int) (a0_4 : Int) (a0_5 : Int) (a1 : Int) : Option (Int × Bool × Int × Int × Int × Int) := (impl_open.f k a0_0 a0_1 a0_2 a0_3 a0_4 a0_5).bind fun bF => (if bF = true then (if a1 < 0 then (impl_Narrow.j0 k a1 true a0_0 a0_1 a0_2 a0_3 a0_4 a0_5) else (if a1 > 4096 then (impl_Narrow.j0 k a1 true a0_0 a0_1 a0_2 a0_3 a0_4 a0_5) else ((impl_BoundsOk.f a0_0 (wrap64 (a0_0 + a1))).bind fun br => (impl_Narrow.j0 k a1 (!br) a0_0 a0_1 a0_2 a0_3 a0_4 a0_5)))) else (impl_Narrow.j0 k a1 true a0_0 a0_1 a0_2 a0_3 a0_4 a0_5))
theorem impl_Narrow.mono_l : ∀ k, (∀ y0 y1 y2 y3 y4 y5 y6 y7, LeO (impl_Narrow.j0 k y0 y1 y2 y3 y4 y5 y6 y7) (impl_Narrow.j0 (k + 1) y0 y1 y2 y3 y4 y5 y6 y7))
  | 0 => fun _ _ _ _ _ _ _ _ r h => by simp [impl_Narrow.j0] at h
  | k + 1 => by
    have ih0 := impl_Narrow.mono_l k
    · intro y0 y1 y2 y3 y4 y5 y6 y7
      unfold impl_Narrow.j0
      repeat' first
      | (with_reducible exact ih0 _ _ _ _ _ _ _ _)
      | (with_reducible exact impl_Wide.mono _ _ _)
      | (with_reducible exact impl_open.mono _ _ _ _ _ _ _)
      | (with_reducible exact LeO.refl _)
      | (with_reducible exact LeO.none _)
      | (with_reducible refine LeO.ite ?_ ?_)
      | (with_reducible refine LeO.bind ?_ (fun _ => ?_))
      | exact ih0 _ _ _ _ _ _ _ _
      | exact impl_Wide.mono _ _ _
      | exact impl_open.mono _ _ _ _ _ _ _
      | exact LeO.none _
      | refine LeO.ite ?_ ?_
      | refine LeO.bind ?_ (fun _ => ?_)
theorem impl_Narrow.mono : ∀ a0 a1 a2 a3 a4 a5 a6 k, LeO (impl_Narrow.f k a0 a1 a2 a3 a4 a5 a6) (impl_Narrow.f (k + 1) a0 a1 a2 a3 a4 a5 a6) := by
  intro a0 a1 a2 a3 a4 a5 a6 k; have ih0 := impl_Narrow.mono_l k
  unfold impl_Narrow.f
  repeat' first
      | (with_reducible exact ih0 _ _ _ _ _ _ _ _)
      | (with_reducible exact impl_Wide.mono _ _ _)
      | (with_reducible exact impl_open.mono _ _ _ _ _ _ _)
      | (with_reducible exact LeO.refl _)
      | (with_reducible exact LeO.none _)
      | (with_reducible refine LeO.ite ?_ ?_)
      | (with_reducible refine LeO.bind ?_ (fun _ => ?_))
      | exact ih0 _ _ _ _ _ _ _ _
      | exact impl_Wide.mono _ _ _
      | exact impl_open.mono _ _ _ _ _ _ _
      | exact LeO.none _
      | refine LeO.ite ?_ ?_
      | refine LeO.bind ?_ (fun _ => ?_)
set_option maxHeartbeats 8000000 in
set_option maxRecDepth 100000 in
theorem impl_Narrow.calls (k : Nat) (a0_0 : Int) (a0_1 : Bool) (a0_2 : Int) (a0_3 : Int) (a0_4 : Int) (a0_5 : Int) (a1 : Int) (r1 : Int) (r2 : Bool) (r3 : Int) (r4 : Int) (r5 : Int) (r6 : Int) (w : World) (h : impl_Narrow.f k a0_0 a0_1 a0_2 a0_3 a0_4 a0_5 a1 = some (r1, r2, r3, r4, r5, r6)) :
    Calls Try.prog 35 #[.agg #[.int .i64 a0_0, .bool a0_1, .int .i64 a0_2, .int .i64 a0_3, .int .i64 a0_4, .int .i64 a0_5], .int .i64 a1] w fun e w' => e = .returned (.agg #[.int .i64 r1, .bool r2, .int .i64 r3, .int .i64 r4, .int .i64 r5, .int .i64 r6]) ∧ Below w.heap.size w w' := by
  have hu30 := Try.underlying30; have HB := Aside0.mk (Below.refl w.heap.size w); have H : ((impl_open.f k a0_0 a0_1 a0_2 a0_3 a0_4 a0_5).bind fun bF => (if bF = true then (if a1 < 0 then (impl_Narrow.j0 k a1 true a0_0 a0_1 a0_2 a0_3 a0_4 a0_5) else (if a1 > 4096 then (impl_Narrow.j0 k a1 true a0_0 a0_1 a0_2 a0_3 a0_4 a0_5) else ((impl_BoundsOk.f a0_0 (wrap64 (a0_0 + a1))).bind fun br => (impl_Narrow.j0 k a1 (!br) a0_0 a0_1 a0_2 a0_3 a0_4 a0_5)))) else (impl_Narrow.j0 k a1 true a0_0 a0_1 a0_2 a0_3 a0_4 a0_5))) = some (r1, r2, r3, r4, r5, r6) := h; clear h; have dt := Aside0.mk H; clear H
  go_enter Try.func35, Try.ntmps35
  go_upto_region 1 with (first | ((with_reducible refine gate_dst (N := 2) rfl ?_); refine bxe 2 #[.int .i64 a0_0, .bool a0_1, .int .i64 a0_2, .int .i64 a0_3, .int .i64 a0_4, .int .i64 a0_5] 30 ?_; intro e9 hg w4 hbox hb; have ba := hbox; have iC := nge HB hg; have iD := nge HB hg; replace HB := nbs HB hb; clear hb hbox hg) | ((with_reducible refine gate_dst (N := 4) rfl ?_); refine bxe 4 #[.int .i64 0, .bool false, .int .i64 0, .int .i64 0, .int .i64 0, .int .i64 0] 30 ?_; intro bK hg w5 hbox hb; have bd := hbox; have iE := nge HB hg; have iF := nge HB hg; have bB := nlt ba hg; have bw := ngt ba hg; replace ba := nblk ba hb; replace HB := nbs HB hb; clear hb hbox hg))
  (try simp only [Act.put, List.setIfInBounds_toArray, List.set_cons_zero, List.set_cons_succ])
  go_cut [27] (fun ga wc => ∃ (kq : Nat) (bY : Bool), ga = .bool bY ∧ Aside0 (impl_Narrow.j0 kq a1 bY a0_0 a0_1 a0_2 a0_3 a0_4 a0_5 = some (r1, r2, r3, r4, r5, r6)) ∧ Aside0 (kq ≤ k) ∧ Aside0 (wc.heap[e9]? = some (.cells #[.int .i64 a0_0, .bool a0_1, .int .i64 a0_2, .int .i64 a0_3, .int .i64 a0_4, .int .i64 a0_5] 30 (0, 0))) ∧ Aside0 (wc.heap[bK]? = some (.cells #[.int .i64 0, .bool false, .int .i64 0, .int .i64 0, .int .i64 0, .int .i64 0] 30 (0, 0))) ∧ Aside0 (Below w.heap.size w wc))
  case first =>
    have H := dt.out; clear dt; replace H := Option.bind_eq_some_iff.mp H; obtain ⟨bF, A60, H⟩ := H; replace H : (if bF = true then (if a1 < 0 then (impl_Narrow.j0 k a1 true a0_0 a0_1 a0_2 a0_3 a0_4 a0_5) else (if a1 > 4096 then (impl_Narrow.j0 k a1 true a0_0 a0_1 a0_2 a0_3 a0_4 a0_5) else ((impl_BoundsOk.f a0_0 (wrap64 (a0_0 + a1))).bind fun br => (impl_Narrow.j0 k a1 (!br) a0_0 a0_1 a0_2 a0_3 a0_4 a0_5)))) else (impl_Narrow.j0 k a1 true a0_0 a0_1 a0_2 a0_3 a0_4 a0_5)) = some (r1, r2, r3, r4, r5, r6) := H; have A6 := Aside0.mk A60; clear A60
    by_cases c7 : bF = true
    · subst c7
      have H1 : (if a1 < 0 then (impl_Narrow.j0 k a1 true a0_0 a0_1 a0_2 a0_3 a0_4 a0_5) else (if a1 > 4096 then (impl_Narrow.j0 k a1 true a0_0 a0_1 a0_2 a0_3 a0_4 a0_5) else ((impl_BoundsOk.f a0_0 (wrap64 (a0_0 + a1))).bind fun br => (impl_Narrow.j0 k a1 (!br) a0_0 a0_1 a0_2 a0_3 a0_4 a0_5)))) = some (r1, r2, r3, r4, r5, r6) := by rw [if_pos rfl] at H; exact H
      clear H; have H := H1; clear H1
      by_cases c8 : a1 < 0
      · rw [if_pos c8] at H
        have c8b0 : decide (a1 < 0) = true := decide_eq_true c8; clear c8; (first | rw [c8b0] | (simp only [i64_w, i32_w]; rw [c8b0]) | skip); have H' := Aside0.mk H; clear H; have iG := bB.out; have iH := bw.out; obtain ⟨ec, ed, ee, ef, eg, eh⟩ := c6e ba; obtain ⟨ei, ej, ek, el, em, en⟩ := z6_ ba
        go_wp2_with (first | ((with_reducible refine gate_callee (f := 30) rfl ?_); refine goesM (some 8) rfl rfl Try.func30 (by kernel_rfl) rfl #[.agg #[.int .i64 a0_0, .bool a0_1, .int .i64 a0_2, .int .i64 a0_3, .int .i64 a0_4, .int .i64 a0_5]] rfl ?_; (with_reducible refine (impl_open.calls k a0_0 a0_1 a0_2 a0_3 a0_4 a0_5 true _ A6.out).mono ?_); rintro e iI ⟨rfl, hb⟩; refine ⟨_, rfl, ?_⟩; replace ba := nblk ba hb; replace bd := nblk bd hb; replace HB := nbs HB hb; (try clear hb)))
        go_meet
        case rel => exact ⟨_, (true), (by first | rfl | (simp; done) | (simp [*]; done)), H', ⟨by first | omega | exact Nat.le_refl _⟩, ⟨nb ba⟩, ⟨nb bd⟩, ⟨nbe HB⟩⟩
      · rw [if_neg c8] at H
        have c8b0 : decide (a1 < 0) = false := decide_eq_false c8; clear c8; (first | rw [c8b0] | (simp only [i64_w, i32_w]; rw [c8b0]) | skip)
        by_cases c12 : a1 > 4096
        · rw [if_pos c12] at H
          have c12b0 : decide (4096 < a1) = true := decide_eq_true c12; clear c12; have H' := Aside0.mk H; clear H; have iJ := bB.out; have iK := bw.out; obtain ⟨gb, gc, gd, gf, gg, gh⟩ := c6e ba; obtain ⟨gi, gj, gl, gm, gn, gp⟩ := z6_ ba
          go_wp2_with (first | ((with_reducible refine gate_callee (f := 30) rfl ?_); refine goesM (some 8) rfl rfl Try.func30 (by kernel_rfl) rfl #[.agg #[.int .i64 a0_0, .bool a0_1, .int .i64 a0_2, .int .i64 a0_3, .int .i64 a0_4, .int .i64 a0_5]] rfl ?_; (with_reducible refine (impl_open.calls k a0_0 a0_1 a0_2 a0_3 a0_4 a0_5 true _ A6.out).mono ?_); rintro e iL ⟨rfl, hb⟩; refine ⟨_, rfl, ?_⟩; replace ba := nblk ba hb; replace bd := nblk bd hb; replace HB := nbs HB hb; (try clear hb)))
          go_meet
          case rel => exact ⟨_, (true), (by first | rfl | (simp; done) | (simp [*]; done)), H', ⟨by first | omega | exact Nat.le_refl _⟩, ⟨nb ba⟩, ⟨nb bd⟩, ⟨nbe HB⟩⟩
        · rw [if_neg c12] at H
          have c12b0 : decide (4096 < a1) = false := decide_eq_false c12; clear c12; replace H := Option.bind_eq_some_iff.mp H; obtain ⟨br, A160, H⟩ := H; replace H : (impl_Narrow.j0 k a1 (!br) a0_0 a0_1 a0_2 a0_3 a0_4 a0_5) = some (r1, r2, r3, r4, r5, r6) := H; have A16 := Aside0.mk A160; clear A160; have H' := Aside0.mk H; clear H; have iM := bB.out; have iN := bw.out; obtain ⟨dg, dh, di, dj, dk, dl⟩ := c6e ba; obtain ⟨dm, dn, dp, dq, dr, ds⟩ := z6_ ba
          go_wp2_with (first | ((with_reducible refine gate_callee (f := 30) rfl ?_); refine goesM (some 8) rfl rfl Try.func30 (by kernel_rfl) rfl #[.agg #[.int .i64 a0_0, .bool a0_1, .int .i64 a0_2, .int .i64 a0_3, .int .i64 a0_4, .int .i64 a0_5]] rfl ?_; (with_reducible refine (impl_open.calls k a0_0 a0_1 a0_2 a0_3 a0_4 a0_5 true _ A6.out).mono ?_); rintro e e7 ⟨rfl, hb⟩; refine ⟨_, rfl, ?_⟩; replace ba := nblk ba hb; replace bd := nblk bd hb; replace HB := nbs HB hb; (try clear hb); obtain ⟨eo, ep, er, es, et, eu⟩ := c6e ba; obtain ⟨ev, ew, ex, ey, ez, eA⟩ := z6_ ba) | (go_at_call 49; (with_reducible refine (impl_BoundsOk.calls a0_0 (wrap64 (a0_0 + a1)) br _ A16.out).mono ?_); rintro e w' ⟨rfl, ⟨nd, rfl⟩⟩))
          go_meet
          case rel => exact ⟨_, (!br), (by first | rfl | (simp; done) | (simp [*]; done)), H', ⟨by first | omega | exact Nat.le_refl _⟩, ⟨nb ba⟩, ⟨nb bd⟩, ⟨nbe HB⟩⟩
    · replace c7 := Bool.eq_false_iff.mpr c7
      subst c7; have H1 : (impl_Narrow.j0 k a1 true a0_0 a0_1 a0_2 a0_3 a0_4 a0_5) = some (r1, r2, r3, r4, r5, r6) := by rw [if_neg (show ¬ (false = true) by decide)] at H; exact H
      clear H; have H := H1; clear H1; have H' := Aside0.mk H; clear H; have iO := bB.out; have iP := bw.out; obtain ⟨gq, gr, gs, gt, gu, gv⟩ := c6e ba; obtain ⟨gw, gx, gy, gz, gA, gB⟩ := z6_ ba
      go_wp2_with (first | ((with_reducible refine gate_callee (f := 30) rfl ?_); refine goesM (some 8) rfl rfl Try.func30 (by kernel_rfl) rfl #[.agg #[.int .i64 a0_0, .bool a0_1, .int .i64 a0_2, .int .i64 a0_3, .int .i64 a0_4, .int .i64 a0_5]] rfl ?_; (with_reducible refine (impl_open.calls k a0_0 a0_1 a0_2 a0_3 a0_4 a0_5 false _ A6.out).mono ?_); rintro e gC ⟨rfl, hb⟩; refine ⟨_, rfl, ?_⟩; replace ba := nblk ba hb; replace bd := nblk bd hb; replace HB := nbs HB hb; (try clear hb)))
      go_meet
      case rel => exact ⟨_, (true), (by first | rfl | (simp; done) | (simp [*]; done)), H', ⟨by first | omega | exact Nat.le_refl _⟩, ⟨nb ba⟩, ⟨nb bd⟩, ⟨nbe HB⟩⟩
  case rest =>
    clear dt; try clear c1
    try clear c2
    try clear p2
    try clear c3
    try clear p6
    try clear c7
    try clear c8
    try clear c8b0
    try clear c9
    try clear c12
    try clear c12b0
    try clear c13
    try clear c17
    try clear c21
    try clear ec
    try clear ed
    try clear ee
    try clear ef
    try clear eg
    try clear eh
    try clear gb
    try clear gc
    try clear gd
    try clear gf
    try clear gg
    try clear gh
    try clear dg
    try clear dh
    try clear di
    try clear dj
    try clear dk
    try clear dl
    try clear eo
    try clear ep
    try clear er
    try clear es
    try clear et
    try clear eu
    try clear gq
    try clear gr
    try clear gs
    try clear gt
    try clear gu
    try clear gv
    try clear ei
    try clear ej
    try clear ek
    try clear el
    try clear em
    try clear en
    try clear gi
    try clear gj
    try clear gl
    try clear gm
    try clear gn
    try clear gp
    try clear dm
    try clear dn
    try clear dp
    try clear dq
    try clear dr
    try clear ds
    try clear ev
    try clear ew
    try clear ex
    try clear ey
    try clear ez
    try clear eA
    try clear gw
    try clear gx
    try clear gy
    try clear gz
    try clear gA
    try clear gB
    obtain ⟨kq, bY, rfl, HA, iQ, ba, bd, HB⟩ := hcut
    cases kq with
    | zero => exact absurd HA.out (by simp [impl_Narrow.j0])
    | succ kj2 =>
      have H := HA.out; clear HA; simp only [impl_Narrow.j0] at H
      by_cases c24 : bY = true
      · subst c24
        have H1 : ((impl_Bare.f a0_0 a0_1 a0_2 a0_3 a0_4 a0_5).bind fun bq => (some (bq.1, bq.2.1, bq.2.2.1, bq.2.2.2.1, bq.2.2.2.2.1, bq.2.2.2.2.2))) = some (r1, r2, r3, r4, r5, r6) := by rw [if_pos rfl] at H; exact H
        clear H; have H := H1; clear H1; replace H := Option.bind_eq_some_iff.mp H; obtain ⟨⟨du, dv, dw, dx, dy, dz⟩, A250, H⟩ := H; replace H : (some (du, dv, dw, dx, dy, dz)) = some (r1, r2, r3, r4, r5, r6) := H; have A25 := Aside0.mk A250; clear A250; simp only [Option.some.injEq, Prod.mk.injEq] at H; obtain ⟨rfl, rfl, rfl, rfl, rfl, rfl⟩ := H; have iR := bB.out; have iS := bw.out; obtain ⟨iT, iU, iV, iW, iX, iY⟩ := c6e ba; obtain ⟨iZ, i0, i1, i2, i3, i4⟩ := z6_ ba
        go_wp2_with (first | ((with_reducible refine gate_callee (f := 48) rfl ?_); refine goesM (some 29) rfl rfl Try.func48 (by kernel_rfl) rfl #[.agg #[.int .i64 a0_0, .bool a0_1, .int .i64 a0_2, .int .i64 a0_3, .int .i64 a0_4, .int .i64 a0_5]] rfl ?_; (with_reducible refine (impl_Bare.calls a0_0 a0_1 a0_2 a0_3 a0_4 a0_5 du dv dw dx dy dz _ A25.out).mono ?_); rintro e i5 ⟨rfl, hb⟩; refine ⟨_, rfl, ?_⟩; replace ba := nblk ba hb; replace bd := nblk bd hb; replace HB := nbs HB hb; (try clear hb); obtain ⟨gD, gE, gF, gG, gH, gI⟩ := c6e bd; obtain ⟨gJ, gK, gL, gM, gN, gO⟩ := z6_ bd))
        refine bodyPost_ret (results_cell_row rfl _ _ bK 30 #[.int .i64 du, .bool dv, .int .i64 dw, .int .i64 dx, .int .i64 dy, .int .i64 dz] (0, 0) _ rfl (q6 bd) Try.underlying30 rfl (by kernel_rfl)) rfl ?_; exact ⟨er_, nbe HB⟩
      · replace c24 := Bool.eq_false_iff.mpr c24
        subst c24; have H1 : ((impl_Wide.f kj2 a0_0 (wrap64 (a0_0 + a1))).bind fun bv => (if bv.1 < a0_2 then ((impl_Bare.f a0_0 a0_1 a0_2 a0_3 a0_4 a0_5).bind fun bm => (some (bm.1, bm.2.1, bm.2.2.1, bm.2.2.2.1, bm.2.2.2.2.1, bm.2.2.2.2.2))) else (if bv.2 > a0_3 then ((impl_Bare.f a0_0 a0_1 a0_2 a0_3 a0_4 a0_5).bind fun bn => (some (bn.1, bn.2.1, bn.2.2.1, bn.2.2.2.1, bn.2.2.2.2.1, bn.2.2.2.2.2))) else (some (a0_0, a0_1, bv.1, bv.2, a0_4, a0_5))))) = some (r1, r2, r3, r4, r5, r6) := by rw [if_neg (show ¬ (false = true) by decide)] at H; exact H
        clear H; have H := H1; clear H1; replace H := Option.bind_eq_some_iff.mp H; obtain ⟨⟨bx, bz⟩, A300, H⟩ := H; replace H : (if bx < a0_2 then ((impl_Bare.f a0_0 a0_1 a0_2 a0_3 a0_4 a0_5).bind fun bm => (some (bm.1, bm.2.1, bm.2.2.1, bm.2.2.2.1, bm.2.2.2.2.1, bm.2.2.2.2.2))) else (if bz > a0_3 then ((impl_Bare.f a0_0 a0_1 a0_2 a0_3 a0_4 a0_5).bind fun bn => (some (bn.1, bn.2.1, bn.2.2.1, bn.2.2.2.1, bn.2.2.2.2.1, bn.2.2.2.2.2))) else (some (a0_0, a0_1, bx, bz, a0_4, a0_5)))) = some (r1, r2, r3, r4, r5, r6) := H; have A30 := Aside0.mk A300; clear A300
        by_cases c31 : bx < a0_2
        · rw [if_pos c31] at H
          have c31b0 : decide (bx < a0_2) = true := decide_eq_true c31; clear c31; replace H := Option.bind_eq_some_iff.mp H; obtain ⟨⟨dA, dB, dC, dD, dE, dF⟩, A320, H⟩ := H; replace H : (some (dA, dB, dC, dD, dE, dF)) = some (r1, r2, r3, r4, r5, r6) := H; have A32 := Aside0.mk A320; clear A320; simp only [Option.some.injEq, Prod.mk.injEq] at H; obtain ⟨rfl, rfl, rfl, rfl, rfl, rfl⟩ := H; have i6 := bB.out; have i7 := bw.out; obtain ⟨i8, i9, ja, jb, jc, jd⟩ := c6e ba; obtain ⟨je, jf, jg, jh, ji, jj⟩ := z6_ ba
          go_wp2_with (first | ((with_reducible refine gate_callee (f := 50) rfl ?_); refine goesM (some 37) rfl rfl Try.func50 (by kernel_rfl) rfl #[.int .i64 a0_0, .int .i64 (wrap64 (a0_0 + a1))] rfl ?_; (with_reducible refine (impl_Wide.calls kj2 a0_0 (wrap64 (a0_0 + a1)) bx bz _ A30.out).mono ?_); rintro e gP ⟨rfl, hb⟩; refine ⟨_, rfl, ?_⟩; replace ba := nblk ba hb; replace bd := nblk bd hb; replace HB := nbs HB hb; (try clear hb); obtain ⟨jk, jl, jm, jn, jo, jp⟩ := c6e ba; obtain ⟨jq, jr, js, jt, ju, jv⟩ := z6_ ba) | ((with_reducible refine gate_callee (f := 48) rfl ?_); refine goesM (some 53) rfl rfl Try.func48 (by kernel_rfl) rfl #[.agg #[.int .i64 a0_0, .bool a0_1, .int .i64 a0_2, .int .i64 a0_3, .int .i64 a0_4, .int .i64 a0_5]] rfl ?_; (with_reducible refine (impl_Bare.calls a0_0 a0_1 a0_2 a0_3 a0_4 a0_5 dA dB dC dD dE dF _ A32.out).mono ?_); rintro e gQ ⟨rfl, hb⟩; refine ⟨_, rfl, ?_⟩; replace ba := nblk ba hb; replace bd := nblk bd hb; replace HB := nbs HB hb; (try clear hb); obtain ⟨jw, jx, jy, jz, jA, jB⟩ := c6e bd; obtain ⟨jC, jD, jE, jF, jG, jH⟩ := z6_ bd))
          refine bodyPost_ret (results_cell_row rfl _ _ bK 30 #[.int .i64 dA, .bool dB, .int .i64 dC, .int .i64 dD, .int .i64 dE, .int .i64 dF] (0, 0) _ rfl (q6 bd) Try.underlying30 rfl (by kernel_rfl)) rfl ?_; exact ⟨er_, nbe HB⟩
        · rw [if_neg c31] at H
          have c31b0 : decide (bx < a0_2) = false := decide_eq_false c31; clear c31
          by_cases c39 : bz > a0_3
          · rw [if_pos c39] at H
            have c39b0 : decide (a0_3 < bz) = true := decide_eq_true c39; clear c39; replace H := Option.bind_eq_some_iff.mp H; obtain ⟨⟨dG, dH, dI, dJ, dK, dL⟩, A400, H⟩ := H; replace H : (some (dG, dH, dI, dJ, dK, dL)) = some (r1, r2, r3, r4, r5, r6) := H; have A40 := Aside0.mk A400; clear A400; simp only [Option.some.injEq, Prod.mk.injEq] at H; obtain ⟨rfl, rfl, rfl, rfl, rfl, rfl⟩ := H; have jI := bB.out; have jJ := bw.out; obtain ⟨gR, gS, gT, gU, gV, gW⟩ := c6e ba; obtain ⟨gX, gY, gZ, g0, g1, g2⟩ := z6_ ba
            go_wp2_with (first | ((with_reducible refine gate_callee (f := 50) rfl ?_); refine goesM (some 37) rfl rfl Try.func50 (by kernel_rfl) rfl #[.int .i64 a0_0, .int .i64 (wrap64 (a0_0 + a1))] rfl ?_; (with_reducible refine (impl_Wide.calls kj2 a0_0 (wrap64 (a0_0 + a1)) bx bz _ A30.out).mono ?_); rintro e g3 ⟨rfl, hb⟩; refine ⟨_, rfl, ?_⟩; replace ba := nblk ba hb; replace bd := nblk bd hb; replace HB := nbs HB hb; (try clear hb); obtain ⟨jK, jL, jM, jN, jO, jP⟩ := c6e ba; obtain ⟨jQ, jR, jS, jT, jU, jV⟩ := z6_ ba) | ((with_reducible refine gate_callee (f := 48) rfl ?_); refine goesM (some 53) rfl rfl Try.func48 (by kernel_rfl) rfl #[.agg #[.int .i64 a0_0, .bool a0_1, .int .i64 a0_2, .int .i64 a0_3, .int .i64 a0_4, .int .i64 a0_5]] rfl ?_; (with_reducible refine (impl_Bare.calls a0_0 a0_1 a0_2 a0_3 a0_4 a0_5 dG dH dI dJ dK dL _ A40.out).mono ?_); rintro e jW ⟨rfl, hb⟩; refine ⟨_, rfl, ?_⟩; replace ba := nblk ba hb; replace bd := nblk bd hb; replace HB := nbs HB hb; (try clear hb); obtain ⟨jX, jY, jZ, j1, j2, j3⟩ := c6e bd; obtain ⟨j4, j5, j6, j7, j8, j9⟩ := z6_ bd))
            refine bodyPost_ret (results_cell_row rfl _ _ bK 30 #[.int .i64 dG, .bool dH, .int .i64 dI, .int .i64 dJ, .int .i64 dK, .int .i64 dL] (0, 0) _ rfl (q6 bd) Try.underlying30 rfl (by kernel_rfl)) rfl ?_; exact ⟨er_, nbe HB⟩
          · rw [if_neg c39] at H
            have c39b0 : decide (a0_3 < bz) = false := decide_eq_false c39; clear c39; simp only [Option.some.injEq, Prod.mk.injEq] at H; obtain ⟨rfl, rfl, rfl, rfl, rfl, rfl⟩ := H; have ka := bB.out; have kc := bw.out; obtain ⟨kd, ke, kf, kg, kh, ki⟩ := c6e ba; obtain ⟨kj, kk, kl, km, kn, ko⟩ := z6_ ba
            go_wp2_with (first | ((with_reducible refine gate_callee (f := 50) rfl ?_); refine goesM (some 37) rfl rfl Try.func50 (by kernel_rfl) rfl #[.int .i64 a0_0, .int .i64 (wrap64 (a0_0 + a1))] rfl ?_; (with_reducible refine (impl_Wide.calls kj2 a0_0 (wrap64 (a0_0 + a1)) bx bz _ A30.out).mono ?_); rintro e kp ⟨rfl, hb⟩; refine ⟨_, rfl, ?_⟩; replace ba := nblk ba hb; replace bd := nblk bd hb; replace HB := nbs HB hb; (try clear hb); obtain ⟨kr, ks, kt, ku, kv, kw⟩ := c6e ba; obtain ⟨kx, ky, kz, kA, kB, kC⟩ := z6_ ba; obtain ⟨kD, kE, kF, kG, kH, kI⟩ := c6e bd; obtain ⟨kJ, kK, kL, kM, kN, kO⟩ := z6_ bd))
            refine bodyPost_ret (results_cell_row rfl _ _ bK 30 #[.int .i64 a0_0, .bool a0_1, .int .i64 bx, .int .i64 bz, .int .i64 a0_4, .int .i64 a0_5] (0, 0) _ rfl (p6 bd (k2_ bw.out (nb bd))) Try.underlying30 rfl (by kernel_rfl)) rfl ?_; exact ⟨er_, nbe HB⟩

/-! ### impl_seals: function 51 -/
def impl_seals.f (k : Nat) (a0_0 : Int) (a0_1 : Bool) (a0_2 : Int) (a0_3 : Int) (a0_4 : Int) (a0_5 : Int) : Option (Bool) := (impl_open.f k a0_0 a0_1 a0_2 a0_3 a0_4 a0_5).bind fun bG => (if bG = true then (if (Go.bits .and .i64 a0_4 32) = 0 then (some false) else (if a0_0 ≥ a0_2 then (if a0_0 < a0_3 then ((impl_in.f a0_0 1 7).bind fun bs => (some bs)) else (some false)) else (some false))) else (some false))
theorem impl_seals.mono : ∀ a0 a1 a2 a3 a4 a5 k, LeO (impl_seals.f k a0 a1 a2 a3 a4 a5) (impl_seals.f (k + 1) a0 a1 a2 a3 a4 a5) := by
  intro a0 a1 a2 a3 a4 a5 k
  unfold impl_seals.f
  repeat' first
      | (with_reducible exact impl_open.mono _ _ _ _ _ _ _)
      | (with_reducible exact LeO.refl _)
      | (with_reducible exact LeO.none _)
      | (with_reducible refine LeO.ite ?_ ?_)
      | (with_reducible refine LeO.bind ?_ (fun _ => ?_))
      | exact impl_open.mono _ _ _ _ _ _ _
      | exact LeO.none _
      | refine LeO.ite ?_ ?_
      | refine LeO.bind ?_ (fun _ => ?_)
set_option maxHeartbeats 8000000 in
set_option maxRecDepth 100000 in
theorem impl_seals.calls (k : Nat) (a0_0 : Int) (a0_1 : Bool) (a0_2 : Int) (a0_3 : Int) (a0_4 : Int) (a0_5 : Int) (r : Bool) (w : World) (h : impl_seals.f k a0_0 a0_1 a0_2 a0_3 a0_4 a0_5 = some r) :
    Calls Try.prog 51 #[.agg #[.int .i64 a0_0, .bool a0_1, .int .i64 a0_2, .int .i64 a0_3, .int .i64 a0_4, .int .i64 a0_5]] w fun e w' => e = .returned (.bool r) ∧ Below w.heap.size w w' := by
  have hu30 := Try.underlying30; have HB := Aside0.mk (Below.refl w.heap.size w); have H : ((impl_open.f k a0_0 a0_1 a0_2 a0_3 a0_4 a0_5).bind fun bG => (if bG = true then (if (Go.bits .and .i64 a0_4 32) = 0 then (some false) else (if a0_0 ≥ a0_2 then (if a0_0 < a0_3 then ((impl_in.f a0_0 1 7).bind fun bs => (some bs)) else (some false)) else (some false))) else (some false))) = some r := h; clear h; replace H := Option.bind_eq_some_iff.mp H; obtain ⟨bG, A20, H⟩ := H; replace H : (if bG = true then (if (Go.bits .and .i64 a0_4 32) = 0 then (some false) else (if a0_0 ≥ a0_2 then (if a0_0 < a0_3 then ((impl_in.f a0_0 1 7).bind fun bs => (some bs)) else (some false)) else (some false))) else (some false)) = some r := H; have A2 := Aside0.mk A20; clear A20
  by_cases c3 : bG = true
  · subst c3
    have H1 : (if (Go.bits .and .i64 a0_4 32) = 0 then (some false) else (if a0_0 ≥ a0_2 then (if a0_0 < a0_3 then ((impl_in.f a0_0 1 7).bind fun bs => (some bs)) else (some false)) else (some false))) = some r := by rw [if_pos rfl] at H; exact H
    clear H; have H := H1; clear H1
    by_cases c4 : (Go.bits .and .i64 a0_4 32) = 0
    · rw [if_pos c4] at H
      have c4b0 : ((Go.bits .and .i64 a0_4 32) == 0) = true := beq_iff_eq.mpr c4; have c4b1 : ((Go.bits .and .i64 a0_4 32) != 0) = false := bne_eq_false_iff_eq.mpr c4; clear c4; obtain rfl := Option.some.inj H
      go_enter Try.func51, Try.ntmps51
      go_wp2_with (first | ((with_reducible refine gate_dst (N := 1) rfl ?_); refine bxe 1 #[.int .i64 a0_0, .bool a0_1, .int .i64 a0_2, .int .i64 a0_3, .int .i64 a0_4, .int .i64 a0_5] 30 ?_; intro bZ hg w5 hbox hb; have bg := hbox; have b0 := nge HB hg; have b1 := nge HB hg; replace HB := nbs HB hb; clear hb hbox hg; obtain ⟨eO, eP, eQ, eR, eS, eT⟩ := c6e bg; obtain ⟨eU, eV, eW, eX, eY, eZ⟩ := z6_ bg) | ((with_reducible refine gate_callee (f := 30) rfl ?_); refine goesM (some 4) rfl rfl Try.func30 (by kernel_rfl) rfl #[.agg #[.int .i64 a0_0, .bool a0_1, .int .i64 a0_2, .int .i64 a0_3, .int .i64 a0_4, .int .i64 a0_5]] rfl ?_; (with_reducible refine (impl_open.calls k a0_0 a0_1 a0_2 a0_3 a0_4 a0_5 true _ A2.out).mono ?_); rintro e w7 ⟨rfl, hb⟩; refine ⟨_, rfl, ?_⟩; replace bg := nblk bg hb; replace HB := nbs HB hb; (try clear hb); obtain ⟨d0, d1, d2, d3, d4, d5⟩ := c6e bg; obtain ⟨d6, d7, d8, d9, ea, eb⟩ := z6_ bg))
      go_ret
      exact ⟨er_, nbe HB⟩
    · rw [if_neg c4] at H
      have c4b0 : ((Go.bits .and .i64 a0_4 32) == 0) = false := beq_eq_false_iff_ne.mpr c4; have c4b1 : ((Go.bits .and .i64 a0_4 32) != 0) = true := bne_iff_ne.mpr c4
      by_cases c9 : a0_0 ≥ a0_2
      · rw [if_pos c9] at H
        have c9b0 : decide (a0_2 ≤ a0_0) = true := decide_eq_true c9; clear c9
        by_cases c10 : a0_0 < a0_3
        · rw [if_pos c10] at H
          have c10b0 : decide (a0_0 < a0_3) = true := decide_eq_true c10; clear c10; replace H := Option.bind_eq_some_iff.mp H; obtain ⟨bs, A110, H⟩ := H; replace H : (some bs) = some r := H; have A11 := Aside0.mk A110; clear A110; obtain rfl := Option.some.inj H
          go_enter Try.func51, Try.ntmps51
          go_wp2_with (first | ((with_reducible refine gate_dst (N := 1) rfl ?_); refine bxe 1 #[.int .i64 a0_0, .bool a0_1, .int .i64 a0_2, .int .i64 a0_3, .int .i64 a0_4, .int .i64 a0_5] 30 ?_; intro bZ hg kP hbox hb; have bg := hbox; have b0 := nge HB hg; have b1 := nge HB hg; replace HB := nbs HB hb; clear hb hbox hg; obtain ⟨kQ, kR, kS, kT, kU, kV⟩ := c6e bg; obtain ⟨kW, kX, kY, kZ, k0, k2⟩ := z6_ bg) | ((with_reducible refine gate_callee (f := 30) rfl ?_); refine goesM (some 4) rfl rfl Try.func30 (by kernel_rfl) rfl #[.agg #[.int .i64 a0_0, .bool a0_1, .int .i64 a0_2, .int .i64 a0_3, .int .i64 a0_4, .int .i64 a0_5]] rfl ?_; (with_reducible refine (impl_open.calls k a0_0 a0_1 a0_2 a0_3 a0_4 a0_5 true _ A2.out).mono ?_); rintro e e6 ⟨rfl, hb⟩; refine ⟨_, rfl, ?_⟩; replace bg := nblk bg hb; replace HB := nbs HB hb; (try clear hb); obtain ⟨g4, g5, g6, g7, g8, g9⟩ := c6e bg; obtain ⟨ha, hd, hf, hh, hl, hm⟩ := z6_ bg) | (go_at_call 45; (with_reducible refine (impl_in.calls a0_0 1 7 bs _ A11.out).mono ?_); rintro e w' ⟨rfl, ⟨nd, rfl⟩⟩))
          go_ret
          exact ⟨er_, nbe HB⟩
        · rw [if_neg c10] at H
          have c10b0 : decide (a0_0 < a0_3) = false := decide_eq_false c10; clear c10; obtain rfl := Option.some.inj H
          go_enter Try.func51, Try.ntmps51
          go_wp2_with (first | ((with_reducible refine gate_dst (N := 1) rfl ?_); refine bxe 1 #[.int .i64 a0_0, .bool a0_1, .int .i64 a0_2, .int .i64 a0_3, .int .i64 a0_4, .int .i64 a0_5] 30 ?_; intro bZ hg hn hbox hb; have bg := hbox; have b0 := nge HB hg; have b1 := nge HB hg; replace HB := nbs HB hb; clear hb hbox hg; obtain ⟨ho, hq, hr, ht, hv, hw⟩ := c6e bg; obtain ⟨hx, hy, hz, hA, hB, hC⟩ := z6_ bg) | ((with_reducible refine gate_callee (f := 30) rfl ?_); refine goesM (some 4) rfl rfl Try.func30 (by kernel_rfl) rfl #[.agg #[.int .i64 a0_0, .bool a0_1, .int .i64 a0_2, .int .i64 a0_3, .int .i64 a0_4, .int .i64 a0_5]] rfl ?_; (with_reducible refine (impl_open.calls k a0_0 a0_1 a0_2 a0_3 a0_4 a0_5 true _ A2.out).mono ?_); rintro e k3 ⟨rfl, hb⟩; refine ⟨_, rfl, ?_⟩; replace bg := nblk bg hb; replace HB := nbs HB hb; (try clear hb); obtain ⟨hD, hE, hF, hG, hH, hI⟩ := c6e bg; obtain ⟨hJ, hK, hL, hM, hN, hO⟩ := z6_ bg))
          go_ret
          exact ⟨er_, nbe HB⟩
      · rw [if_neg c9] at H
        have c9b0 : decide (a0_2 ≤ a0_0) = false := decide_eq_false c9; clear c9; obtain rfl := Option.some.inj H
        go_enter Try.func51, Try.ntmps51
        go_wp2_with (first | ((with_reducible refine gate_dst (N := 1) rfl ?_); refine bxe 1 #[.int .i64 a0_0, .bool a0_1, .int .i64 a0_2, .int .i64 a0_3, .int .i64 a0_4, .int .i64 a0_5] 30 ?_; intro bZ hg k4 hbox hb; have bg := hbox; have b0 := nge HB hg; have b1 := nge HB hg; replace HB := nbs HB hb; clear hb hbox hg; obtain ⟨k5, k6, k7, k8, k9, ma⟩ := c6e bg; obtain ⟨mb, mc, md, mf, mg, mh⟩ := z6_ bg) | ((with_reducible refine gate_callee (f := 30) rfl ?_); refine goesM (some 4) rfl rfl Try.func30 (by kernel_rfl) rfl #[.agg #[.int .i64 a0_0, .bool a0_1, .int .i64 a0_2, .int .i64 a0_3, .int .i64 a0_4, .int .i64 a0_5]] rfl ?_; (with_reducible refine (impl_open.calls k a0_0 a0_1 a0_2 a0_3 a0_4 a0_5 true _ A2.out).mono ?_); rintro e hQ ⟨rfl, hb⟩; refine ⟨_, rfl, ?_⟩; replace bg := nblk bg hb; replace HB := nbs HB hb; (try clear hb); obtain ⟨mi, mj, ml, mm, mn, mo⟩ := c6e bg; obtain ⟨mq, mr, ms, mt, mu, mv⟩ := z6_ bg))
        go_ret
        exact ⟨er_, nbe HB⟩
  · replace c3 := Bool.eq_false_iff.mpr c3
    subst c3; have H1 : (some false) = some r := by rw [if_neg (show ¬ (false = true) by decide)] at H; exact H
    clear H; have H := H1; clear H1; obtain rfl := Option.some.inj H
    go_enter Try.func51, Try.ntmps51
    go_wp2_with (first | ((with_reducible refine gate_dst (N := 1) rfl ?_); refine bxe 1 #[.int .i64 a0_0, .bool a0_1, .int .i64 a0_2, .int .i64 a0_3, .int .i64 a0_4, .int .i64 a0_5] 30 ?_; intro bZ hg mw hbox hb; have bg := hbox; have b0 := nge HB hg; have b1 := nge HB hg; replace HB := nbs HB hb; clear hb hbox hg; obtain ⟨mx, mz, mA, mB, mC, mD⟩ := c6e bg; obtain ⟨mE, mF, mG, mH, mI, mJ⟩ := z6_ bg) | ((with_reducible refine gate_callee (f := 30) rfl ?_); refine goesM (some 4) rfl rfl Try.func30 (by kernel_rfl) rfl #[.agg #[.int .i64 a0_0, .bool a0_1, .int .i64 a0_2, .int .i64 a0_3, .int .i64 a0_4, .int .i64 a0_5]] rfl ?_; (with_reducible refine (impl_open.calls k a0_0 a0_1 a0_2 a0_3 a0_4 a0_5 false _ A2.out).mono ?_); rintro e mK ⟨rfl, hb⟩; refine ⟨_, rfl, ?_⟩; replace bg := nblk bg hb; replace HB := nbs HB hb; (try clear hb)))
    go_ret
    exact ⟨er_, nbe HB⟩

/-! ### impl_SealBy: function 36 -/
def impl_SealBy.f (k : Nat) (a0_0 : Int) (a0_1 : Bool) (a0_2 : Int) (a0_3 : Int) (a0_4 : Int) (a0_5 : Int) (a1_0 : Int) (a1_1 : Bool) (a1_2 : Int) (a1_3 : Int) (a1_4 : Int) (a1_5 : Int) : Option (Int × Bool × Int × Int × Int × Int) := (impl_open.f k a0_0 a0_1 a0_2 a0_3 a0_4 a0_5).bind fun bH => (if bH = true then ((impl_seals.f k a1_0 a1_1 a1_2 a1_3 a1_4 a1_5).bind fun bu => (if bu = true then (some (a0_0, a0_1, a0_2, a0_3, a0_4, a1_0)) else ((impl_Bare.f a0_0 a0_1 a0_2 a0_3 a0_4 a0_5).bind fun bc => (some (bc.1, bc.2.1, bc.2.2.1, bc.2.2.2.1, bc.2.2.2.2.1, bc.2.2.2.2.2))))) else ((impl_Bare.f a0_0 a0_1 a0_2 a0_3 a0_4 a0_5).bind fun bi => (some (bi.1, bi.2.1, bi.2.2.1, bi.2.2.2.1, bi.2.2.2.2.1, bi.2.2.2.2.2))))
theorem impl_SealBy.mono : ∀ a0 a1 a2 a3 a4 a5 a6 a7 a8 a9 a10 a11 k, LeO (impl_SealBy.f k a0 a1 a2 a3 a4 a5 a6 a7 a8 a9 a10 a11) (impl_SealBy.f (k + 1) a0 a1 a2 a3 a4 a5 a6 a7 a8 a9 a10 a11) := by
  intro a0 a1 a2 a3 a4 a5 a6 a7 a8 a9 a10 a11 k
  unfold impl_SealBy.f
  repeat' first
      | (with_reducible exact impl_open.mono _ _ _ _ _ _ _)
      | (with_reducible exact impl_seals.mono _ _ _ _ _ _ _)
      | (with_reducible exact LeO.refl _)
      | (with_reducible exact LeO.none _)
      | (with_reducible refine LeO.ite ?_ ?_)
      | (with_reducible refine LeO.bind ?_ (fun _ => ?_))
      | exact impl_open.mono _ _ _ _ _ _ _
      | exact impl_seals.mono _ _ _ _ _ _ _
      | exact LeO.none _
      | refine LeO.ite ?_ ?_
      | refine LeO.bind ?_ (fun _ => ?_)
set_option maxHeartbeats 8000000 in
set_option maxRecDepth 100000 in
theorem impl_SealBy.calls (k : Nat) (a0_0 : Int) (a0_1 : Bool) (a0_2 : Int) (a0_3 : Int) (a0_4 : Int) (a0_5 : Int) (a1_0 : Int) (a1_1 : Bool) (a1_2 : Int) (a1_3 : Int) (a1_4 : Int) (a1_5 : Int) (r1 : Int) (r2 : Bool) (r3 : Int) (r4 : Int) (r5 : Int) (r6 : Int) (w : World) (h : impl_SealBy.f k a0_0 a0_1 a0_2 a0_3 a0_4 a0_5 a1_0 a1_1 a1_2 a1_3 a1_4 a1_5 = some (r1, r2, r3, r4, r5, r6)) :
    Calls Try.prog 36 #[.agg #[.int .i64 a0_0, .bool a0_1, .int .i64 a0_2, .int .i64 a0_3, .int .i64 a0_4, .int .i64 a0_5], .agg #[.int .i64 a1_0, .bool a1_1, .int .i64 a1_2, .int .i64 a1_3, .int .i64 a1_4, .int .i64 a1_5]] w fun e w' => e = .returned (.agg #[.int .i64 r1, .bool r2, .int .i64 r3, .int .i64 r4, .int .i64 r5, .int .i64 r6]) ∧ Below w.heap.size w w' := by
  have hu30 := Try.underlying30; have HB := Aside0.mk (Below.refl w.heap.size w); have H : ((impl_open.f k a0_0 a0_1 a0_2 a0_3 a0_4 a0_5).bind fun bH => (if bH = true then ((impl_seals.f k a1_0 a1_1 a1_2 a1_3 a1_4 a1_5).bind fun bu => (if bu = true then (some (a0_0, a0_1, a0_2, a0_3, a0_4, a1_0)) else ((impl_Bare.f a0_0 a0_1 a0_2 a0_3 a0_4 a0_5).bind fun bc => (some (bc.1, bc.2.1, bc.2.2.1, bc.2.2.2.1, bc.2.2.2.2.1, bc.2.2.2.2.2))))) else ((impl_Bare.f a0_0 a0_1 a0_2 a0_3 a0_4 a0_5).bind fun bi => (some (bi.1, bi.2.1, bi.2.2.1, bi.2.2.2.1, bi.2.2.2.2.1, bi.2.2.2.2.2))))) = some (r1, r2, r3, r4, r5, r6) := h; clear h; replace H := Option.bind_eq_some_iff.mp H; obtain ⟨bH, A30, H⟩ := H; replace H : (if bH = true then ((impl_seals.f k a1_0 a1_1 a1_2 a1_3 a1_4 a1_5).bind fun bu => (if bu = true then (some (a0_0, a0_1, a0_2, a0_3, a0_4, a1_0)) else ((impl_Bare.f a0_0 a0_1 a0_2 a0_3 a0_4 a0_5).bind fun bc => (some (bc.1, bc.2.1, bc.2.2.1, bc.2.2.2.1, bc.2.2.2.2.1, bc.2.2.2.2.2))))) else ((impl_Bare.f a0_0 a0_1 a0_2 a0_3 a0_4 a0_5).bind fun bi => (some (bi.1, bi.2.1, bi.2.2.1, bi.2.2.2.1, bi.2.2.2.2.1, bi.2.2.2.2.2)))) = some (r1, r2, r3, r4, r5, r6) := H; have A3 := Aside0.mk A30; clear A30
  by_cases c4 : bH = true
  · subst c4
    have H1 : ((impl_seals.f k a1_0 a1_1 a1_2 a1_3 a1_4 a1_5).bind fun bu => (if bu = true then (some (a0_0, a0_1, a0_2, a0_3, a0_4, a1_0)) else ((impl_Bare.f a0_0 a0_1 a0_2 a0_3 a0_4 a0_5).bind fun bc => (some (bc.1, bc.2.1, bc.2.2.1, bc.2.2.2.1, bc.2.2.2.2.1, bc.2.2.2.2.2))))) = some (r1, r2, r3, r4, r5, r6) := by rw [if_pos rfl] at H; exact H
    clear H; have H := H1; clear H1; replace H := Option.bind_eq_some_iff.mp H; obtain ⟨bu, A50, H⟩ := H; replace H : (if bu = true then (some (a0_0, a0_1, a0_2, a0_3, a0_4, a1_0)) else ((impl_Bare.f a0_0 a0_1 a0_2 a0_3 a0_4 a0_5).bind fun bc => (some (bc.1, bc.2.1, bc.2.2.1, bc.2.2.2.1, bc.2.2.2.2.1, bc.2.2.2.2.2)))) = some (r1, r2, r3, r4, r5, r6) := H; have A5 := Aside0.mk A50; clear A50
    by_cases c6 : bu = true
    · subst c6
      have H1 : (some (a0_0, a0_1, a0_2, a0_3, a0_4, a1_0)) = some (r1, r2, r3, r4, r5, r6) := by rw [if_pos rfl] at H; exact H
      clear H; have H := H1; clear H1; simp only [Option.some.injEq, Prod.mk.injEq] at H; obtain ⟨rfl, rfl, rfl, rfl, rfl, rfl⟩ := H
      go_enter Try.func36, Try.ntmps36
      go_wp2_with (first | ((with_reducible refine gate_dst (N := 2) rfl ?_); refine bxe 2 #[.int .i64 a0_0, .bool a0_1, .int .i64 a0_2, .int .i64 a0_3, .int .i64 a0_4, .int .i64 a0_5] 30 ?_; intro eB hg w7 hbox hb; have bb := hbox; have eC := nge HB hg; have eD := nge HB hg; replace HB := nbs HB hb; clear hb hbox hg) | ((with_reducible refine gate_dst (N := 3) rfl ?_); refine bxe 3 #[.int .i64 a1_0, .bool a1_1, .int .i64 a1_2, .int .i64 a1_3, .int .i64 a1_4, .int .i64 a1_5] 30 ?_; intro eE hg w8 hbox hb; have bf := hbox; have eF := nge HB hg; have eG := nge HB hg; have bL := nlt bb hg; have bM := ngt bb hg; replace bb := nblk bb hb; replace HB := nbs HB hb; clear hb hbox hg) | ((with_reducible refine gate_dst (N := 4) rfl ?_); refine bxe 4 #[.int .i64 0, .bool false, .int .i64 0, .int .i64 0, .int .i64 0, .int .i64 0] 30 ?_; intro bN hg w9 hbox hb; have bj := hbox; have eH := nge HB hg; have eI := nge HB hg; have bO := nlt bb hg; have bI := ngt bb hg; have bP := nlt bf hg; have bQ := ngt bf hg; replace bb := nblk bb hb; replace bf := nblk bf hb; replace HB := nbs HB hb; clear hb hbox hg; have mL := bL.out; have mM := bM.out; have mN := bO.out; have mO := bI.out; obtain ⟨mP, mQ, mR, mS, mT, mU⟩ := c6e bb; obtain ⟨mV, mW, mX, mY, mZ, m0⟩ := z6_ bb) | ((with_reducible refine gate_callee (f := 30) rfl ?_); refine goesM (some 6) rfl rfl Try.func30 (by kernel_rfl) rfl #[.agg #[.int .i64 a0_0, .bool a0_1, .int .i64 a0_2, .int .i64 a0_3, .int .i64 a0_4, .int .i64 a0_5]] rfl ?_; (with_reducible refine (impl_open.calls k a0_0 a0_1 a0_2 a0_3 a0_4 a0_5 true _ A3.out).mono ?_); rintro e e5 ⟨rfl, hb⟩; refine ⟨_, rfl, ?_⟩; replace bb := nblk bb hb; replace bf := nblk bf hb; replace bj := nblk bj hb; replace HB := nbs HB hb; (try clear hb); have m2 := bP.out; have m3 := bQ.out; obtain ⟨g4, g5, g6, g7, g8, g9⟩ := c6e bf; obtain ⟨ha, hd, hf, hh, hl, hm⟩ := z6_ bf) | (go_at_call 51; (with_reducible refine (impl_seals.calls k a1_0 a1_1 a1_2 a1_3 a1_4 a1_5 true _ A5.out).mono ?_); rintro e hn ⟨rfl, hb⟩; replace bb := nblk bb hb; replace bf := nblk bf hb; replace bj := nblk bj hb; replace HB := nbs HB hb; (try clear hb); obtain ⟨ho, hq, hr, ht, hv, hw⟩ := c6e bf; obtain ⟨hx, hy, hz, hA, hB, hC⟩ := z6_ bf; obtain ⟨dg, dh, di, dj, dk, dl⟩ := c6e bb; obtain ⟨dm, dn, dp, dq, dr, ds⟩ := z6_ bb; obtain ⟨hD, hE, hF, hG, hH, hI⟩ := c6e bj; obtain ⟨hJ, hK, hL, hM, hN, hO⟩ := z6_ bj))
      refine bodyPost_ret (results_cell_row rfl _ _ bN 30 #[.int .i64 a0_0, .bool a0_1, .int .i64 a0_2, .int .i64 a0_3, .int .i64 a0_4, .int .i64 a1_0] (0, 0) _ rfl (p6 bj (k1_ bI.out (nb bj))) Try.underlying30 rfl (by kernel_rfl)) rfl ?_; exact ⟨er_, nbe HB⟩
    · replace c6 := Bool.eq_false_iff.mpr c6
      subst c6; have H1 : ((impl_Bare.f a0_0 a0_1 a0_2 a0_3 a0_4 a0_5).bind fun bc => (some (bc.1, bc.2.1, bc.2.2.1, bc.2.2.2.1, bc.2.2.2.2.1, bc.2.2.2.2.2))) = some (r1, r2, r3, r4, r5, r6) := by rw [if_neg (show ¬ (false = true) by decide)] at H; exact H
      clear H; have H := H1; clear H1; replace H := Option.bind_eq_some_iff.mp H; obtain ⟨⟨dM, dN, dO, dP, dQ, dR⟩, A200, H⟩ := H; replace H : (some (dM, dN, dO, dP, dQ, dR)) = some (r1, r2, r3, r4, r5, r6) := H; have A20 := Aside0.mk A200; clear A200; simp only [Option.some.injEq, Prod.mk.injEq] at H; obtain ⟨rfl, rfl, rfl, rfl, rfl, rfl⟩ := H
      go_enter Try.func36, Try.ntmps36
      go_wp2_with (first | ((with_reducible refine gate_dst (N := 2) rfl ?_); refine bxe 2 #[.int .i64 a0_0, .bool a0_1, .int .i64 a0_2, .int .i64 a0_3, .int .i64 a0_4, .int .i64 a0_5] 30 ?_; intro eB hg m4 hbox hb; have bb := hbox; have eC := nge HB hg; have eD := nge HB hg; replace HB := nbs HB hb; clear hb hbox hg) | ((with_reducible refine gate_dst (N := 3) rfl ?_); refine bxe 3 #[.int .i64 a1_0, .bool a1_1, .int .i64 a1_2, .int .i64 a1_3, .int .i64 a1_4, .int .i64 a1_5] 30 ?_; intro eE hg hQ hbox hb; have bf := hbox; have eF := nge HB hg; have eG := nge HB hg; have bL := nlt bb hg; have bM := ngt bb hg; replace bb := nblk bb hb; replace HB := nbs HB hb; clear hb hbox hg) | ((with_reducible refine gate_dst (N := 4) rfl ?_); refine bxe 4 #[.int .i64 0, .bool false, .int .i64 0, .int .i64 0, .int .i64 0, .int .i64 0] 30 ?_; intro bN hg gC hbox hb; have bj := hbox; have eH := nge HB hg; have eI := nge HB hg; have bO := nlt bb hg; have bI := ngt bb hg; have bP := nlt bf hg; have bQ := ngt bf hg; replace bb := nblk bb hb; replace bf := nblk bf hb; replace HB := nbs HB hb; clear hb hbox hg; have m5 := bL.out; have m6 := bM.out; have m7 := bO.out; have m8 := bI.out; obtain ⟨m9, na, nc, nf, ng, nh⟩ := c6e bb; obtain ⟨ni, nj, nk, nl, nm, nn⟩ := z6_ bb) | ((with_reducible refine gate_callee (f := 30) rfl ?_); refine goesM (some 6) rfl rfl Try.func30 (by kernel_rfl) rfl #[.agg #[.int .i64 a0_0, .bool a0_1, .int .i64 a0_2, .int .i64 a0_3, .int .i64 a0_4, .int .i64 a0_5]] rfl ?_; (with_reducible refine (impl_open.calls k a0_0 a0_1 a0_2 a0_3 a0_4 a0_5 true _ A3.out).mono ?_); rintro e np ⟨rfl, hb⟩; refine ⟨_, rfl, ?_⟩; replace bb := nblk bb hb; replace bf := nblk bf hb; replace bj := nblk bj hb; replace HB := nbs HB hb; (try clear hb); have nq := bP.out; have nr := bQ.out; obtain ⟨gD, gE, gF, gG, gH, gI⟩ := c6e bf; obtain ⟨gJ, gK, gL, gM, gN, gO⟩ := z6_ bf) | (go_at_call 51; (with_reducible refine (impl_seals.calls k a1_0 a1_1 a1_2 a1_3 a1_4 a1_5 false _ A5.out).mono ?_); rintro e ns ⟨rfl, hb⟩; replace bb := nblk bb hb; replace bf := nblk bf hb; replace bj := nblk bj hb; replace HB := nbs HB hb; (try clear hb); obtain ⟨nt, nu, nv, nw, nx, ny⟩ := c6e bb; obtain ⟨nz, nA, nB, nD, nE, nF⟩ := z6_ bb) | ((with_reducible refine gate_callee (f := 48) rfl ?_); refine goesM (some 14) rfl rfl Try.func48 (by kernel_rfl) rfl #[.agg #[.int .i64 a0_0, .bool a0_1, .int .i64 a0_2, .int .i64 a0_3, .int .i64 a0_4, .int .i64 a0_5]] rfl ?_; (with_reducible refine (impl_Bare.calls a0_0 a0_1 a0_2 a0_3 a0_4 a0_5 dM dN dO dP dQ dR _ A20.out).mono ?_); rintro e nG ⟨rfl, hb⟩; refine ⟨_, rfl, ?_⟩; replace bb := nblk bb hb; replace bf := nblk bf hb; replace bj := nblk bj hb; replace HB := nbs HB hb; (try clear hb); obtain ⟨nH, nI, nJ, nK, nL, nM⟩ := c6e bj; obtain ⟨nN, nO, nP, nQ, nR, nS⟩ := z6_ bj))
      refine bodyPost_ret (results_cell_row rfl _ _ bN 30 #[.int .i64 dM, .bool dN, .int .i64 dO, .int .i64 dP, .int .i64 dQ, .int .i64 dR] (0, 0) _ rfl (q6 bj) Try.underlying30 rfl (by kernel_rfl)) rfl ?_; exact ⟨er_, nbe HB⟩
  · replace c4 := Bool.eq_false_iff.mpr c4
    subst c4; have H1 : ((impl_Bare.f a0_0 a0_1 a0_2 a0_3 a0_4 a0_5).bind fun bi => (some (bi.1, bi.2.1, bi.2.2.1, bi.2.2.2.1, bi.2.2.2.2.1, bi.2.2.2.2.2))) = some (r1, r2, r3, r4, r5, r6) := by rw [if_neg (show ¬ (false = true) by decide)] at H; exact H
    clear H; have H := H1; clear H1; replace H := Option.bind_eq_some_iff.mp H; obtain ⟨⟨dS, dT, dU, dV, dW, dX⟩, A340, H⟩ := H; replace H : (some (dS, dT, dU, dV, dW, dX)) = some (r1, r2, r3, r4, r5, r6) := H; have A34 := Aside0.mk A340; clear A340; simp only [Option.some.injEq, Prod.mk.injEq] at H; obtain ⟨rfl, rfl, rfl, rfl, rfl, rfl⟩ := H
    go_enter Try.func36, Try.ntmps36
    go_wp2_with (first | ((with_reducible refine gate_dst (N := 2) rfl ?_); refine bxe 2 #[.int .i64 a0_0, .bool a0_1, .int .i64 a0_2, .int .i64 a0_3, .int .i64 a0_4, .int .i64 a0_5] 30 ?_; intro eB hg gP hbox hb; have bb := hbox; have eC := nge HB hg; have eD := nge HB hg; replace HB := nbs HB hb; clear hb hbox hg) | ((with_reducible refine gate_dst (N := 3) rfl ?_); refine bxe 3 #[.int .i64 a1_0, .bool a1_1, .int .i64 a1_2, .int .i64 a1_3, .int .i64 a1_4, .int .i64 a1_5] 30 ?_; intro eE hg nT hbox hb; have bf := hbox; have eF := nge HB hg; have eG := nge HB hg; have bL := nlt bb hg; have bM := ngt bb hg; replace bb := nblk bb hb; replace HB := nbs HB hb; clear hb hbox hg) | ((with_reducible refine gate_dst (N := 4) rfl ?_); refine bxe 4 #[.int .i64 0, .bool false, .int .i64 0, .int .i64 0, .int .i64 0, .int .i64 0] 30 ?_; intro bN hg gQ hbox hb; have bj := hbox; have eH := nge HB hg; have eI := nge HB hg; have bO := nlt bb hg; have bI := ngt bb hg; have bP := nlt bf hg; have bQ := ngt bf hg; replace bb := nblk bb hb; replace bf := nblk bf hb; replace HB := nbs HB hb; clear hb hbox hg; have nU := bL.out; have nV := bM.out; have nW := bO.out; have nX := bI.out; obtain ⟨nY, nZ, n0, n1, n2, n3⟩ := c6e bb; obtain ⟨n4, n5, n6, n7, n8, n9⟩ := z6_ bb) | ((with_reducible refine gate_callee (f := 30) rfl ?_); refine goesM (some 6) rfl rfl Try.func30 (by kernel_rfl) rfl #[.agg #[.int .i64 a0_0, .bool a0_1, .int .i64 a0_2, .int .i64 a0_3, .int .i64 a0_4, .int .i64 a0_5]] rfl ?_; (with_reducible refine (impl_open.calls k a0_0 a0_1 a0_2 a0_3 a0_4 a0_5 false _ A3.out).mono ?_); rintro e oa ⟨rfl, hb⟩; refine ⟨_, rfl, ?_⟩; replace bb := nblk bb hb; replace bf := nblk bf hb; replace bj := nblk bj hb; replace HB := nbs HB hb; (try clear hb); obtain ⟨gR, gS, gT, gU, gV, gW⟩ := c6e bb; obtain ⟨gX, gY, gZ, g0, g1, g2⟩ := z6_ bb) | ((with_reducible refine gate_callee (f := 48) rfl ?_); refine goesM (some 14) rfl rfl Try.func48 (by kernel_rfl) rfl #[.agg #[.int .i64 a0_0, .bool a0_1, .int .i64 a0_2, .int .i64 a0_3, .int .i64 a0_4, .int .i64 a0_5]] rfl ?_; (with_reducible refine (impl_Bare.calls a0_0 a0_1 a0_2 a0_3 a0_4 a0_5 dS dT dU dV dW dX _ A34.out).mono ?_); rintro e g3 ⟨rfl, hb⟩; refine ⟨_, rfl, ?_⟩; replace bb := nblk bb hb; replace bf := nblk bf hb; replace bj := nblk bj hb; replace HB := nbs HB hb; (try clear hb); have ob := bQ.out; have oc := bP.out; obtain ⟨od, oe, og, oh, oi, oj⟩ := c6e bj; obtain ⟨ok, ol, om, oo, op, oq⟩ := z6_ bj))
    refine bodyPost_ret (results_cell_row rfl _ _ bN 30 #[.int .i64 dS, .bool dT, .int .i64 dU, .int .i64 dV, .int .i64 dW, .int .i64 dX] (0, 0) _ rfl (q6 bj) Try.underlying30 rfl (by kernel_rfl)) rfl ?_; exact ⟨er_, nbe HB⟩

end Go.Proofs.Ytgfaicenpoahoaa.PFnExactWork
