-- Written by a program of this session (wip/patch.py turns a copy of the kit's print): the functions that the law reaches, and their walks.
import Derived.Test.YtpcladboobfkhaaPFnWorkx0
import Derived.Test.YtpcladboobfkhaaPFnWorkx10
import Derived.Test.YtpcladboobfkhaaPFnWorkx11
import Derived.Test.YtpcladboobfkhaaCFnWork
import Derived.Test.YtpcladboobfkhaaEFnWork
namespace Go.Proofs.Ytpcladboobfkhaa.PFnWork
open Go.RowKit Go.Proofs.YtpcladboobfkhaaW.PrintWords Go.Proofs.YtpcladboobfkhaaW.PrintLast Go.Proofs.YtpcladboobfkhaaW.PrintMore Go.Proofs.YtpcladboobfkhaaW.Mine
attribute [local go_sem] dsc dhs dha ddr ddrN
attribute [local go_sem] max2_int min2_int max_two min_two max_three min_three max_four min_four   -- for this text's walks alone
set_option linter.unusedVariables false
set_option linter.unusedSimpArgs false

/-! ### slices_Index_byte_byte: function 68 -/
def slices_Index_byte_byte.l0 : Nat → List Int → Int → Int → Int → Option (Int)
  | 0, _, _, _, _ => none
  | k + 1, x0, x1, x7, x8 => if x8 < x7 then (if 0 ≤ x8 then (if x8 < (x0.length : Int) then (if x1 = (rd x0 x8) then (some x8) else (slices_Index_byte_byte.l0 k x0 x1 x7 (wrap64 (x8 + 1)))) else (none)) else (none)) else (some (-1))
def slices_Index_byte_byte.f (k : Nat) (l0 : List Int) (a1 : Int) : Option (Int) := slices_Index_byte_byte.l0 k l0 a1 (l0.length : Int) 0
theorem slices_Index_byte_byte.mono_l : ∀ k, (∀ y0 y1 y2 y3, LeO (slices_Index_byte_byte.l0 k y0 y1 y2 y3) (slices_Index_byte_byte.l0 (k + 1) y0 y1 y2 y3))
  | 0 => fun _ _ _ _ r h => by simp [slices_Index_byte_byte.l0] at h
  | k + 1 => by
    have ih0 := slices_Index_byte_byte.mono_l k
    · intro y0 y1 y2 y3
      unfold slices_Index_byte_byte.l0
      repeat' first
      | (with_reducible exact ih0 _ _ _ _)
      | (with_reducible exact LeO.refl _)
      | (with_reducible exact LeO.none _)
      | (with_reducible refine LeO.ite ?_ ?_)
      | (with_reducible refine LeO.bind ?_ (fun _ => ?_))
      | exact ih0 _ _ _ _
      | exact LeO.none _
      | refine LeO.ite ?_ ?_
      | refine LeO.bind ?_ (fun _ => ?_)
theorem slices_Index_byte_byte.mono : ∀ a0 a1 k, LeO (slices_Index_byte_byte.f k a0 a1) (slices_Index_byte_byte.f (k + 1) a0 a1) := by
  intro a0 a1 k; have ih0 := slices_Index_byte_byte.mono_l k
  unfold slices_Index_byte_byte.f
  repeat' first
      | (with_reducible exact ih0 _ _ _ _)
      | (with_reducible exact LeO.refl _)
      | (with_reducible exact LeO.none _)
      | (with_reducible refine LeO.ite ?_ ?_)
      | (with_reducible refine LeO.bind ?_ (fun _ => ?_))
      | exact ih0 _ _ _ _
      | exact LeO.none _
      | refine LeO.ite ?_ ?_
      | refine LeO.bind ?_ (fun _ => ?_)
set_option maxHeartbeats 8000000 in
set_option maxRecDepth 100000 in
theorem slices_Index_byte_byte.calls (k : Nat) (A0 : Option Addr) (c0 : Nat) (l0 : List Int) (a1 : Int) (r : Int) (w : World) (hr0 : Kd.C (Kd.int .u8) w A0 l0.length l0) (hc0 : l0.length ≤ c0) (h : slices_Index_byte_byte.f k l0 a1 = some r) :
    Calls Try.prog 68 #[.slice A0 l0.length c0, .int .u8 a1] w fun e w' => e = .returned (.int .i64 r) ∧ Drawn0 w w' := by
  have bR := Aside0.mk hr0; have dY := Aside0.mk hc0; clear hr0 hc0; have H : (slices_Index_byte_byte.l0 k l0 a1 (l0.length : Int) 0) = some r := h; clear h; have H' := Aside0.mk H; clear H
  go_enter Try.func68, Try.ntmps68
  go_wp2
  go_loopg [8] k (fun kq v8 w' => ∃ (bl : Int), v8 = .int .i64 bl ∧ Aside0 (slices_Index_byte_byte.l0 kq l0 a1 (l0.length : Int) bl = some r) ∧ Aside0 (kq ≤ k) ∧ Drawn0 w w')
  case atStart => exact ⟨(0), (by first | rfl | (simp; done) | (simp [*]; done)), H', ⟨Nat.le_refl _⟩, by repeat (first | exact Drawn0.refl _ | apply Drawn0.step)⟩
  case round =>
    clear H'; try clear p2
    obtain ⟨bl, rfl, HA, dZ, ⟨m1, rfl⟩⟩ := hrel
    cases gk with
    | zero => exact absurd HA.out (by simp [slices_Index_byte_byte.l0])
    | succ k1 =>
      have H := HA.out; clear HA; simp only [slices_Index_byte_byte.l0] at H
      by_cases c3 : bl < (l0.length : Int)
      · rw [if_pos c3] at H
        have c3b0 : decide (bl < (l0.length : Int)) = true := decide_eq_true c3; clear c3
        by_cases c4 : 0 ≤ bl
        · rw [if_pos c4] at H
          have c4b0 : decide (0 ≤ bl) = true := decide_eq_true c4; clear c4
          by_cases c5 : bl < (l0.length : Int)
          · rw [if_pos c5] at H
            have c5b0 : decide (bl < (l0.length : Int)) = true := decide_eq_true c5; clear c5
            by_cases c6 : a1 = (rd l0 bl)
            · rw [if_pos c6] at H
              have c6b0 : (a1 == (rd l0 bl)) = true := beq_iff_eq.mpr c6; have c6b1 : (a1 != (rd l0 bl)) = false := bne_eq_false_iff_eq.mpr c6; clear c6; obtain rfl := Option.some.inj H; have p494 : 0 ≤ (bl : Int) := of_decide_eq_true (by first | (with_reducible assumption) | assumption); have q494 : bl < (l0.length : Int) := of_decide_eq_true (by first | (with_reducible assumption) | assumption); obtain ⟨eJ, e494, eK⟩ := Kd.at_int bR.out bl p494 q494
              cases e494
              replace p494 := eq_true p494; replace q494 := eq_true q494; go_wp2
              go_ret
              exact ⟨by first | rfl | (simp; done) | (simp [*]; done), by repeat (first | exact Drawn0.refl _ | apply Drawn0.step)⟩
            · rw [if_neg c6] at H
              have c6b0 : (a1 == (rd l0 bl)) = false := beq_eq_false_iff_ne.mpr c6; have c6b1 : (a1 != (rd l0 bl)) = true := bne_iff_ne.mpr c6; have H' := Aside0.mk H; clear H; have p494 : 0 ≤ (bl : Int) := of_decide_eq_true (by first | (with_reducible assumption) | assumption); have q494 : bl < (l0.length : Int) := of_decide_eq_true (by first | (with_reducible assumption) | assumption); obtain ⟨eJ, e494, eK⟩ := Kd.at_int bR.out bl p494 q494
              cases e494
              replace p494 := eq_true p494; replace q494 := eq_true q494; go_wp2
              go_roundg k1
              case measure => have := dZ.out; omega
              case rel => exact ⟨(wrap64 (bl + 1)), (by first | rfl | (simp; done) | (simp [*]; done)), H', ⟨by have := dZ.out; omega⟩, by repeat (first | exact Drawn0.refl _ | apply Drawn0.step)⟩
          · rw [if_neg c5] at H
            exact absurd H (by simp)
        · rw [if_neg c4] at H
          exact absurd H (by simp)
      · rw [if_neg c3] at H
        have c3b0 : decide (bl < (l0.length : Int)) = false := decide_eq_false c3; clear c3; obtain rfl := Option.some.inj H; go_wp2
        go_ret
        exact ⟨by first | rfl | (simp; done) | (simp [*]; done), by repeat (first | exact Drawn0.refl _ | apply Drawn0.step)⟩

/-! ### slices_Contains_byte_byte: function 49 -/
def slices_Contains_byte_byte.f (k : Nat) (l0 : List Int) (a1 : Int) : Option (Bool) := (slices_Index_byte_byte.f k l0 a1).bind fun bC => (some (decide (bC ≥ 0)))
theorem slices_Contains_byte_byte.mono : ∀ a0 a1 k, LeO (slices_Contains_byte_byte.f k a0 a1) (slices_Contains_byte_byte.f (k + 1) a0 a1) := by
  intro a0 a1 k
  unfold slices_Contains_byte_byte.f
  repeat' first
      | (with_reducible exact slices_Index_byte_byte.mono _ _ _)
      | (with_reducible exact LeO.refl _)
      | (with_reducible exact LeO.none _)
      | (with_reducible refine LeO.ite ?_ ?_)
      | (with_reducible refine LeO.bind ?_ (fun _ => ?_))
      | exact slices_Index_byte_byte.mono _ _ _
      | exact LeO.none _
      | refine LeO.ite ?_ ?_
      | refine LeO.bind ?_ (fun _ => ?_)
set_option maxHeartbeats 8000000 in
set_option maxRecDepth 100000 in
theorem slices_Contains_byte_byte.calls (k : Nat) (A0 : Option Addr) (c0 : Nat) (l0 : List Int) (a1 : Int) (r : Bool) (w : World) (hr0 : Kd.C (Kd.int .u8) w A0 l0.length l0) (hc0 : l0.length ≤ c0) (h : slices_Contains_byte_byte.f k l0 a1 = some r) :
    Calls Try.prog 49 #[.slice A0 l0.length c0, .int .u8 a1] w fun e w' => e = .returned (.bool r) ∧ Drawn0 w w' := by
  have bR := Aside0.mk hr0; have dY := Aside0.mk hc0; clear hr0 hc0; have H := h; clear h; unfold slices_Contains_byte_byte.f at H; (try dsimp only at H); replace H := Option.bind_eq_some_iff.mp H; obtain ⟨bC, A30, H⟩ := H; (try dsimp only at H); have A3 := Aside0.mk A30; clear A30; obtain rfl := Option.some.inj H
  go_enter Try.func49, Try.ntmps49
  go_wp2_with (first | ((with_reducible refine gate_callee (f := 68) rfl ?_); refine goesM (some 7) rfl rfl Try.func68 (by kernel_rfl) rfl #[.slice A0 l0.length c0, .int .u8 a1] rfl ?_; (with_reducible refine (slices_Index_byte_byte.calls k _ _ l0 a1 bC _ ?side1 ?side2 A3.out).mono ?_); (case side1 => exact nC bR); (case side2 => exact dY.out); rintro e w' ⟨rfl, ⟨nd, rfl⟩⟩; refine ⟨_, rfl, ?_⟩))
  go_ret
  exact ⟨by first | rfl | (simp; done) | (simp [*]; done), by repeat (first | exact Drawn0.refl _ | apply Drawn0.step)⟩
/-! ### impl_hasPart: function 21 -/
theorem impl_hasPart.reads (W : World) (s : ByteArray) (g : Nat) (hg : g = W.heap.size) (hs : s.size ≤ 9223372036854775807) : Kd.C (Kd.int .u8) (Lib.bytesWorld W 5 s) (some ⟨g, 0, none⟩) s.size (bytesOf s) := by
  subst hg; obtain ⟨h1, h2, h3⟩ := bytes_reads W 5 s hs; refine ⟨h1, h2, fun hp => ?_⟩; obtain ⟨ad, e, hc⟩ := h3 hp; refine ⟨ad, e, fun j p hj => ⟨[.int .u8 p], rfl, rfl, fun i u hu => ?_⟩⟩
  have hi : i = 0 := by
    cases i with
    | zero => rfl
    | succ i => simp at hu
  subst hi; obtain rfl : Value.int .u8 p = u := by simpa using hu
  have hjl : j < s.size := by
    rw [← h1]; exact (List.getElem?_eq_some_iff.1 hj).1
  have h4 := hc j hjl; rw [List.getD_eq_getElem?_getD, hj] at h4; have h5 : j * (Kd.int .u8).sz + 0 = j := Nat.mul_one j; rw [h5]; exact h4
def impl_hasPart.f (k : Nat) (a0_0 : Int) (a0_1 : Int) (a0_2 : Int) (a0_3 : Int) (a0_4 : Int) (a1 : Int) : Option (Bool) := (impl_formOf.f k a0_0).bind fun bt => (if bt.1.size ≤ 9223372036854775807 then slices_Contains_byte_byte.f k (bytesOf bt.1) a1 else none)
theorem impl_hasPart.mono : ∀ a0 a1 a2 a3 a4 a5 k, LeO (impl_hasPart.f k a0 a1 a2 a3 a4 a5) (impl_hasPart.f (k + 1) a0 a1 a2 a3 a4 a5) := by
  intro a0 a1 a2 a3 a4 a5 k
  unfold impl_hasPart.f
  refine LeO.bind ?_ (fun _ => ?_)
  · first | exact impl_formOf.mono _ _ | exact LeO.refl _
  · refine LeO.ite ?_ ?_
    · first | exact slices_Contains_byte_byte.mono _ _ _ | exact LeO.refl _
    · exact LeO.none _
set_option maxHeartbeats 8000000 in
set_option maxRecDepth 100000 in
theorem impl_hasPart.calls (k : Nat) (a0_0 : Int) (a0_1 : Int) (a0_2 : Int) (a0_3 : Int) (a0_4 : Int) (a1 : Int) (r : Bool) (w : World) (h : impl_hasPart.f k a0_0 a0_1 a0_2 a0_3 a0_4 a1 = some r) :
  Calls Try.prog 21 #[.agg #[.int .i64 a0_0, .int .i64 a0_1, .int .i64 a0_2, .int .i64 a0_3, .int .i64 a0_4], .int .u8 a1] w fun e w' => e = .returned (.bool r) ∧ Below w.heap.size w w' := by
 obtain ⟨⟨s, b⟩, A80, H⟩ := Option.bind_eq_some_iff.mp h; have A8 := Aside0.mk A80; clear A80 h; (try dsimp only at H)
 by_cases hs : s.size ≤ 9223372036854775807
 · rw [if_pos hs] at H
   have HC : Aside0 (∀ (W : World) (ad : Option Addr) (c : Nat), Kd.C (Kd.int .u8) W ad s.size (bytesOf s) → s.size ≤ c → Calls Try.prog 49 #[.slice ad s.size c, .int .u8 a1] W fun e w' => e = .returned (.bool r) ∧ Drawn0 W w') := by
     refine ⟨fun W ad c h1 h2 => ?_⟩; rw [← bytesOf_length s] at h1 h2 ⊢; exact slices_Contains_byte_byte.calls k ad c (bytesOf s) a1 r W h1 h2 H
   clear H; have HS := Aside0.mk hs; clear hs; have kb := fun (W : World) => print_bytes (P := Try.prog) 9 22 5 Try.underlying9 Try.underlying22 Try.underlying5 s W
   have HB := Aside0.mk (Below.refl w.heap.size w)
   go_enter Try.func21, Try.ntmps21
   go_wp2_with (first | (go_at_call 48; refine (impl_formOf.calls k a0_0 s b _ A8.out).mono ?_; rintro e w' ⟨rfl, ⟨nd, rfl⟩⟩) | (go_at_call 49; refine (HC.out _ _ _ ?hrd (grownCap_ge _ _ _ _)).mono ?_; (case hrd => exact impl_hasPart.reads _ s _ (by simp) HS.out); rintro e w' ⟨rfl, ⟨nd2, rfl⟩⟩))
   go_ret
   refine ⟨rfl, ?_⟩; exact pw_below_drewN (bytes_below (pw_below_drewN (below_alloc HB.out _) _) (below_size (pw_below_drewN (below_alloc HB.out _) _)) _ _) _
 · rw [if_neg hs] at H
   exact absurd H (by simp)
/-! ### impl_Bare: function 69 -/
def impl_Bare.f (a0_0 : Int) (a0_1 : Bool) (a0_2 : Int) (a0_3 : Int) (a0_4 : Int) (a0_5 : Int) : Option (Int × Bool × Int × Int × Int × Int) := (impl_Plain.f a0_0).bind fun bp => (some (bp.1, bp.2.1, bp.2.2.1, bp.2.2.2.1, bp.2.2.2.2.1, bp.2.2.2.2.2))
set_option maxHeartbeats 8000000 in
set_option maxRecDepth 100000 in
theorem impl_Bare.calls (a0_0 : Int) (a0_1 : Bool) (a0_2 : Int) (a0_3 : Int) (a0_4 : Int) (a0_5 : Int) (r1 : Int) (r2 : Bool) (r3 : Int) (r4 : Int) (r5 : Int) (r6 : Int) (w : World) (h : impl_Bare.f a0_0 a0_1 a0_2 a0_3 a0_4 a0_5 = some (r1, r2, r3, r4, r5, r6)) :
    Calls Try.prog 69 #[.agg #[.int .i64 a0_0, .bool a0_1, .int .i64 a0_2, .int .i64 a0_3, .int .i64 a0_4, .int .i64 a0_5]] w fun e w' => e = .returned (.agg #[.int .i64 r1, .bool r2, .int .i64 r3, .int .i64 r4, .int .i64 r5, .int .i64 r6]) ∧ Below w.heap.size w w' := by
  have hu29 := Try.underlying29; have H := h; clear h; unfold impl_Bare.f at H; (try dsimp only at H); replace H := Option.bind_eq_some_iff.mp H; obtain ⟨⟨b2, b3, b4, b5, b6, b7⟩, A20, H⟩ := H; (try dsimp only at H); have A2 := Aside0.mk A20; clear A20; simp only [Option.some.injEq, Prod.mk.injEq] at H; obtain ⟨rfl, rfl, rfl, rfl, rfl, rfl⟩ := H
  go_enter Try.func69, Try.ntmps69
  go_wp2_with (first | (go_at_call 45; (with_reducible refine dmn (impl_Plain.calls (h := A2.out) (w := _)) ?_); intro x1 hb1 hc; have hw := dsz (n := w.heap.size + 1 + 1) hb1; have z := dl2 hw))
  refine bodyPost_ret (drc rfl _ _ rfl (by go_simp; rfl)) rfl ?_; exact ⟨rfl, dfi⟩
/-! ### impl_Weaken: function 50 -/
def impl_Weaken.f (k : Nat) (a0_0 : Int) (a0_1 : Bool) (a0_2 : Int) (a0_3 : Int) (a0_4 : Int) (a0_5 : Int) (a1 : Int) : Option (Int × Bool × Int × Int × Int × Int) := (impl_open.f k a0_0 a0_1 a0_2 a0_3 a0_4 a0_5).bind fun bD => (if bD = true then (some (a0_0, a0_1, a0_2, a0_3, Go.bits .and .i64 a0_4 (Go.bits .and .i64 a1 63), a0_5)) else ((impl_Bare.f a0_0 a0_1 a0_2 a0_3 a0_4 a0_5).bind fun bh => (some (bh.1, bh.2.1, bh.2.2.1, bh.2.2.2.1, bh.2.2.2.2.1, bh.2.2.2.2.2))))
theorem impl_Weaken.mono : ∀ a0 a1 a2 a3 a4 a5 a6 k, LeO (impl_Weaken.f k a0 a1 a2 a3 a4 a5 a6) (impl_Weaken.f (k + 1) a0 a1 a2 a3 a4 a5 a6) := by
  intro a0 a1 a2 a3 a4 a5 a6 k
  unfold impl_Weaken.f
  repeat' first
      | (with_reducible exact impl_open.mono _ _ _ _ _ _ _)
      | (with_reducible exact LeO.refl _)
      | (with_reducible exact LeO.none _)
      | (with_reducible refine LeO.ite ?_ ?_)
      | (with_reducible refine LeO.bind ?_ (fun _ => ?_))
      | exact impl_open.mono _ _ _ _ _ _ _
      | exact LeO.none _
      | refine LeO.ite ?_ ?_
      | refine LeO.bind ?_ (fun _ => ?_)
set_option maxHeartbeats 8000000 in
set_option maxRecDepth 100000 in
theorem impl_Weaken.calls (k : Nat) (a0_0 : Int) (a0_1 : Bool) (a0_2 : Int) (a0_3 : Int) (a0_4 : Int) (a0_5 : Int) (a1 : Int) (r1 : Int) (r2 : Bool) (r3 : Int) (r4 : Int) (r5 : Int) (r6 : Int) (w : World) (h : impl_Weaken.f k a0_0 a0_1 a0_2 a0_3 a0_4 a0_5 a1 = some (r1, r2, r3, r4, r5, r6)) :
    Calls Try.prog 50 #[.agg #[.int .i64 a0_0, .bool a0_1, .int .i64 a0_2, .int .i64 a0_3, .int .i64 a0_4, .int .i64 a0_5], .int .i64 a1] w fun e w' => e = .returned (.agg #[.int .i64 r1, .bool r2, .int .i64 r3, .int .i64 r4, .int .i64 r5, .int .i64 r6]) ∧ Below w.heap.size w w' := by
  have hu29 := Try.underlying29; have H := h; clear h; unfold impl_Weaken.f at H; (try dsimp only at H); replace H := Option.bind_eq_some_iff.mp H; obtain ⟨bD, A30, H⟩ := H; (try dsimp only at H); have A3 := Aside0.mk A30; clear A30
  by_cases c4 : bD = true
  · subst c4
    rw [if_pos rfl] at H; (try dsimp only at H); simp only [Option.some.injEq, Prod.mk.injEq] at H; obtain ⟨rfl, rfl, rfl, rfl, rfl, rfl⟩ := H
    go_enter Try.func50, Try.ntmps50
    go_wp2_with (first | (go_at_call 46; (with_reducible refine dmn (impl_open.calls (h := A3.out) (w := _)) ?_); intro x1 hb1 hc; have hw := dsz (n := w.heap.size + 1 + 1) hb1; have z := dl2 hw))
    refine bodyPost_ret (drc rfl _ _ rfl (by go_simp; rfl)) rfl ?_; exact ⟨rfl, dfi⟩
  · replace c4 := Bool.eq_false_iff.mpr c4
    subst c4; rw [if_neg (show ¬ (false = true) by decide)] at H; (try dsimp only at H); replace H := Option.bind_eq_some_iff.mp H; obtain ⟨⟨da, db, dc, dd, de, df⟩, A120, H⟩ := H; (try dsimp only at H); have A12 := Aside0.mk A120; clear A120; simp only [Option.some.injEq, Prod.mk.injEq] at H; obtain ⟨rfl, rfl, rfl, rfl, rfl, rfl⟩ := H
    go_enter Try.func50, Try.ntmps50
    go_wp2_with (first | (go_at_call 46; (with_reducible refine dmn (impl_open.calls (h := A3.out) (w := _)) ?_); intro x1 hb1 hc; have hw := dsz (n := w.heap.size + 1 + 1) hb1; have z := dl2 hw) | (go_at_call 69; (with_reducible refine dmn (impl_Bare.calls (h := A12.out) (w := _)) ?_); intro x2 hb2 hc; have hw := dsz (n := w.heap.size + 1 + 1) hb2; have z := dl2 hw))
    refine bodyPost_ret (drc rfl _ _ rfl (by go_simp; rfl)) rfl ?_; exact ⟨rfl, dfi⟩
/-! ### impl_Narrow: function 51 -/
def impl_Narrow.j0 : Nat → Int → Bool → Int → Bool → Int → Int → Int → Int → Option (Int × Bool × Int × Int × Int × Int)
  | 0, _, _, _, _, _, _, _, _ => none
  | k + 1, x1, e8, bE, bT, bU, bV, bW, bX => if e8 = true then ((impl_Bare.f bE bT bU bV bW bX).bind fun bq => (some (bq.1, bq.2.1, bq.2.2.1, bq.2.2.2.1, bq.2.2.2.2.1, bq.2.2.2.2.2))) else ((impl_Wide.f k bE (wrap64 (bE + x1))).bind fun bv => (if bv.1 < bU then ((impl_Bare.f bE bT bU bV bW bX).bind fun bm => (some (bm.1, bm.2.1, bm.2.2.1, bm.2.2.2.1, bm.2.2.2.2.1, bm.2.2.2.2.2))) else (if bv.2 > bV then ((impl_Bare.f bE bT bU bV bW bX).bind fun bn => (some (bn.1, bn.2.1, bn.2.2.1, bn.2.2.2.1, bn.2.2.2.2.1, bn.2.2.2.2.2))) else (some (bE, bT, bv.1, bv.2, bW, bX)))))
def impl_Narrow.f (k : Nat) (a0_0 : Int) (a0_1 : Bool) (a0_2 : Int) (a0_3 : Int) (a0_4 : Int) (a0_5 : Int) (a1 : Int) : Option (Int × Bool × Int × Int × Int × Int) := (impl_open.f k a0_0 a0_1 a0_2 a0_3 a0_4 a0_5).bind fun bF => (if bF = true then (if a1 < 0 then (impl_Narrow.j0 k a1 true a0_0 a0_1 a0_2 a0_3 a0_4 a0_5) else (if a1 > 4096 then (impl_Narrow.j0 k a1 true a0_0 a0_1 a0_2 a0_3 a0_4 a0_5) else ((impl_BoundsOk.f a0_0 (wrap64 (a0_0 + a1))).bind fun br => (impl_Narrow.j0 k a1 (!br) a0_0 a0_1 a0_2 a0_3 a0_4 a0_5)))) else (impl_Narrow.j0 k a1 true a0_0 a0_1 a0_2 a0_3 a0_4 a0_5))
theorem impl_Narrow.mono_l : ∀ k, (∀ y0 y1 y2 y3 y4 y5 y6 y7, LeO (impl_Narrow.j0 k y0 y1 y2 y3 y4 y5 y6 y7) (impl_Narrow.j0 (k + 1) y0 y1 y2 y3 y4 y5 y6 y7))
  | 0 => fun _ _ _ _ _ _ _ _ r h => by simp [impl_Narrow.j0] at h
  | k + 1 => by
    have ih0 := impl_Narrow.mono_l k
    · intro y0 y1 y2 y3 y4 y5 y6 y7
      unfold impl_Narrow.j0
      repeat' first
      | (with_reducible exact ih0 _ _ _ _ _ _ _ _)
      | (with_reducible exact impl_Wide.mono _ _ _)
      | (with_reducible exact impl_open.mono _ _ _ _ _ _ _)
      | (with_reducible exact LeO.refl _)
      | (with_reducible exact LeO.none _)
      | (with_reducible refine LeO.ite ?_ ?_)
      | (with_reducible refine LeO.bind ?_ (fun _ => ?_))
      | exact ih0 _ _ _ _ _ _ _ _
      | exact impl_Wide.mono _ _ _
      | exact impl_open.mono _ _ _ _ _ _ _
      | exact LeO.none _
      | refine LeO.ite ?_ ?_
      | refine LeO.bind ?_ (fun _ => ?_)
theorem impl_Narrow.mono : ∀ a0 a1 a2 a3 a4 a5 a6 k, LeO (impl_Narrow.f k a0 a1 a2 a3 a4 a5 a6) (impl_Narrow.f (k + 1) a0 a1 a2 a3 a4 a5 a6) := by
  intro a0 a1 a2 a3 a4 a5 a6 k; have ih0 := impl_Narrow.mono_l k
  unfold impl_Narrow.f
  repeat' first
      | (with_reducible exact ih0 _ _ _ _ _ _ _ _)
      | (with_reducible exact impl_Wide.mono _ _ _)
      | (with_reducible exact impl_open.mono _ _ _ _ _ _ _)
      | (with_reducible exact LeO.refl _)
      | (with_reducible exact LeO.none _)
      | (with_reducible refine LeO.ite ?_ ?_)
      | (with_reducible refine LeO.bind ?_ (fun _ => ?_))
      | exact ih0 _ _ _ _ _ _ _ _
      | exact impl_Wide.mono _ _ _
      | exact impl_open.mono _ _ _ _ _ _ _
      | exact LeO.none _
      | refine LeO.ite ?_ ?_
      | refine LeO.bind ?_ (fun _ => ?_)
set_option maxHeartbeats 8000000 in
set_option maxRecDepth 100000 in
theorem impl_Narrow.calls (k : Nat) (a0_0 : Int) (a0_1 : Bool) (a0_2 : Int) (a0_3 : Int) (a0_4 : Int) (a0_5 : Int) (a1 : Int) (r1 : Int) (r2 : Bool) (r3 : Int) (r4 : Int) (r5 : Int) (r6 : Int) (w : World) (h : impl_Narrow.f k a0_0 a0_1 a0_2 a0_3 a0_4 a0_5 a1 = some (r1, r2, r3, r4, r5, r6)) :
    Calls Try.prog 51 #[.agg #[.int .i64 a0_0, .bool a0_1, .int .i64 a0_2, .int .i64 a0_3, .int .i64 a0_4, .int .i64 a0_5], .int .i64 a1] w fun e w' => e = .returned (.agg #[.int .i64 r1, .bool r2, .int .i64 r3, .int .i64 r4, .int .i64 r5, .int .i64 r6]) ∧ Below w.heap.size w w' := by
  have hu29 := Try.underlying29; have HB := Aside0.mk (Below.refl w.heap.size w); have H := h; clear h; unfold impl_Narrow.f at H; (try dsimp only at H); have dt := Aside0.mk H; clear H
  go_enter Try.func51, Try.ntmps51
  go_upto_region 1 with (first | ((with_reducible refine gate_dst (N := 2) rfl ?_); refine bxe 2 #[.int .i64 a0_0, .bool a0_1, .int .i64 a0_2, .int .i64 a0_3, .int .i64 a0_4, .int .i64 a0_5] 29 ?_; intro e9 hg w4 hbox hb; have ba := hbox; have iC := nge HB hg; have iD := nge HB hg; replace HB := nbs HB hb; clear hb hbox hg) | ((with_reducible refine gate_dst (N := 4) rfl ?_); refine bxe 4 #[.int .i64 0, .bool false, .int .i64 0, .int .i64 0, .int .i64 0, .int .i64 0] 29 ?_; intro bK hg w5 hbox hb; have bd := hbox; have iE := nge HB hg; have iF := nge HB hg; have bB := nlt ba hg; have bw := ngt ba hg; replace ba := nblk ba hb; replace HB := nbs HB hb; clear hb hbox hg))
  (try simp only [Act.put, List.setIfInBounds_toArray, List.set_cons_zero, List.set_cons_succ])
  go_cut [27] (fun ga wc => ∃ (kq : Nat) (bY : Bool), ga = .bool bY ∧ Aside0 (impl_Narrow.j0 kq a1 bY a0_0 a0_1 a0_2 a0_3 a0_4 a0_5 = some (r1, r2, r3, r4, r5, r6)) ∧ Aside0 (kq ≤ k) ∧ Aside0 (wc.heap[e9]? = some (.cells #[.int .i64 a0_0, .bool a0_1, .int .i64 a0_2, .int .i64 a0_3, .int .i64 a0_4, .int .i64 a0_5] 29 (0, 0))) ∧ Aside0 (wc.heap[bK]? = some (.cells #[.int .i64 0, .bool false, .int .i64 0, .int .i64 0, .int .i64 0, .int .i64 0] 29 (0, 0))) ∧ Aside0 (Below w.heap.size w wc))
  case first =>
    have H := dt.out; clear dt; replace H := Option.bind_eq_some_iff.mp H; obtain ⟨bF, A60, H⟩ := H; (try dsimp only at H); have A6 := Aside0.mk A60; clear A60
    by_cases c7 : bF = true
    · subst c7
      rw [if_pos rfl] at H; (try dsimp only at H)
      by_cases c8 : a1 < 0
      · rw [if_pos c8] at H
        have c8b0 : decide (a1 < 0) = true := decide_eq_true c8; clear c8; (first | rw [c8b0] | (simp only [i64_w, i32_w]; rw [c8b0]) | skip); have H' := Aside0.mk H; clear H; have iG := bB.out; have iH := bw.out; obtain ⟨ec, ed, ee, ef, eg, eh⟩ := c6e ba; obtain ⟨ei, ej, ek, el, em, en⟩ := z6_ ba
        go_wp2_with (first | ((with_reducible refine gate_callee (f := 46) rfl ?_); refine goesM (some 8) rfl rfl Try.func46 (by kernel_rfl) rfl #[.agg #[.int .i64 a0_0, .bool a0_1, .int .i64 a0_2, .int .i64 a0_3, .int .i64 a0_4, .int .i64 a0_5]] rfl ?_; (with_reducible refine (impl_open.calls k a0_0 a0_1 a0_2 a0_3 a0_4 a0_5 true _ A6.out).mono ?_); rintro e iI ⟨rfl, hb⟩; refine ⟨_, rfl, ?_⟩; replace ba := nblk ba hb; replace bd := nblk bd hb; replace HB := nbs HB hb; (try clear hb)))
        go_meet
        case rel => exact ⟨_, (true), (by first | rfl | (simp; done) | (simp [*]; done)), H', ⟨by first | omega | exact Nat.le_refl _⟩, ⟨nb ba⟩, ⟨nb bd⟩, ⟨nbe HB⟩⟩
      · rw [if_neg c8] at H
        have c8b0 : decide (a1 < 0) = false := decide_eq_false c8; clear c8; (first | rw [c8b0] | (simp only [i64_w, i32_w]; rw [c8b0]) | skip)
        by_cases c12 : a1 > 4096
        · rw [if_pos c12] at H
          have c12b0 : decide (4096 < a1) = true := decide_eq_true c12; clear c12; have H' := Aside0.mk H; clear H; have iJ := bB.out; have iK := bw.out; obtain ⟨gb, gc, gd, gf, gg, gh⟩ := c6e ba; obtain ⟨gi, gj, gl, gm, gn, gp⟩ := z6_ ba
          go_wp2_with (first | ((with_reducible refine gate_callee (f := 46) rfl ?_); refine goesM (some 8) rfl rfl Try.func46 (by kernel_rfl) rfl #[.agg #[.int .i64 a0_0, .bool a0_1, .int .i64 a0_2, .int .i64 a0_3, .int .i64 a0_4, .int .i64 a0_5]] rfl ?_; (with_reducible refine (impl_open.calls k a0_0 a0_1 a0_2 a0_3 a0_4 a0_5 true _ A6.out).mono ?_); rintro e iL ⟨rfl, hb⟩; refine ⟨_, rfl, ?_⟩; replace ba := nblk ba hb; replace bd := nblk bd hb; replace HB := nbs HB hb; (try clear hb)))
          go_meet
          case rel => exact ⟨_, (true), (by first | rfl | (simp; done) | (simp [*]; done)), H', ⟨by first | omega | exact Nat.le_refl _⟩, ⟨nb ba⟩, ⟨nb bd⟩, ⟨nbe HB⟩⟩
        · rw [if_neg c12] at H
          have c12b0 : decide (4096 < a1) = false := decide_eq_false c12; clear c12; replace H := Option.bind_eq_some_iff.mp H; obtain ⟨br, A160, H⟩ := H; (try dsimp only at H); have A16 := Aside0.mk A160; clear A160; have H' := Aside0.mk H; clear H; have iM := bB.out; have iN := bw.out; obtain ⟨dg, dh, di, dj, dk, dl⟩ := c6e ba; obtain ⟨dm, dn, dp, dq, dr, ds⟩ := z6_ ba
          go_wp2_with (first | ((with_reducible refine gate_callee (f := 46) rfl ?_); refine goesM (some 8) rfl rfl Try.func46 (by kernel_rfl) rfl #[.agg #[.int .i64 a0_0, .bool a0_1, .int .i64 a0_2, .int .i64 a0_3, .int .i64 a0_4, .int .i64 a0_5]] rfl ?_; (with_reducible refine (impl_open.calls k a0_0 a0_1 a0_2 a0_3 a0_4 a0_5 true _ A6.out).mono ?_); rintro e e7 ⟨rfl, hb⟩; refine ⟨_, rfl, ?_⟩; replace ba := nblk ba hb; replace bd := nblk bd hb; replace HB := nbs HB hb; (try clear hb); obtain ⟨eo, ep, er, es, et, eu⟩ := c6e ba; obtain ⟨ev, ew, ex, ey, ez, eA⟩ := z6_ ba) | (go_at_call 70; (with_reducible refine (impl_BoundsOk.calls a0_0 (wrap64 (a0_0 + a1)) br _ A16.out).mono ?_); rintro e w' ⟨rfl, ⟨nd, rfl⟩⟩))
          go_meet
          case rel => exact ⟨_, (!br), (by first | rfl | (simp; done) | (simp [*]; done)), H', ⟨by first | omega | exact Nat.le_refl _⟩, ⟨nb ba⟩, ⟨nb bd⟩, ⟨nbe HB⟩⟩
    · replace c7 := Bool.eq_false_iff.mpr c7
      subst c7; rw [if_neg (show ¬ (false = true) by decide)] at H; (try dsimp only at H); have H' := Aside0.mk H; clear H; have iO := bB.out; have iP := bw.out; obtain ⟨gq, gr, gs, gt, gu, gv⟩ := c6e ba; obtain ⟨gw, gx, gy, gz, gA, gB⟩ := z6_ ba
      go_wp2_with (first | ((with_reducible refine gate_callee (f := 46) rfl ?_); refine goesM (some 8) rfl rfl Try.func46 (by kernel_rfl) rfl #[.agg #[.int .i64 a0_0, .bool a0_1, .int .i64 a0_2, .int .i64 a0_3, .int .i64 a0_4, .int .i64 a0_5]] rfl ?_; (with_reducible refine (impl_open.calls k a0_0 a0_1 a0_2 a0_3 a0_4 a0_5 false _ A6.out).mono ?_); rintro e gC ⟨rfl, hb⟩; refine ⟨_, rfl, ?_⟩; replace ba := nblk ba hb; replace bd := nblk bd hb; replace HB := nbs HB hb; (try clear hb)))
      go_meet
      case rel => exact ⟨_, (true), (by first | rfl | (simp; done) | (simp [*]; done)), H', ⟨by first | omega | exact Nat.le_refl _⟩, ⟨nb ba⟩, ⟨nb bd⟩, ⟨nbe HB⟩⟩
  case rest =>
    clear dt; try clear c1
    try clear c2
    try clear p2
    try clear c4
    try clear c5
    try clear p6
    try clear c7
    try clear c8
    try clear c8b0
    try clear c9
    try clear c12
    try clear c12b0
    try clear c13
    try clear c17
    try clear c21
    try clear ec
    try clear ed
    try clear ee
    try clear ef
    try clear eg
    try clear eh
    try clear gb
    try clear gc
    try clear gd
    try clear gf
    try clear gg
    try clear gh
    try clear dg
    try clear dh
    try clear di
    try clear dj
    try clear dk
    try clear dl
    try clear eo
    try clear ep
    try clear er
    try clear es
    try clear et
    try clear eu
    try clear gq
    try clear gr
    try clear gs
    try clear gt
    try clear gu
    try clear gv
    try clear ei
    try clear ej
    try clear ek
    try clear el
    try clear em
    try clear en
    try clear gi
    try clear gj
    try clear gl
    try clear gm
    try clear gn
    try clear gp
    try clear dm
    try clear dn
    try clear dp
    try clear dq
    try clear dr
    try clear ds
    try clear ev
    try clear ew
    try clear ex
    try clear ey
    try clear ez
    try clear eA
    try clear gw
    try clear gx
    try clear gy
    try clear gz
    try clear gA
    try clear gB
    obtain ⟨kq, bY, rfl, HA, iQ, ba, bd, HB⟩ := hcut
    cases kq with
    | zero => exact absurd HA.out (by simp [impl_Narrow.j0])
    | succ kj2 =>
      have H := HA.out; clear HA; simp only [impl_Narrow.j0] at H
      by_cases c24 : bY = true
      · subst c24
        rw [if_pos rfl] at H; (try dsimp only at H); replace H := Option.bind_eq_some_iff.mp H; obtain ⟨⟨du, dv, dw, dx, dy, dz⟩, A250, H⟩ := H; (try dsimp only at H); have A25 := Aside0.mk A250; clear A250; simp only [Option.some.injEq, Prod.mk.injEq] at H; obtain ⟨rfl, rfl, rfl, rfl, rfl, rfl⟩ := H; have iR := bB.out; have iS := bw.out; obtain ⟨iT, iU, iV, iW, iX, iY⟩ := c6e ba; obtain ⟨iZ, i0, i1, i2, i3, i4⟩ := z6_ ba
        go_wp2_with (first | ((with_reducible refine gate_callee (f := 69) rfl ?_); refine goesM (some 29) rfl rfl Try.func69 (by kernel_rfl) rfl #[.agg #[.int .i64 a0_0, .bool a0_1, .int .i64 a0_2, .int .i64 a0_3, .int .i64 a0_4, .int .i64 a0_5]] rfl ?_; (with_reducible refine (impl_Bare.calls a0_0 a0_1 a0_2 a0_3 a0_4 a0_5 du dv dw dx dy dz _ A25.out).mono ?_); rintro e i5 ⟨rfl, hb⟩; refine ⟨_, rfl, ?_⟩; replace ba := nblk ba hb; replace bd := nblk bd hb; replace HB := nbs HB hb; (try clear hb); obtain ⟨gD, gE, gF, gG, gH, gI⟩ := c6e bd; obtain ⟨gJ, gK, gL, gM, gN, gO⟩ := z6_ bd))
        refine bodyPost_ret (results_cell_row rfl _ _ bK 29 #[.int .i64 du, .bool dv, .int .i64 dw, .int .i64 dx, .int .i64 dy, .int .i64 dz] (0, 0) _ rfl (q6 bd) Try.underlying29 rfl (by kernel_rfl)) rfl ?_; exact ⟨er_, nbe HB⟩
      · replace c24 := Bool.eq_false_iff.mpr c24
        subst c24; rw [if_neg (show ¬ (false = true) by decide)] at H; (try dsimp only at H); replace H := Option.bind_eq_some_iff.mp H; obtain ⟨⟨bx, bz⟩, A300, H⟩ := H; (try dsimp only at H); have A30 := Aside0.mk A300; clear A300
        by_cases c31 : bx < a0_2
        · rw [if_pos c31] at H
          have c31b0 : decide (bx < a0_2) = true := decide_eq_true c31; clear c31; replace H := Option.bind_eq_some_iff.mp H; obtain ⟨⟨dA, dB, dC, dD, dE, dF⟩, A320, H⟩ := H; (try dsimp only at H); have A32 := Aside0.mk A320; clear A320; simp only [Option.some.injEq, Prod.mk.injEq] at H; obtain ⟨rfl, rfl, rfl, rfl, rfl, rfl⟩ := H; have i6 := bB.out; have i7 := bw.out; obtain ⟨i8, i9, ja, jb, jc, jd⟩ := c6e ba; obtain ⟨je, jf, jg, jh, ji, jj⟩ := z6_ ba
          go_wp2_with (first | ((with_reducible refine gate_callee (f := 71) rfl ?_); refine goesM (some 37) rfl rfl Try.func71 (by kernel_rfl) rfl #[.int .i64 a0_0, .int .i64 (wrap64 (a0_0 + a1))] rfl ?_; (with_reducible refine (impl_Wide.calls kj2 a0_0 (wrap64 (a0_0 + a1)) bx bz _ A30.out).mono ?_); rintro e gP ⟨rfl, hb⟩; refine ⟨_, rfl, ?_⟩; replace ba := nblk ba hb; replace bd := nblk bd hb; replace HB := nbs HB hb; (try clear hb); obtain ⟨jk, jl, jm, jn, jo, jp⟩ := c6e ba; obtain ⟨jq, jr, js, jt, ju, jv⟩ := z6_ ba) | ((with_reducible refine gate_callee (f := 69) rfl ?_); refine goesM (some 53) rfl rfl Try.func69 (by kernel_rfl) rfl #[.agg #[.int .i64 a0_0, .bool a0_1, .int .i64 a0_2, .int .i64 a0_3, .int .i64 a0_4, .int .i64 a0_5]] rfl ?_; (with_reducible refine (impl_Bare.calls a0_0 a0_1 a0_2 a0_3 a0_4 a0_5 dA dB dC dD dE dF _ A32.out).mono ?_); rintro e gQ ⟨rfl, hb⟩; refine ⟨_, rfl, ?_⟩; replace ba := nblk ba hb; replace bd := nblk bd hb; replace HB := nbs HB hb; (try clear hb); obtain ⟨jw, jx, jy, jz, jA, jB⟩ := c6e bd; obtain ⟨jC, jD, jE, jF, jG, jH⟩ := z6_ bd))
          refine bodyPost_ret (results_cell_row rfl _ _ bK 29 #[.int .i64 dA, .bool dB, .int .i64 dC, .int .i64 dD, .int .i64 dE, .int .i64 dF] (0, 0) _ rfl (q6 bd) Try.underlying29 rfl (by kernel_rfl)) rfl ?_; exact ⟨er_, nbe HB⟩
        · rw [if_neg c31] at H
          have c31b0 : decide (bx < a0_2) = false := decide_eq_false c31; clear c31
          by_cases c39 : bz > a0_3
          · rw [if_pos c39] at H
            have c39b0 : decide (a0_3 < bz) = true := decide_eq_true c39; clear c39; replace H := Option.bind_eq_some_iff.mp H; obtain ⟨⟨dG, dH, dI, dJ, dK, dL⟩, A400, H⟩ := H; (try dsimp only at H); have A40 := Aside0.mk A400; clear A400; simp only [Option.some.injEq, Prod.mk.injEq] at H; obtain ⟨rfl, rfl, rfl, rfl, rfl, rfl⟩ := H; have jI := bB.out; have jJ := bw.out; obtain ⟨gR, gS, gT, gU, gV, gW⟩ := c6e ba; obtain ⟨gX, gY, gZ, g0, g1, g2⟩ := z6_ ba
            go_wp2_with (first | ((with_reducible refine gate_callee (f := 71) rfl ?_); refine goesM (some 37) rfl rfl Try.func71 (by kernel_rfl) rfl #[.int .i64 a0_0, .int .i64 (wrap64 (a0_0 + a1))] rfl ?_; (with_reducible refine (impl_Wide.calls kj2 a0_0 (wrap64 (a0_0 + a1)) bx bz _ A30.out).mono ?_); rintro e g3 ⟨rfl, hb⟩; refine ⟨_, rfl, ?_⟩; replace ba := nblk ba hb; replace bd := nblk bd hb; replace HB := nbs HB hb; (try clear hb); obtain ⟨jK, jL, jM, jN, jO, jP⟩ := c6e ba; obtain ⟨jQ, jR, jS, jT, jU, jV⟩ := z6_ ba) | ((with_reducible refine gate_callee (f := 69) rfl ?_); refine goesM (some 53) rfl rfl Try.func69 (by kernel_rfl) rfl #[.agg #[.int .i64 a0_0, .bool a0_1, .int .i64 a0_2, .int .i64 a0_3, .int .i64 a0_4, .int .i64 a0_5]] rfl ?_; (with_reducible refine (impl_Bare.calls a0_0 a0_1 a0_2 a0_3 a0_4 a0_5 dG dH dI dJ dK dL _ A40.out).mono ?_); rintro e jW ⟨rfl, hb⟩; refine ⟨_, rfl, ?_⟩; replace ba := nblk ba hb; replace bd := nblk bd hb; replace HB := nbs HB hb; (try clear hb); obtain ⟨jX, jY, jZ, j1, j2, j3⟩ := c6e bd; obtain ⟨j4, j5, j6, j7, j8, j9⟩ := z6_ bd))
            refine bodyPost_ret (results_cell_row rfl _ _ bK 29 #[.int .i64 dG, .bool dH, .int .i64 dI, .int .i64 dJ, .int .i64 dK, .int .i64 dL] (0, 0) _ rfl (q6 bd) Try.underlying29 rfl (by kernel_rfl)) rfl ?_; exact ⟨er_, nbe HB⟩
          · rw [if_neg c39] at H
            have c39b0 : decide (a0_3 < bz) = false := decide_eq_false c39; clear c39; simp only [Option.some.injEq, Prod.mk.injEq] at H; obtain ⟨rfl, rfl, rfl, rfl, rfl, rfl⟩ := H; have ka := bB.out; have kc := bw.out; obtain ⟨kd, ke, kf, kg, kh, ki⟩ := c6e ba; obtain ⟨kj, kk, kl, km, kn, ko⟩ := z6_ ba
            go_wp2_with (first | ((with_reducible refine gate_callee (f := 71) rfl ?_); refine goesM (some 37) rfl rfl Try.func71 (by kernel_rfl) rfl #[.int .i64 a0_0, .int .i64 (wrap64 (a0_0 + a1))] rfl ?_; (with_reducible refine (impl_Wide.calls kj2 a0_0 (wrap64 (a0_0 + a1)) bx bz _ A30.out).mono ?_); rintro e kp ⟨rfl, hb⟩; refine ⟨_, rfl, ?_⟩; replace ba := nblk ba hb; replace bd := nblk bd hb; replace HB := nbs HB hb; (try clear hb); obtain ⟨kr, ks, kt, ku, kv, kw⟩ := c6e ba; obtain ⟨kx, ky, kz, kA, kB, kC⟩ := z6_ ba; obtain ⟨kD, kE, kF, kG, kH, kI⟩ := c6e bd; obtain ⟨kJ, kK, kL, kM, kN, kO⟩ := z6_ bd))
            refine bodyPost_ret (results_cell_row rfl _ _ bK 29 #[.int .i64 a0_0, .bool a0_1, .int .i64 bx, .int .i64 bz, .int .i64 a0_4, .int .i64 a0_5] (0, 0) _ rfl (p6 bd (k2_ bw.out (nb bd))) Try.underlying29 rfl (by kernel_rfl)) rfl ?_; exact ⟨er_, nbe HB⟩
/-! ### impl_seals: function 72 -/
def impl_seals.f (k : Nat) (a0_0 : Int) (a0_1 : Bool) (a0_2 : Int) (a0_3 : Int) (a0_4 : Int) (a0_5 : Int) : Option (Bool) := (impl_open.f k a0_0 a0_1 a0_2 a0_3 a0_4 a0_5).bind fun bG => (if bG = true then (if (Go.bits .and .i64 a0_4 32) = 0 then (some false) else (if a0_0 ≥ a0_2 then (if a0_0 < a0_3 then ((impl_in.f a0_0 1 7).bind fun bs => (some bs)) else (some false)) else (some false))) else (some false))
theorem impl_seals.mono : ∀ a0 a1 a2 a3 a4 a5 k, LeO (impl_seals.f k a0 a1 a2 a3 a4 a5) (impl_seals.f (k + 1) a0 a1 a2 a3 a4 a5) := by
  intro a0 a1 a2 a3 a4 a5 k
  unfold impl_seals.f
  repeat' first
      | (with_reducible exact impl_open.mono _ _ _ _ _ _ _)
      | (with_reducible exact LeO.refl _)
      | (with_reducible exact LeO.none _)
      | (with_reducible refine LeO.ite ?_ ?_)
      | (with_reducible refine LeO.bind ?_ (fun _ => ?_))
      | exact impl_open.mono _ _ _ _ _ _ _
      | exact LeO.none _
      | refine LeO.ite ?_ ?_
      | refine LeO.bind ?_ (fun _ => ?_)
set_option maxHeartbeats 8000000 in
set_option maxRecDepth 100000 in
theorem impl_seals.calls (k : Nat) (a0_0 : Int) (a0_1 : Bool) (a0_2 : Int) (a0_3 : Int) (a0_4 : Int) (a0_5 : Int) (r : Bool) (w : World) (h : impl_seals.f k a0_0 a0_1 a0_2 a0_3 a0_4 a0_5 = some r) :
    Calls Try.prog 72 #[.agg #[.int .i64 a0_0, .bool a0_1, .int .i64 a0_2, .int .i64 a0_3, .int .i64 a0_4, .int .i64 a0_5]] w fun e w' => e = .returned (.bool r) ∧ Below w.heap.size w w' := by
  have hu29 := Try.underlying29; have H := h; clear h; unfold impl_seals.f at H; (try dsimp only at H); replace H := Option.bind_eq_some_iff.mp H; obtain ⟨bG, A20, H⟩ := H; (try dsimp only at H); have A2 := Aside0.mk A20; clear A20
  by_cases c3 : bG = true
  · subst c3
    rw [if_pos rfl] at H; (try dsimp only at H)
    by_cases c4 : (Go.bits .and .i64 a0_4 32) = 0
    · rw [if_pos c4] at H
      have c4b0 : ((Go.bits .and .i64 a0_4 32) == 0) = true := beq_iff_eq.mpr c4; have c4b1 : ((Go.bits .and .i64 a0_4 32) != 0) = false := bne_eq_false_iff_eq.mpr c4; clear c4; obtain rfl := Option.some.inj H
      go_enter Try.func72, Try.ntmps72
      go_wp2_with (first | (go_at_call 46; (with_reducible refine dmn (impl_open.calls (h := A2.out) (w := _)) ?_); intro x1 hb1 hc; have hw := dsz (n := w.heap.size + 1) hb1; have z := dl1 hw))
      go_ret; exact ⟨er_, dfi⟩
    · rw [if_neg c4] at H
      have c4b0 : ((Go.bits .and .i64 a0_4 32) == 0) = false := beq_eq_false_iff_ne.mpr c4; have c4b1 : ((Go.bits .and .i64 a0_4 32) != 0) = true := bne_iff_ne.mpr c4
      by_cases c9 : a0_0 ≥ a0_2
      · rw [if_pos c9] at H
        have c9b0 : decide (a0_2 ≤ a0_0) = true := decide_eq_true c9; clear c9
        by_cases c10 : a0_0 < a0_3
        · rw [if_pos c10] at H
          have c10b0 : decide (a0_0 < a0_3) = true := decide_eq_true c10; clear c10; replace H := Option.bind_eq_some_iff.mp H; obtain ⟨bs, A110, H⟩ := H; (try dsimp only at H); have A11 := Aside0.mk A110; clear A110; obtain rfl := Option.some.inj H
          go_enter Try.func72, Try.ntmps72
          go_wp2_with (first | (go_at_call 46; (with_reducible refine dmn (impl_open.calls (h := A2.out) (w := _)) ?_); intro x1 hb1 hc; have hw := dsz (n := w.heap.size + 1) hb1; have z := dl1 hw) | (go_at_call 30; (with_reducible refine (impl_in.calls (h := A11.out) (w := _)).mono ?_); rintro e w' ⟨rfl, ⟨nd_, rfl⟩⟩))
          go_ret; exact ⟨er_, dfi⟩
        · rw [if_neg c10] at H
          have c10b0 : decide (a0_0 < a0_3) = false := decide_eq_false c10; clear c10; obtain rfl := Option.some.inj H
          go_enter Try.func72, Try.ntmps72
          go_wp2_with (first | (go_at_call 46; (with_reducible refine dmn (impl_open.calls (h := A2.out) (w := _)) ?_); intro x1 hb1 hc; have hw := dsz (n := w.heap.size + 1) hb1; have z := dl1 hw))
          go_ret; exact ⟨er_, dfi⟩
      · rw [if_neg c9] at H
        have c9b0 : decide (a0_2 ≤ a0_0) = false := decide_eq_false c9; clear c9; obtain rfl := Option.some.inj H
        go_enter Try.func72, Try.ntmps72
        go_wp2_with (first | (go_at_call 46; (with_reducible refine dmn (impl_open.calls (h := A2.out) (w := _)) ?_); intro x1 hb1 hc; have hw := dsz (n := w.heap.size + 1) hb1; have z := dl1 hw))
        go_ret; exact ⟨er_, dfi⟩
  · replace c3 := Bool.eq_false_iff.mpr c3
    subst c3; rw [if_neg (show ¬ (false = true) by decide)] at H; (try dsimp only at H); obtain rfl := Option.some.inj H
    go_enter Try.func72, Try.ntmps72
    go_wp2_with (first | (go_at_call 46; (with_reducible refine dmn (impl_open.calls (h := A2.out) (w := _)) ?_); intro x1 hb1 hc; have hw := dsz (n := w.heap.size + 1) hb1; have z := dl1 hw))
    go_ret; exact ⟨er_, dfi⟩
/-! ### impl_SealBy: function 52 -/
def impl_SealBy.f (k : Nat) (a0_0 : Int) (a0_1 : Bool) (a0_2 : Int) (a0_3 : Int) (a0_4 : Int) (a0_5 : Int) (a1_0 : Int) (a1_1 : Bool) (a1_2 : Int) (a1_3 : Int) (a1_4 : Int) (a1_5 : Int) : Option (Int × Bool × Int × Int × Int × Int) := (impl_open.f k a0_0 a0_1 a0_2 a0_3 a0_4 a0_5).bind fun bH => (if bH = true then ((impl_seals.f k a1_0 a1_1 a1_2 a1_3 a1_4 a1_5).bind fun bu => (if bu = true then (some (a0_0, a0_1, a0_2, a0_3, a0_4, a1_0)) else ((impl_Bare.f a0_0 a0_1 a0_2 a0_3 a0_4 a0_5).bind fun bc => (some (bc.1, bc.2.1, bc.2.2.1, bc.2.2.2.1, bc.2.2.2.2.1, bc.2.2.2.2.2))))) else ((impl_Bare.f a0_0 a0_1 a0_2 a0_3 a0_4 a0_5).bind fun bi => (some (bi.1, bi.2.1, bi.2.2.1, bi.2.2.2.1, bi.2.2.2.2.1, bi.2.2.2.2.2))))
theorem impl_SealBy.mono : ∀ a0 a1 a2 a3 a4 a5 a6 a7 a8 a9 a10 a11 k, LeO (impl_SealBy.f k a0 a1 a2 a3 a4 a5 a6 a7 a8 a9 a10 a11) (impl_SealBy.f (k + 1) a0 a1 a2 a3 a4 a5 a6 a7 a8 a9 a10 a11) := by
  intro a0 a1 a2 a3 a4 a5 a6 a7 a8 a9 a10 a11 k
  unfold impl_SealBy.f
  repeat' first
      | (with_reducible exact impl_open.mono _ _ _ _ _ _ _)
      | (with_reducible exact impl_seals.mono _ _ _ _ _ _ _)
      | (with_reducible exact LeO.refl _)
      | (with_reducible exact LeO.none _)
      | (with_reducible refine LeO.ite ?_ ?_)
      | (with_reducible refine LeO.bind ?_ (fun _ => ?_))
      | exact impl_open.mono _ _ _ _ _ _ _
      | exact impl_seals.mono _ _ _ _ _ _ _
      | exact LeO.none _
      | refine LeO.ite ?_ ?_
      | refine LeO.bind ?_ (fun _ => ?_)
set_option maxHeartbeats 8000000 in
set_option maxRecDepth 100000 in
theorem impl_SealBy.calls (k : Nat) (a0_0 : Int) (a0_1 : Bool) (a0_2 : Int) (a0_3 : Int) (a0_4 : Int) (a0_5 : Int) (a1_0 : Int) (a1_1 : Bool) (a1_2 : Int) (a1_3 : Int) (a1_4 : Int) (a1_5 : Int) (r1 : Int) (r2 : Bool) (r3 : Int) (r4 : Int) (r5 : Int) (r6 : Int) (w : World) (h : impl_SealBy.f k a0_0 a0_1 a0_2 a0_3 a0_4 a0_5 a1_0 a1_1 a1_2 a1_3 a1_4 a1_5 = some (r1, r2, r3, r4, r5, r6)) :
    Calls Try.prog 52 #[.agg #[.int .i64 a0_0, .bool a0_1, .int .i64 a0_2, .int .i64 a0_3, .int .i64 a0_4, .int .i64 a0_5], .agg #[.int .i64 a1_0, .bool a1_1, .int .i64 a1_2, .int .i64 a1_3, .int .i64 a1_4, .int .i64 a1_5]] w fun e w' => e = .returned (.agg #[.int .i64 r1, .bool r2, .int .i64 r3, .int .i64 r4, .int .i64 r5, .int .i64 r6]) ∧ Below w.heap.size w w' := by
  have hu29 := Try.underlying29; have H := h; clear h; unfold impl_SealBy.f at H; (try dsimp only at H); replace H := Option.bind_eq_some_iff.mp H; obtain ⟨bH, A30, H⟩ := H; (try dsimp only at H); have A3 := Aside0.mk A30; clear A30
  by_cases c4 : bH = true
  · subst c4
    rw [if_pos rfl] at H; (try dsimp only at H); replace H := Option.bind_eq_some_iff.mp H; obtain ⟨bu, A50, H⟩ := H; (try dsimp only at H); have A5 := Aside0.mk A50; clear A50
    by_cases c6 : bu = true
    · subst c6
      rw [if_pos rfl] at H; (try dsimp only at H); simp only [Option.some.injEq, Prod.mk.injEq] at H; obtain ⟨rfl, rfl, rfl, rfl, rfl, rfl⟩ := H
      go_enter Try.func52, Try.ntmps52
      go_wp2_with (first | (go_at_call 46; (with_reducible refine dmn (impl_open.calls (h := A3.out) (w := _)) ?_); intro x1 hb1 hc; have hw := dsz (n := w.heap.size + 1 + 1 + 1) hb1; have z := dl3 hw) | (go_at_call 72; (with_reducible refine dmn (impl_seals.calls (h := A5.out) (w := _)) ?_); intro x2 hb2 hc; have hw := dsz (n := w.heap.size + 1 + 1 + 1) hb2; have z := dl3 hw))
      refine bodyPost_ret (drc rfl _ _ rfl (by go_simp; rfl)) rfl ?_; exact ⟨rfl, dfi⟩
    · replace c6 := Bool.eq_false_iff.mpr c6
      subst c6; rw [if_neg (show ¬ (false = true) by decide)] at H; (try dsimp only at H); replace H := Option.bind_eq_some_iff.mp H; obtain ⟨⟨dM, dN, dO, dP, dQ, dR⟩, A200, H⟩ := H; (try dsimp only at H); have A20 := Aside0.mk A200; clear A200; simp only [Option.some.injEq, Prod.mk.injEq] at H; obtain ⟨rfl, rfl, rfl, rfl, rfl, rfl⟩ := H
      go_enter Try.func52, Try.ntmps52
      go_wp2_with (first | (go_at_call 46; (with_reducible refine dmn (impl_open.calls (h := A3.out) (w := _)) ?_); intro x1 hb1 hc; have hw := dsz (n := w.heap.size + 1 + 1 + 1) hb1; have z := dl3 hw) | (go_at_call 72; (with_reducible refine dmn (impl_seals.calls (h := A5.out) (w := _)) ?_); intro x2 hb2 hc; have hw := dsz (n := w.heap.size + 1 + 1 + 1) hb2; have z := dl3 hw) | (go_at_call 69; (with_reducible refine dmn (impl_Bare.calls (h := A20.out) (w := _)) ?_); intro x3 hb3 hc; have hw := dsz (n := w.heap.size + 1 + 1 + 1) hb3; have z := dl3 hw))
      refine bodyPost_ret (drc rfl _ _ rfl (by go_simp; rfl)) rfl ?_; exact ⟨rfl, dfi⟩
  · replace c4 := Bool.eq_false_iff.mpr c4
    subst c4; rw [if_neg (show ¬ (false = true) by decide)] at H; (try dsimp only at H); replace H := Option.bind_eq_some_iff.mp H; obtain ⟨⟨dS, dT, dU, dV, dW, dX⟩, A340, H⟩ := H; (try dsimp only at H); have A34 := Aside0.mk A340; clear A340; simp only [Option.some.injEq, Prod.mk.injEq] at H; obtain ⟨rfl, rfl, rfl, rfl, rfl, rfl⟩ := H
    go_enter Try.func52, Try.ntmps52
    go_wp2_with (first | (go_at_call 46; (with_reducible refine dmn (impl_open.calls (h := A3.out) (w := _)) ?_); intro x1 hb1 hc; have hw := dsz (n := w.heap.size + 1 + 1 + 1) hb1; have z := dl3 hw) | (go_at_call 69; (with_reducible refine dmn (impl_Bare.calls (h := A34.out) (w := _)) ?_); intro x2 hb2 hc; have hw := dsz (n := w.heap.size + 1 + 1 + 1) hb2; have z := dl3 hw))
    refine bodyPost_ret (drc rfl _ _ rfl (by go_simp; rfl)) rfl ?_; exact ⟨rfl, dfi⟩
end Go.Proofs.Ytpcladboobfkhaa.PFnWork
