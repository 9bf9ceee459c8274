-- Written by a program of this session (wip/patch.py turns a copy of the kit's print): the functions that the law reaches, and their walks.
import Derived.Test.YtlmcikjjeidnfaaGreatDoorPFnTextsx0
import Derived.Test.YtlmcikjjeidnfaaGreatDoorPFnTextsx2
import Derived.Test.YtlmcikjjeidnfaaGreatDoorPFnTextsx5
import Derived.Test.YtlmcikjjeidnfaaGreatDoorCFnTexts
namespace Go.Proofs.YtlmcikjjeidnfaaGreatDoor.PFnTexts
open Go.RowKit Go.Proofs.YtlmcikjjeidnfaaGreatDoorW.PrintWords Go.Proofs.YtlmcikjjeidnfaaGreatDoorW.PrintLast Go.Proofs.YtlmcikjjeidnfaaGreatDoorW.PrintMore Go.Proofs.YtlmcikjjeidnfaaGreatDoorW.Mine
attribute [local go_sem] max2_int min2_int max_two min_two max_three min_three max_four min_four   -- for this text's walks alone
set_option linter.unusedVariables false
set_option linter.unusedSimpArgs false

/-! ### spec_l1Pick: function 58 -/
def spec_l1Pick.f (s0_0 : List Int) (s0_1 : Int) (s0_2 : Int) (l1 : List ByteArray) : Option (ByteArray × Int × Int) := (spec_l1Below.f s0_0 s0_1 s0_2 (l1.length : Int)).bind fun bk => (if 0 ≤ bk.1 then (if bk.1 < (l1.length : Int) then (some (rdOf ByteArray.empty l1 bk.1, bk.2.1, bk.2.2)) else (none)) else (none))
set_option maxHeartbeats 8000000 in
set_option maxRecDepth 100000 in
theorem spec_l1Pick.calls (g : Nat) (s0_0 : List Int) (s0_1 : Int) (s0_2 : Int) (A1 : Option Addr) (c1 : Nat) (l1 : List ByteArray) (r1 : ByteArray) (r2 : Int) (r3 : Int) (w0 w : World) (hI : IsS74 w0 w g s0_0 s0_1 s0_2) (hB : Below w0.heap.size w0 w) (hr1 : Kd.C Kd.string w A1 l1.length l1) (hc1 : l1.length ≤ c1) (hf1 : ∀ ad, A1 = some ad → 0 < l1.length → ad.block ≠ g) (h : spec_l1Pick.f s0_0 s0_1 s0_2 l1 = some (r1, r2, r3)) :
  Calls Tryz.prog 58 #[.pointer (some ⟨g, 0, none⟩), .slice A1 l1.length c1] w fun e w' => e = .returned (.string r1) ∧ IsS74 w0 w' g s0_0 r2 r3 ∧ Below w0.heap.size w0 w' ∧ KeepBut w w' g none := by
 have b7 := Aside0.mk hr1; have dn := Aside0.mk hc1; clear hr1 hc1; have HI0 := Aside0.mk hI; have HK := Aside0.mk (KeepBut.refl w g none); have HL := Aside0.mk hB.size; clear hI; have HW0 := Aside0.mk hB.size; have HB := Aside0.mk hB; clear hB; have H : ((spec_l1Below.f s0_0 s0_1 s0_2 (l1.length : Int)).bind fun bk => (if 0 ≤ bk.1 then (if bk.1 < (l1.length : Int) then (some (rdOf ByteArray.empty l1 bk.1, bk.2.1, bk.2.2)) else (none)) else (none))) = some (r1, r2, r3) := h; clear h; replace H := Option.bind_eq_some_iff.mp H; obtain ⟨⟨bl, bS, bT⟩, A30, H⟩ := H; replace H : (if 0 ≤ bl then (if bl < (l1.length : Int) then (some (rdOf ByteArray.empty l1 bl, bS, bT)) else (none)) else (none)) = some (r1, r2, r3) := H; have A3 := Aside0.mk A30; clear A30
 by_cases c4 : 0 ≤ bl
 ·rw [if_pos c4] at H
  have c4b0 : decide (0 ≤ bl) = true := decide_eq_true c4; clear c4
  by_cases c5 : bl < (l1.length : Int)
  ·rw [if_pos c5] at H
   have c5b0 : decide (bl < (l1.length : Int)) = true := decide_eq_true c5; clear c5; simp only [Option.some.injEq, Prod.mk.injEq] at H; obtain ⟨rfl, rfl, rfl⟩ := H
   go_enter Tryz.func58, Tryz.ntmps58
   go_wp2_with (first | ((with_reducible refine gate_callee (f := 57) rfl ?_); refine goesM (some 9) rfl rfl Tryz.func57 (by kernel_rfl) rfl #[.pointer (some ⟨g, 0, none⟩), .int .i64 (l1.length : Int)] rfl ?_; (with_reducible refine (spec_l1Below.calls g s0_0 s0_1 s0_2 (l1.length : Int) bl bS bT w0 _ ?side1 ?side2 A3.out).mono ?_); (case side1 => exact IsS74.n); (case side2 => exact IsS74.nb); rintro e w6 ⟨rfl, hi, hb, hk⟩; refine ⟨_, rfl, ?_⟩; replace HK := Aside0.mk (KeepBut.trans (nK HK) hk (.inl rfl)); replace HB := Aside0.mk (hb); replace HI0 := Aside0.mk (hi); (try clear hb); have p276 : 0 ≤ (bl : Int) := of_decide_eq_true (by first | (with_reducible assumption) | assumption); have q276 : bl < (l1.length : Int) := of_decide_eq_true (by first | (with_reducible assumption) | assumption); obtain ⟨b8, e276, bU⟩ := Kd.at_string b7.out bl p276 q276; cases e276; replace bU := keep_cell HK.out bU (by first | (rw [add_block]; exact hf1 _ rfl (by omega)) | exact hf1 _ rfl (by omega) | exact hf1 b8 rfl (by omega)); replace p276 := eq_true p276; replace q276 := eq_true q276))
   go_ret
   exact ⟨er_, IsS74.n, IsS74.nb, nK HK⟩
  ·rw [if_neg c5] at H
   exact absurd H (by simp)
 ·rw [if_neg c4] at H
  exact absurd H (by simp)

/-! ### spec_l7Dent: function 37 -/
def spec_l7Dent.f (s0_0 : List Int) (s0_1 : Int) (s0_2 : Int) (a1 : ByteArray) : Option (ByteArray × Int × Int) := (spec_l1Below.f s0_0 s0_1 s0_2 (wrap64 ((a1.size : Int) + 1))).bind fun bf => ((spec_l1Below.f s0_0 bf.2.1 bf.2.2 5).bind fun bd => (if bd.1 = 0 then (if 0 ≤ bf.1 then (if bf.1 ≤ (a1.size : Int) then (some (a1.extract 0 (bf.1 : Int).toNat, bd.2.1, bd.2.2)) else (none)) else (none)) else (if bd.1 = 1 then (if 0 ≤ bf.1 then (if bf.1 ≤ (a1.size : Int) then ((spec_l1Pick.f s0_0 bd.2.1 bd.2.2 (([(⟨#[32]⟩ : ByteArray), (⟨#[48]⟩ : ByteArray), (⟨#[45]⟩ : ByteArray), (⟨#[114]⟩ : ByteArray), (⟨#[57]⟩ : ByteArray), (⟨#[10]⟩ : ByteArray), (⟨#[120]⟩ : ByteArray)] : List ByteArray))).bind fun bc => (if (a1.extract 0 (bf.1 : Int).toNat).size + bc.1.size ≤ 9223372036854775807 then (if ((a1.extract 0 (bf.1 : Int).toNat) ++ bc.1).size + (a1.extract (bf.1 : Int).toNat a1.size).size ≤ 9223372036854775807 then (some (((a1.extract 0 (bf.1 : Int).toNat) ++ bc.1) ++ (a1.extract (bf.1 : Int).toNat a1.size), bc.2.1, bc.2.2)) else (none)) else (none))) else (none)) else (none)) else (some (a1, bd.2.1, bd.2.2)))))
def spec_l7Dent.T6 : Bool × List (List Nat × List Nat) := (true, [([], []), ([], []), ([0, 1], [0, 1]), ([], []), ([], []), ([3, 4], [3, 4]), ([2, 5], [2, 5]), ([], []), ([], []), ([7, 8], [7, 8]), ([6, 9], [6, 9]), ([10, 5, 0, 1, 2, 3, 4, 5, 6, 7, 8, 9, 10], [10])])
def spec_l7Dent.B6 : List Nat := [0, 0, 3, 0, 0, 24, 63, 0, 0, 384, 1023, 2047]
theorem spec_l7Dent.tab6 : rtab .any (opsOf Tryz.f37 6) = spec_l7Dent.T6 := by kernel_rfl
theorem spec_l7Dent.bits6 : waitsOk spec_l7Dent.T6.2 spec_l7Dent.B6 = true := by kernel_rfl
set_option maxHeartbeats 8000000 in
set_option maxRecDepth 100000 in
theorem spec_l7Dent.calls (g : Nat) (s0_0 : List Int) (s0_1 : Int) (s0_2 : Int) (a1 : ByteArray) (r1 : ByteArray) (r2 : Int) (r3 : Int) (w0 w : World) (hI : IsS74 w0 w g s0_0 s0_1 s0_2) (hB : Below w0.heap.size w0 w) (h : spec_l7Dent.f s0_0 s0_1 s0_2 a1 = some (r1, r2, r3)) :
  Calls Tryz.prog 37 #[.pointer (some ⟨g, 0, none⟩), .string a1] w fun e w' => e = .returned (.string r1) ∧ IsS74 w0 w' g s0_0 r2 r3 ∧ Below w0.heap.size w0 w' ∧ KeepBut w w' g none := by
 have HI0 := Aside0.mk hI; have HK := Aside0.mk (KeepBut.refl w g none); have HL := Aside0.mk hB.size; clear hI; have HW0 := Aside0.mk hB.size; have HB := Aside0.mk hB; clear hB; have H : ((spec_l1Below.f s0_0 s0_1 s0_2 (wrap64 ((a1.size : Int) + 1))).bind fun bf => ((spec_l1Below.f s0_0 bf.2.1 bf.2.2 5).bind fun bd => (if bd.1 = 0 then (if 0 ≤ bf.1 then (if bf.1 ≤ (a1.size : Int) then (some (a1.extract 0 (bf.1 : Int).toNat, bd.2.1, bd.2.2)) else (none)) else (none)) else (if bd.1 = 1 then (if 0 ≤ bf.1 then (if bf.1 ≤ (a1.size : Int) then ((spec_l1Pick.f s0_0 bd.2.1 bd.2.2 (([(⟨#[32]⟩ : ByteArray), (⟨#[48]⟩ : ByteArray), (⟨#[45]⟩ : ByteArray), (⟨#[114]⟩ : ByteArray), (⟨#[57]⟩ : ByteArray), (⟨#[10]⟩ : ByteArray), (⟨#[120]⟩ : ByteArray)] : List ByteArray))).bind fun bc => (if (a1.extract 0 (bf.1 : Int).toNat).size + bc.1.size ≤ 9223372036854775807 then (if ((a1.extract 0 (bf.1 : Int).toNat) ++ bc.1).size + (a1.extract (bf.1 : Int).toNat a1.size).size ≤ 9223372036854775807 then (some (((a1.extract 0 (bf.1 : Int).toNat) ++ bc.1) ++ (a1.extract (bf.1 : Int).toNat a1.size), bc.2.1, bc.2.2)) else (none)) else (none))) else (none)) else (none)) else (some (a1, bd.2.1, bd.2.2)))))) = some (r1, r2, r3) := h; clear h; replace H := Option.bind_eq_some_iff.mp H; obtain ⟨⟨ba, bs, bu⟩, A30, H⟩ := H; replace H : ((spec_l1Below.f s0_0 bs bu 5).bind fun bd => (if bd.1 = 0 then (if 0 ≤ ba then (if ba ≤ (a1.size : Int) then (some (a1.extract 0 (ba : Int).toNat, bd.2.1, bd.2.2)) else (none)) else (none)) else (if bd.1 = 1 then (if 0 ≤ ba then (if ba ≤ (a1.size : Int) then ((spec_l1Pick.f s0_0 bd.2.1 bd.2.2 (([(⟨#[32]⟩ : ByteArray), (⟨#[48]⟩ : ByteArray), (⟨#[45]⟩ : ByteArray), (⟨#[114]⟩ : ByteArray), (⟨#[57]⟩ : ByteArray), (⟨#[10]⟩ : ByteArray), (⟨#[120]⟩ : ByteArray)] : List ByteArray))).bind fun bc => (if (a1.extract 0 (ba : Int).toNat).size + bc.1.size ≤ 9223372036854775807 then (if ((a1.extract 0 (ba : Int).toNat) ++ bc.1).size + (a1.extract (ba : Int).toNat a1.size).size ≤ 9223372036854775807 then (some (((a1.extract 0 (ba : Int).toNat) ++ bc.1) ++ (a1.extract (ba : Int).toNat a1.size), bc.2.1, bc.2.2)) else (none)) else (none))) else (none)) else (none)) else (some (a1, bd.2.1, bd.2.2))))) = some (r1, r2, r3) := H; have A3 := Aside0.mk A30; clear A30; replace H := Option.bind_eq_some_iff.mp H; obtain ⟨⟨bi, bo, bp⟩, A40, H⟩ := H; replace H : (if bi = 0 then (if 0 ≤ ba then (if ba ≤ (a1.size : Int) then (some (a1.extract 0 (ba : Int).toNat, bo, bp)) else (none)) else (none)) else (if bi = 1 then (if 0 ≤ ba then (if ba ≤ (a1.size : Int) then ((spec_l1Pick.f s0_0 bo bp (([(⟨#[32]⟩ : ByteArray), (⟨#[48]⟩ : ByteArray), (⟨#[45]⟩ : ByteArray), (⟨#[114]⟩ : ByteArray), (⟨#[57]⟩ : ByteArray), (⟨#[10]⟩ : ByteArray), (⟨#[120]⟩ : ByteArray)] : List ByteArray))).bind fun bc => (if (a1.extract 0 (ba : Int).toNat).size + bc.1.size ≤ 9223372036854775807 then (if ((a1.extract 0 (ba : Int).toNat) ++ bc.1).size + (a1.extract (ba : Int).toNat a1.size).size ≤ 9223372036854775807 then (some (((a1.extract 0 (ba : Int).toNat) ++ bc.1) ++ (a1.extract (ba : Int).toNat a1.size), bc.2.1, bc.2.2)) else (none)) else (none))) else (none)) else (none)) else (some (a1, bo, bp)))) = some (r1, r2, r3) := H; have A4 := Aside0.mk A40; clear A40
 by_cases c5 : bi = 0
 ·rw [if_pos c5] at H
  have c5b0 : (bi == 0) = true := beq_iff_eq.mpr c5; have c5b1 : (bi != 0) = false := bne_eq_false_iff_eq.mpr c5; clear c5
  by_cases c6 : 0 ≤ ba
  ·rw [if_pos c6] at H
   have c6b0 := eq_true c6; have c6b1 : decide (0 ≤ ba) = true := decide_eq_true c6; clear c6
   by_cases c7 : ba ≤ (a1.size : Int)
   ·rw [if_pos c7] at H
    have c7b0 := eq_true c7; have c7b1 : decide (ba ≤ (a1.size : Int)) = true := decide_eq_true c7; clear c7; simp only [Option.some.injEq, Prod.mk.injEq] at H; obtain ⟨rfl, rfl, rfl⟩ := H
    go_enter Tryz.func37, Tryz.ntmps37
    go_wp2_with (first | ((with_reducible refine gate_callee (f := 57) rfl ?_); refine goesM (some 10) rfl rfl Tryz.func57 (by kernel_rfl) rfl #[.pointer (some ⟨g, 0, none⟩), .int .i64 (wrap64 ((a1.size : Int) + 1))] rfl ?_; (with_reducible refine (spec_l1Below.calls g s0_0 s0_1 s0_2 (wrap64 ((a1.size : Int) + 1)) ba bs bu w0 _ ?side1 ?side2 A3.out).mono ?_); (case side1 => exact IsS74.n); (case side2 => exact IsS74.nb); rintro e w8 ⟨rfl, hi, hb, hk⟩; refine ⟨_, rfl, ?_⟩; replace HK := Aside0.mk (KeepBut.trans (nK HK) hk (.inl rfl)); replace HB := Aside0.mk (hb); replace HI0 := Aside0.mk (hi); (try clear hb)) | ((with_reducible refine gate_callee (f := 57) rfl ?_); refine goesM (some 12) rfl rfl Tryz.func57 (by kernel_rfl) rfl #[.pointer (some ⟨g, 0, none⟩), .int .i64 5] rfl ?_; (with_reducible refine (spec_l1Below.calls g s0_0 bs bu 5 bi bo bp w0 _ ?side1 ?side2 A4.out).mono ?_); (case side1 => exact IsS74.n); (case side2 => exact IsS74.nb); rintro e w9 ⟨rfl, hi, hb, hk⟩; refine ⟨_, rfl, ?_⟩; replace HK := Aside0.mk (KeepBut.trans (nK HK) hk (.inl rfl)); replace HB := Aside0.mk (hb); replace HI0 := Aside0.mk (hi); (try clear hb)))
    go_ret
    exact ⟨er_, IsS74.n, IsS74.nb, nK HK⟩
   ·rw [if_neg c7] at H
    exact absurd H (by simp)
  ·rw [if_neg c6] at H
   exact absurd H (by simp)
 ·rw [if_neg c5] at H
  have c5b0 : (bi == 0) = false := beq_eq_false_iff_ne.mpr c5; have c5b1 : (bi != 0) = true := bne_iff_ne.mpr c5
  by_cases c10 : bi = 1
  ·rw [if_pos c10] at H
   have c10b0 : (bi == 1) = true := beq_iff_eq.mpr c10; have c10b1 : (bi != 1) = false := bne_eq_false_iff_eq.mpr c10; clear c10
   by_cases c11 : 0 ≤ ba
   ·rw [if_pos c11] at H
    have c11b0 := eq_true c11; have c11b1 : decide (0 ≤ ba) = true := decide_eq_true c11; clear c11
    by_cases c12 : ba ≤ (a1.size : Int)
    ·rw [if_pos c12] at H
     have c12b0 := eq_true c12; have c12b1 : decide (ba ≤ (a1.size : Int)) = true := decide_eq_true c12; clear c12; obtain ⟨bP, bA⟩ : ∃ y_ : List ByteArray, y_ = (([(⟨#[32]⟩ : ByteArray), (⟨#[48]⟩ : ByteArray), (⟨#[45]⟩ : ByteArray), (⟨#[114]⟩ : ByteArray), (⟨#[57]⟩ : ByteArray), (⟨#[10]⟩ : ByteArray), (⟨#[120]⟩ : ByteArray)] : List ByteArray)) := ⟨_, rfl⟩; replace H : ((spec_l1Pick.f s0_0 bo bp bP).bind fun bc => (if (a1.extract 0 (ba : Int).toNat).size + bc.1.size ≤ 9223372036854775807 then (if ((a1.extract 0 (ba : Int).toNat) ++ bc.1).size + (a1.extract (ba : Int).toNat a1.size).size ≤ 9223372036854775807 then (some (((a1.extract 0 (ba : Int).toNat) ++ bc.1) ++ (a1.extract (ba : Int).toNat a1.size), bc.2.1, bc.2.2)) else (none)) else (none))) = some (r1, r2, r3) := by first | (rw [bA]; with_reducible exact H) | (have H2_ := (Option.bind_some _ _).symm.trans H; rw [bA]; with_reducible exact H2_) | (have H2_ := (Option.bind_some _ _).symm.trans H; with_reducible exact H2_) | with_reducible exact H | (rw [bA]; exact H) | exact H
     have bV := Aside0.mk bA; clear bA; replace H := Option.bind_eq_some_iff.mp H; obtain ⟨⟨bm, bW, bX⟩, A130, H⟩ := H; replace H : (if (a1.extract 0 (ba : Int).toNat).size + bm.size ≤ 9223372036854775807 then (if ((a1.extract 0 (ba : Int).toNat) ++ bm).size + (a1.extract (ba : Int).toNat a1.size).size ≤ 9223372036854775807 then (some (((a1.extract 0 (ba : Int).toNat) ++ bm) ++ (a1.extract (ba : Int).toNat a1.size), bW, bX)) else (none)) else (none)) = some (r1, r2, r3) := H; have A13 := Aside0.mk A130; clear A130
     by_cases c14 : (a1.extract 0 (ba : Int).toNat).size + bm.size ≤ 9223372036854775807
     ·rw [if_pos c14] at H
      have c14b0 := eq_true c14; have c14b1 : decide ((a1.extract 0 (ba : Int).toNat).size + bm.size ≤ 9223372036854775807) = true := decide_eq_true c14
      try have c14b2 : (9223372036854775807 < (a1.extract 0 (ba : Int).toNat).size + bm.size) = False := eq_false (Nat.not_lt.2 c14)
      have c14b3 : (9223372036854775807 < ba.toNat + bm.size) = False := eq_false (Nat.not_lt.2 (by have h_ := c14; have e_ := of_eq_true c12b0; have e0_ := of_eq_true c11b0; simp only [ByteArray.size_extract] at h_; omega))
      have c15b0 := eq_true (of_decide_eq_true (by first | (with_reducible assumption) | assumption) : 0 ≤ ba); have c16b0 := eq_true (of_decide_eq_true (by first | (with_reducible assumption) | assumption) : ba ≤ (a1.size : Int))
      by_cases c17 : ((a1.extract 0 (ba : Int).toNat) ++ bm).size + (a1.extract (ba : Int).toNat a1.size).size ≤ 9223372036854775807
      ·rw [if_pos c17] at H
       have c17b0 := eq_true c17; have c17b1 : decide (((a1.extract 0 (ba : Int).toNat) ++ bm).size + (a1.extract (ba : Int).toNat a1.size).size ≤ 9223372036854775807) = true := decide_eq_true c17
       try have c17b2 : (9223372036854775807 < ((a1.extract 0 (ba : Int).toNat) ++ bm).size + (a1.extract (ba : Int).toNat a1.size).size) = False := eq_false (Nat.not_lt.2 c17)
       have c17b3 : (9223372036854775807 < (a1.extract 0 (ba : Int).toNat).size + bm.size + (a1.extract (ba : Int).toNat a1.size).size) = False := eq_false (Nat.not_lt.2 (by have h_ := c17; simp only [ByteArray.size_append] at h_; exact h_))
       have c17b4 : (9223372036854775807 < ba.toNat + bm.size + (a1.size - ba.toNat)) = False := eq_false (Nat.not_lt.2 (by have h_ := c17; have e_ := of_eq_true c12b0; have e0_ := of_eq_true c11b0; simp only [ByteArray.size_append, ByteArray.size_extract] at h_; omega))
       simp only [Option.some.injEq, Prod.mk.injEq] at H; obtain ⟨rfl, rfl, rfl⟩ := H
       go_enter Tryz.func37, Tryz.ntmps37
       try go_wp2_with (first | ((with_reducible refine gate_callee (f := 57) rfl ?_); refine goesM (some 10) rfl rfl Tryz.func57 (by kernel_rfl) rfl #[.pointer (some ⟨g, 0, none⟩), .int .i64 (wrap64 ((a1.size : Int) + 1))] rfl ?_; (with_reducible refine (spec_l1Below.calls g s0_0 s0_1 s0_2 (wrap64 ((a1.size : Int) + 1)) ba bs bu w0 _ ?side1 ?side2 A3.out).mono ?_); (case side1 => exact IsS74.n); (case side2 => exact IsS74.nb); rintro e dp ⟨rfl, hi, hb, hk⟩; refine ⟨_, rfl, ?_⟩; replace HK := Aside0.mk (KeepBut.trans (nK HK) hk (.inl rfl)); replace HB := Aside0.mk (hb); replace HI0 := Aside0.mk (hi); (try clear hb)) | ((with_reducible refine gate_callee (f := 57) rfl ?_); refine goesM (some 12) rfl rfl Tryz.func57 (by kernel_rfl) rfl #[.pointer (some ⟨g, 0, none⟩), .int .i64 5] rfl ?_; (with_reducible refine (spec_l1Below.calls g s0_0 bs bu 5 bi bo bp w0 _ ?side1 ?side2 A4.out).mono ?_); (case side1 => exact IsS74.n); (case side2 => exact IsS74.nb); rintro e bY ⟨rfl, hi, hb, hk⟩; refine ⟨_, rfl, ?_⟩; replace HK := Aside0.mk (KeepBut.trans (nK HK) hk (.inl rfl)); replace HB := Aside0.mk (hb); replace HI0 := Aside0.mk (hi); (try clear hb)))
       replace HI0 := Aside0.mk (IsS74.drew HI0.out); replace HK := Aside0.mk (keep_drew HK.out); replace HB := Aside0.mk (below_drew1 HB.out); refine start_ (n := 12) (S := fun w' => True) (ds := []) (ml [0, 12]) (by kernel_rfl) rfl rfl trivial (fun hHeld => ?_); refine with_tabW spec_l7Dent.tab6 spec_l7Dent.bits6 (fun HT_ HW_ => ?_); generalize bY.drew = dq at HI0 HK HB hHeld ⊢; refine rP HT_.out 0 20 (ml [1, 11]) ?_; refine rP HT_.out 1 21 (ml [2, 10]) ?_; refine rP HT_.out 2 22 (ml [3, 9]) ?_; refine rP HT_.out 3 23 (ml [4, 8]) ?_; refine rP HT_.out 7 27 (ml [4, 3, 1, 4]) ?_; refine rP HT_.out 8 28 (ml [4, 3, 2, 3]) ?_; refine rP HT_.out 9 29 (ml [4, 3, 3, 2]) ?_; refine one_ (i := 4) (N := some 24) (ml [5, 2, 3, 2]) rfl rfl (one_of HT_.out (by kernel_rfl)) (by decide) (fun K hK => ?_); refine Kd.R_lit_step Kd.string _ 9 ?hg (N := 24) ?hd (xs := ([(⟨#[32]⟩ : ByteArray), (⟨#[48]⟩ : ByteArray), (⟨#[45]⟩ : ByteArray), (⟨#[114]⟩ : ByteArray), (⟨#[57]⟩ : ByteArray), (⟨#[10]⟩ : ByteArray), (⟨#[120]⟩ : ByteArray)] : List ByteArray)) (inner := [.string (⟨#[32]⟩ : ByteArray), .string (⟨#[48]⟩ : ByteArray), .string (⟨#[45]⟩ : ByteArray), .string (⟨#[114]⟩ : ByteArray), .string (⟨#[57]⟩ : ByteArray), .string (⟨#[10]⟩ : ByteArray), .string (⟨#[120]⟩ : ByteArray)]) (ok := fun _ => True) (okp := fun _ => True) ?hr ?hp (fun _ hk => hk) trivial (Below.refl _ _) (Nat.le_refl _) (by simp) ?_; (case hd => rfl); (case hg => rfl); (case hr => first | (go_simp; done) | (go_simp; rfl)); (case hp => exact (Reps.one (show Kd.M Kd.string _ _ _ (⟨#[32]⟩ : ByteArray) [.string (⟨#[32]⟩ : ByteArray)] from rfl) (Reps.one (show Kd.M Kd.string _ _ _ (⟨#[48]⟩ : ByteArray) [.string (⟨#[48]⟩ : ByteArray)] from rfl) (Reps.one (show Kd.M Kd.string _ _ _ (⟨#[45]⟩ : ByteArray) [.string (⟨#[45]⟩ : ByteArray)] from rfl) (Reps.one (show Kd.M Kd.string _ _ _ (⟨#[114]⟩ : ByteArray) [.string (⟨#[114]⟩ : ByteArray)] from rfl) (Reps.one (show Kd.M Kd.string _ _ _ (⟨#[57]⟩ : ByteArray) [.string (⟨#[57]⟩ : ByteArray)] from rfl) (Reps.one (show Kd.M Kd.string _ _ _ (⟨#[10]⟩ : ByteArray) [.string (⟨#[10]⟩ : ByteArray)] from rfl) (Reps.one (show Kd.M Kd.string _ _ _ (⟨#[120]⟩ : ByteArray) [.string (⟨#[120]⟩ : ByteArray)] from rfl) (Reps.none _ _))))))))); intro dr dt bB hb hg_ hnew_; clear hg_ hnew_; (first | rw [← bV.out] at bB | (simp only [Int.reduceToNat] at bB; rw [← bV.out] at bB)); have bC := Aside0.mk (Kd.R_lower bB (keep_size (w := w) (g := g) (row := none) (nK HK))); have bD := Aside0.mk (IsS74.below (IsS74.n) hb); have bZ := Aside0.mk (KeepBut.trans (nK HK) (KeepBut.of_below hb g none) (.inl rfl)); have b0 := Aside0.mk (below_step (IsS74.nb) hb); clear HI0 HK HB; have bw := bC; have HI0 := bD; have HK := bZ; have HB := b0; clear bC bD bZ b0; clear hb bB; obtain ⟨b9, da, b1⟩ := Kd.R_slice bw.out; (first | subst b1 | (injection b1 with f1_ f2_ f3_; have f4_ := f1_.symm; have f5_ := f3_.symm; clear f1_ f2_ f3_; subst f4_; subst f5_)); refine hK.out _ _ trivial (fun hHeld => ?_); clear hK K; refine norm_ (a' := ?_) ?_ ?_; rotate_left
       ·show Act.put _ (some 24) _ = _
        simp only [Act.put, List.setIfInBounds_toArray, List.set_cons_zero, List.set_cons_succ, i64_w, i32_w]; rfl
       refine one_ (i := 5) (N := some 25) (ml [6, 1, 3, 2]) rfl rfl (one_of HT_.out (by kernel_rfl)) (by decide) (fun K hK => ?_); refine goesR Tryz.func58 (by kernel_rfl) rfl #[.pointer (some ⟨g, 0, none⟩), .slice b9 bP.length da] (by rfl) rfl rfl ?_; (with_reducible refine (spec_l1Pick.calls g s0_0 bo bp _ _ bP bm bW bX w0 _ ?side1 ?side2 ?side3 ?side4 ?side5 A13.out).mono ?_); (case side1 => exact IsS74.n); (case side2 => exact IsS74.nb); (case side3 => repeat (first | exact (Kd.R_reads' bw.out).2.2 | (with_reducible refine Kd.C_alloc ?_ _) | (with_reducible refine Kd.C_drewN ?_ _) | (with_reducible refine Kd.C_drew ?_))); (case side4 => exact (Kd.R_reads' bw.out).2.1); (case side5 => exact far_slice (IsS74.own_ne HI0.out bw.out (by decide))); rintro e du ⟨rfl, hi, hb, hk⟩; refine ⟨_, rfl, ?_⟩; replace bw := Aside0.mk (Kd.R_mono (Kd.R_keep (IsS74.apart (show IsS74 w0 _ g s0_0 bo bp from IsS74.n) (nRo bw) (by decide)) hk (fun _ h => h.2)) (fun _ h => h.1)); replace HK := Aside0.mk (KeepBut.trans (nK HK) hk (.inl rfl)); replace HB := Aside0.mk (hb); replace HI0 := Aside0.mk (hi); (try clear hb); refine hK.out _ _ trivial (fun hHeld => ?_); clear hK K; refine norm_ (a' := ?_) ?_ ?_; rotate_left
       ·show Act.put _ (some 25) _ = _
        simp only [Act.put, List.setIfInBounds_toArray, List.set_cons_zero, List.set_cons_succ, i64_w, i32_w]; rfl
       refine rP HT_.out 6 26 (ml [10, 2]) ?_; refine rP HT_.out 10 30 (ml [11, 1]) ?_; refine rP HT_.out 11 4 (ml [12]) ?_; refine done_ (done_of HT_.out (by kernel_rfl)) ?_
       try go_wp2
       go_ret
       exact ⟨er_, IsS74.n, IsS74.nb, nK HK⟩
      ·rw [if_neg c17] at H
       exact absurd H (by simp)
     ·rw [if_neg c14] at H
      exact absurd H (by simp)
    ·rw [if_neg c12] at H
     exact absurd H (by simp)
   ·rw [if_neg c11] at H
    exact absurd H (by simp)
  ·rw [if_neg c10] at H
   have c10b0 : (bi == 1) = false := beq_eq_false_iff_ne.mpr c10; have c10b1 : (bi != 1) = true := bne_iff_ne.mpr c10; simp only [Option.some.injEq, Prod.mk.injEq] at H; obtain ⟨rfl, rfl, rfl⟩ := H
   go_enter Tryz.func37, Tryz.ntmps37
   go_wp2_with (first | ((with_reducible refine gate_callee (f := 57) rfl ?_); refine goesM (some 10) rfl rfl Tryz.func57 (by kernel_rfl) rfl #[.pointer (some ⟨g, 0, none⟩), .int .i64 (wrap64 ((a1.size : Int) + 1))] rfl ?_; (with_reducible refine (spec_l1Below.calls g s0_0 s0_1 s0_2 (wrap64 ((a1.size : Int) + 1)) ba bs bu w0 _ ?side1 ?side2 A3.out).mono ?_); (case side1 => exact IsS74.n); (case side2 => exact IsS74.nb); rintro e dv ⟨rfl, hi, hb, hk⟩; refine ⟨_, rfl, ?_⟩; replace HK := Aside0.mk (KeepBut.trans (nK HK) hk (.inl rfl)); replace HB := Aside0.mk (hb); replace HI0 := Aside0.mk (hi); (try clear hb)) | ((with_reducible refine gate_callee (f := 57) rfl ?_); refine goesM (some 12) rfl rfl Tryz.func57 (by kernel_rfl) rfl #[.pointer (some ⟨g, 0, none⟩), .int .i64 5] rfl ?_; (with_reducible refine (spec_l1Below.calls g s0_0 bs bu 5 bi bo bp w0 _ ?side1 ?side2 A4.out).mono ?_); (case side1 => exact IsS74.n); (case side2 => exact IsS74.nb); rintro e dw ⟨rfl, hi, hb, hk⟩; refine ⟨_, rfl, ?_⟩; replace HK := Aside0.mk (KeepBut.trans (nK HK) hk (.inl rfl)); replace HB := Aside0.mk (hb); replace HI0 := Aside0.mk (hi); (try clear hb)))
   go_ret
   exact ⟨er_, IsS74.n, IsS74.nb, nK HK⟩

/-! ### spec_DrawInsRead: function 10 -/
def spec_DrawInsRead.f (k : Nat) (l0 : List Int) : Option (ByteArray) := (spec_l1New.f k l0).bind fun bq => ((spec_l6DrawIns.f k bq.1 bq.2.1 bq.2.2).bind fun bg => ((spec_InsText.f k bg.1 bg.2.1 bg.2.2.1 bg.2.2.2.1 bg.2.2.2.2.1).bind fun bj => ((spec_l7Dent.f bq.1 bg.2.2.2.2.2.1 bg.2.2.2.2.2.2 bj).bind fun br => (some br.1))))
theorem spec_DrawInsRead.mono : ∀ a0 k, LeO (spec_DrawInsRead.f k a0) (spec_DrawInsRead.f (k + 1) a0) := by
 intro a0 k
 unfold spec_DrawInsRead.f
 repeat' first
   | (with_reducible exact spec_InsText.mono _ _ _ _ _ _)
   | (with_reducible exact spec_l1New.mono _ _)
   | (with_reducible exact spec_l6DrawIns.mono _ _ _ _)
   | (with_reducible exact LeO.refl _)
   | (with_reducible exact LeO.none _)
   | (with_reducible refine LeO.ite ?_ ?_)
   | (with_reducible refine LeO.bind ?_ (fun _ => ?_))
   | exact spec_InsText.mono _ _ _ _ _ _
   | exact spec_l1New.mono _ _
   | exact spec_l6DrawIns.mono _ _ _ _
   | exact LeO.none _
   | refine LeO.ite ?_ ?_
   | refine LeO.bind ?_ (fun _ => ?_)
set_option maxHeartbeats 8000000 in
set_option maxRecDepth 100000 in
theorem spec_DrawInsRead.calls (k : Nat) (A0 : Option Addr) (c0 : Nat) (l0 : List Int) (r : ByteArray) (w : World) (hr0 : Kd.C (Kd.int .u8) w A0 l0.length l0) (hc0 : l0.length ≤ c0) (h : spec_DrawInsRead.f k l0 = some r) :
  Calls Tryz.prog 10 #[.slice A0 l0.length c0] w fun e w' => e = .returned (.string r) ∧ Below w.heap.size w w' := by
 have db := Aside0.mk hr0; have dc := Aside0.mk hc0; clear hr0 hc0; have HB := Aside0.mk (Below.refl w.heap.size w); have H : ((spec_l1New.f k l0).bind fun bq => ((spec_l6DrawIns.f k bq.1 bq.2.1 bq.2.2).bind fun bg => ((spec_InsText.f k bg.1 bg.2.1 bg.2.2.1 bg.2.2.2.1 bg.2.2.2.2.1).bind fun bj => ((spec_l7Dent.f bq.1 bg.2.2.2.2.2.1 bg.2.2.2.2.2.2 bj).bind fun br => (some br.1))))) = some r := h; clear h; replace H := Option.bind_eq_some_iff.mp H; obtain ⟨⟨bv, bQ, bR⟩, A20, H⟩ := H; replace H : ((spec_l6DrawIns.f k bv bQ bR).bind fun bg => ((spec_InsText.f k bg.1 bg.2.1 bg.2.2.1 bg.2.2.2.1 bg.2.2.2.2.1).bind fun bj => ((spec_l7Dent.f bv bg.2.2.2.2.2.1 bg.2.2.2.2.2.2 bj).bind fun br => (some br.1)))) = some r := H; have A2 := Aside0.mk A20; clear A20; replace H := Option.bind_eq_some_iff.mp H; obtain ⟨⟨bI, bJ, bK, bL, bM, bN, bO⟩, A30, H⟩ := H; replace H : ((spec_InsText.f k bI bJ bK bL bM).bind fun bj => ((spec_l7Dent.f bv bN bO bj).bind fun br => (some br.1))) = some r := H; have A3 := Aside0.mk A30; clear A30; replace H := Option.bind_eq_some_iff.mp H; obtain ⟨bj, A40, H⟩ := H; replace H : ((spec_l7Dent.f bv bN bO bj).bind fun br => (some br.1)) = some r := H; have A4 := Aside0.mk A40; clear A40; replace H := Option.bind_eq_some_iff.mp H; obtain ⟨⟨b2, dd, de⟩, A50, H⟩ := H; replace H : (some b2) = some r := H; have A5 := Aside0.mk A50; clear A50; obtain rfl := Option.some.inj H
 go_enter Tryz.func10, Tryz.ntmps10
 go_wp2_with (first | ((with_reducible refine gate_callee (f := 36) rfl ?_); refine goesM (some 5) rfl rfl Tryz.func36 (by kernel_rfl) rfl #[.slice A0 l0.length c0] rfl ?_; (with_reducible refine (spec_l1New.calls k _ _ l0 bv bQ bR w _ ?side1 ?side2 ?side3 A2.out).mono ?_); (case side1 => exact nbe HB); (case side2 => exact db.out); (case side3 => exact dc.out); rintro e w6 ⟨g292, rfl, hi, hb, hb2⟩; refine ⟨_, rfl, ?_⟩; have HI292 := Aside0.mk (hi); replace HB := Aside0.mk (hb); (try clear hb)) | ((with_reducible refine gate_callee (f := 38) rfl ?_); refine goesM (some 8) rfl rfl Tryz.func38 (by kernel_rfl) rfl #[.pointer (some ⟨g292, 0, none⟩)] rfl ?_; (with_reducible refine (spec_l6DrawIns.calls k g292 bv bQ bR bI bJ bK bL bM bN bO w _ ?side1 ?side2 A3.out).mono ?_); (case side1 => exact IsS74.n); (case side2 => exact IsS74.nb); rintro e w7 ⟨rfl, hi, hb, hk⟩; refine ⟨_, rfl, ?_⟩; replace HB := Aside0.mk (hb); replace HI292 := Aside0.mk (hi); (try clear hb)) | ((with_reducible refine gate_callee (f := 7) rfl ?_); refine goesM (some 9) rfl rfl Tryz.func7 (by kernel_rfl) rfl #[.agg #[.int .i64 bI, .int .i64 bJ, .int .i64 bK, .int .i64 bL, .int .i64 bM]] rfl ?_; (with_reducible refine (spec_InsText.calls k bI bJ bK bL bM bj _ A4.out).mono ?_); rintro e w8 ⟨rfl, hb⟩; refine ⟨_, rfl, ?_⟩; have bC := Aside0.mk (IsS74.below (IsS74.n) hb); have bD := Aside0.mk (below_step (IsS74.nb) hb); clear HI292 HB; have HI292 := bC; have HB := bD; clear bC bD; (try clear hb)) | ((with_reducible refine gate_callee (f := 37) rfl ?_); refine goesM (some 10) rfl rfl Tryz.func37 (by kernel_rfl) rfl #[.pointer (some ⟨g292, 0, none⟩), .string bj] rfl ?_; (with_reducible refine (spec_l7Dent.calls g292 bv bN bO bj b2 dd de w _ ?side1 ?side2 A5.out).mono ?_); (case side1 => exact IsS74.n); (case side2 => exact IsS74.nb); rintro e w9 ⟨rfl, hi, hb, hk⟩; refine ⟨_, rfl, ?_⟩; replace HB := Aside0.mk (hb); replace HI292 := Aside0.mk (hi); (try clear hb)))
 go_ret
 exact ⟨er_, IsS74.nb⟩

/-! ### spec_l7Words: function 39 -/
def spec_l7Words.l0 : Nat → ByteArray → List ByteArray → Int → Int → Option (List ByteArray)
 | 0, _, _, _, _ => none
 | k + 1, x0, x3, x4, x5 => if x5 ≤ (x0.size : Int) then (if x5 = (x0.size : Int) then (if 0 ≤ x4 then (if x4 ≤ x5 then (if x3.length < 8796093022208 then (spec_l7Words.l0 k x0 (x3 ++ [x0.extract (x4 : Int).toNat (x5 : Int).toNat]) (wrap64 (x5 + 1)) (wrap64 (x5 + 1))) else (none)) else (none)) else (none)) else (if 0 ≤ x5 then (if x5 < (x0.size : Int) then (if (bt x0 x5) = 32 then (if 0 ≤ x4 then (if x4 ≤ x5 then (if x3.length < 8796093022208 then (spec_l7Words.l0 k x0 (x3 ++ [x0.extract (x4 : Int).toNat (x5 : Int).toNat]) (wrap64 (x5 + 1)) (wrap64 (x5 + 1))) else (none)) else (none)) else (none)) else (spec_l7Words.l0 k x0 x3 x4 (wrap64 (x5 + 1)))) else (none)) else (none))) else (some x3)
def spec_l7Words.f (k : Nat) (a0 : ByteArray) : Option (List ByteArray) := spec_l7Words.l0 k a0 (([] : List ByteArray)) 0 0
theorem spec_l7Words.mono_l : ∀ k, (∀ y0 y1 y2 y3, LeO (spec_l7Words.l0 k y0 y1 y2 y3) (spec_l7Words.l0 (k + 1) y0 y1 y2 y3))
 | 0 => fun _ _ _ _ r h => by simp [spec_l7Words.l0] at h
 | k + 1 => by
  have ih0 := spec_l7Words.mono_l k
  ·intro y0 y1 y2 y3
   unfold spec_l7Words.l0
   repeat' first
   | (with_reducible exact ih0 _ _ _ _)
   | (with_reducible exact LeO.refl _)
   | (with_reducible exact LeO.none _)
   | (with_reducible refine LeO.ite ?_ ?_)
   | (with_reducible refine LeO.bind ?_ (fun _ => ?_))
   | exact ih0 _ _ _ _
   | exact LeO.none _
   | refine LeO.ite ?_ ?_
   | refine LeO.bind ?_ (fun _ => ?_)
theorem spec_l7Words.mono : ∀ a0 k, LeO (spec_l7Words.f k a0) (spec_l7Words.f (k + 1) a0) := by
 intro a0 k; have ih0 := spec_l7Words.mono_l k
 unfold spec_l7Words.f
 repeat' first
   | (with_reducible exact ih0 _ _ _ _)
   | (with_reducible exact LeO.refl _)
   | (with_reducible exact LeO.none _)
   | (with_reducible refine LeO.ite ?_ ?_)
   | (with_reducible refine LeO.bind ?_ (fun _ => ?_))
   | exact ih0 _ _ _ _
   | exact LeO.none _
   | refine LeO.ite ?_ ?_
   | refine LeO.bind ?_ (fun _ => ?_)
set_option maxHeartbeats 8000000 in
set_option maxRecDepth 100000 in
theorem spec_l7Words.calls (k : Nat) (a0 : ByteArray) (r : List ByteArray) (w : World) (h : spec_l7Words.f k a0 = some r) :
  Calls Tryz.prog 39 #[.string a0] w fun e w' => ∃ v0_ : Value, e = .returned (v0_) ∧ Kd.R Kd.string 9 w' w.heap.size (fun _ => True) v0_ r ∧ Below w.heap.size w w' := by
 have HB := Aside0.mk (Below.refl w.heap.size w); have H : (spec_l7Words.l0 k a0 (([] : List ByteArray)) 0 0) = some r := h; clear h; obtain ⟨b3, bE⟩ : ∃ y_ : List ByteArray, y_ = (([] : List ByteArray)) := ⟨_, rfl⟩; replace H : (spec_l7Words.l0 k a0 b3 0 0) = some r := by first | (rw [bE]; with_reducible exact H) | (have H2_ := (Option.bind_some _ _).symm.trans H; rw [bE]; with_reducible exact H2_) | (have H2_ := (Option.bind_some _ _).symm.trans H; with_reducible exact H2_) | with_reducible exact H | (rw [bE]; exact H) | exact H
 have b4 := Aside0.mk bE; clear bE; have H' := Aside0.mk H; clear H
 go_enter Tryz.func39, Tryz.ntmps39
 go_wp2_with (first | ((with_reducible refine gate_dst (N := 6) rfl ?_); refine Kd.R_lit Kd.string _ 9 ?hg (N := 6) ?hd (xs := ([] : List ByteArray)) (inner := []) (ok := fun _ => True) (okp := fun _ => True) ?hr ?hp (fun _ hk => hk) trivial (Below.refl _ _) (Nat.le_refl _) (by simp) ?_; (case hd => rfl); (case hg => rfl); (case hr => first | (go_simp; done) | (go_simp; rfl)); (case hp => exact (Reps.none _ _)); intro dx w2 bF hb hg_ hnew_; clear hg_ hnew_; (first | rw [← b4.out] at bF | (simp only [Int.reduceToNat] at bF; rw [← b4.out] at bF)); have df := Aside0.mk (Kd.R_lower bF (bsz HB)); replace HB := nbs HB hb; clear hb bF))
 go_loopg [3, 4, 5] k (fun kq v3 v4 v5 w' => ∃ (bn : List ByteArray) (bh : Int) (bb : Int), v4 = .int .i64 bh ∧ v5 = .int .i64 bb ∧ Aside0 (spec_l7Words.l0 kq a0 bn bh bb = some r) ∧ Aside0 (kq ≤ k) ∧ Aside0 (Kd.R Kd.string 9 w' w.heap.size (fun _ => True) v3 bn) ∧ Aside0 (Below w.heap.size w w'))
 case atStart => exact ⟨(b3), (0), (0), (by first | rfl | (simp; done) | (simp [*]; done)), (by first | rfl | (simp; done) | (simp [*]; done)), H', ⟨Nat.le_refl _⟩, ⟨by (with_reducible repeat (first | apply Kd.R_alloc | apply Kd.R_drewN | apply Kd.R_drew)); exact df.out⟩, ⟨nbe HB⟩⟩
 case round =>
  clear H'; try clear p2
  try clear c3
  obtain ⟨bn, bh, bb, rfl, rfl, HA, bx, bz, HB⟩ := hrel
  cases gk with
  | zero => exact absurd HA.out (by simp [spec_l7Words.l0])
  | succ k1 =>
   have H := HA.out; clear HA; simp only [spec_l7Words.l0] at H
   by_cases c4 : bb ≤ (a0.size : Int)
   ·rw [if_pos c4] at H
    have c4b0 : decide (bb ≤ (a0.size : Int)) = true := decide_eq_true c4; clear c4
    by_cases c5 : bb = (a0.size : Int)
    ·rw [if_pos c5] at H
     have c5b0 : (bb == (a0.size : Int)) = true := beq_iff_eq.mpr c5; have c5b1 : (bb != (a0.size : Int)) = false := bne_eq_false_iff_eq.mpr c5; clear c5
     by_cases c6 : 0 ≤ bh
     ·rw [if_pos c6] at H
      have c6b0 := eq_true c6; have c6b1 : decide (0 ≤ bh) = true := decide_eq_true c6; clear c6
      by_cases c7 : bh ≤ bb
      ·rw [if_pos c7] at H
       have c7b0 := eq_true c7; have c7b1 : decide (bh ≤ bb) = true := decide_eq_true c7; clear c7; have c8b0 := eq_true (of_decide_eq_true (by first | (with_reducible assumption) | assumption) : bb ≤ (a0.size : Int))
       by_cases c9 : bn.length < 8796093022208
       ·rw [if_pos c9] at H
        have dg := Aside0.mk c9; clear c9; obtain ⟨b5, bG⟩ : ∃ y_ : List ByteArray, y_ = (bn ++ [a0.extract (bh : Int).toNat (bb : Int).toNat]) := ⟨_, rfl⟩; replace H : (spec_l7Words.l0 k1 a0 b5 (wrap64 (bb + 1)) (wrap64 (bb + 1))) = some r := by first | (rw [bG]; with_reducible exact H) | (have H2_ := (Option.bind_some _ _).symm.trans H; rw [bG]; with_reducible exact H2_) | (have H2_ := (Option.bind_some _ _).symm.trans H; with_reducible exact H2_) | with_reducible exact H | (rw [bG]; exact H) | exact H
        have dh := Aside0.mk bG; clear bG; have H' := Aside0.mk H; clear H
        go_wp2_with (first | ((with_reducible refine gate_builtin (b := .append) (xs := #[.tmp 23, .tmp 28]) rfl ?_); at_builtin; refine Kd.R_append Kd.string (w0 := w) w.heap.size rfl (.tmp 23) (.tmp 28) 39 9 (.string ⟨#[]⟩) 16 rfl Tryz.underlying39 info9 rfl (by decide) (by omega) u3 bn (a0.extract (bh : Int).toNat (bb : Int).toNat) [.string (a0.extract (bh : Int).toNat (bb : Int).toNat)] (fun _ => True) (fun _ => False) rfl rfl ?aP (fun _ hk => hk.elim) ?aF ?aO ?aB ?aS ?aL ?_; (case aP => exact rfl); (case aB => exact (nbe HB)); (case aF => exact (fun _ _ => trivial)); (case aO => exact (nRo bz)); (case aS => exact (bsz HB)); (case aL => have := dg.out; omega); intro dy dz ho hb hg hat; rw [← dh.out] at ho; have di := Aside0.mk (ho); replace HB := Aside0.mk (hb); clear bz; clear ho hb hg hat))
        go_roundg k1
        case measure => have := bx.out; omega
        case rel => exact ⟨(b5), (wrap64 (bb + 1)), (wrap64 (bb + 1)), (by first | rfl | (simp; done) | (simp [*]; done)), (by first | rfl | (simp; done) | (simp [*]; done)), H', ⟨by have := bx.out; omega⟩, ⟨by (with_reducible repeat (first | apply Kd.R_alloc | apply Kd.R_drewN | apply Kd.R_drew)); exact di.out⟩, ⟨nbe HB⟩⟩
       ·rw [if_neg c9] at H
        exact absurd H (by simp)
      ·rw [if_neg c7] at H
       exact absurd H (by simp)
     ·rw [if_neg c6] at H
      exact absurd H (by simp)
    ·rw [if_neg c5] at H
     have c5b0 : (bb == (a0.size : Int)) = false := beq_eq_false_iff_ne.mpr c5; have c5b1 : (bb != (a0.size : Int)) = true := bne_iff_ne.mpr c5
     by_cases c11 : 0 ≤ bb
     ·rw [if_pos c11] at H
      have c11b0 : decide (0 ≤ bb) = true := decide_eq_true c11; clear c11
      by_cases c12 : bb < (a0.size : Int)
      ·rw [if_pos c12] at H
       have c12b0 : decide (bb < (a0.size : Int)) = true := decide_eq_true c12; clear c12
       by_cases c14 : (bt a0 bb) = 32
       ·rw [if_pos c14] at H
        have c14b0 : ((bt a0 bb) == 32) = true := beq_iff_eq.mpr c14; have c14b1 : ((bt a0 bb) != 32) = false := bne_eq_false_iff_eq.mpr c14; clear c14
        by_cases c15 : 0 ≤ bh
        ·rw [if_pos c15] at H
         have c15b0 := eq_true c15; have c15b1 : decide (0 ≤ bh) = true := decide_eq_true c15; clear c15
         by_cases c16 : bh ≤ bb
         ·rw [if_pos c16] at H
          have c16b0 := eq_true c16; have c16b1 : decide (bh ≤ bb) = true := decide_eq_true c16; clear c16; have c17b0 := eq_true (of_decide_eq_true (by first | (with_reducible assumption) | assumption) : bb ≤ (a0.size : Int))
          by_cases c18 : bn.length < 8796093022208
          ·rw [if_pos c18] at H
           have dj := Aside0.mk c18; clear c18; obtain ⟨b6, bH⟩ : ∃ y_ : List ByteArray, y_ = (bn ++ [a0.extract (bh : Int).toNat (bb : Int).toNat]) := ⟨_, rfl⟩; replace H : (spec_l7Words.l0 k1 a0 b6 (wrap64 (bb + 1)) (wrap64 (bb + 1))) = some r := by first | (rw [bH]; with_reducible exact H) | (have H2_ := (Option.bind_some _ _).symm.trans H; rw [bH]; with_reducible exact H2_) | (have H2_ := (Option.bind_some _ _).symm.trans H; with_reducible exact H2_) | with_reducible exact H | (rw [bH]; exact H) | exact H
           have dk := Aside0.mk bH; clear bH; have H' := Aside0.mk H; clear H; have p13 : 0 ≤ (bb : Int) := of_decide_eq_true (by first | (with_reducible assumption) | assumption); have q13 : bb < (a0.size : Int) := of_decide_eq_true (by first | (with_reducible assumption) | assumption); have dl := bt_at a0 bb; replace p13 := eq_true p13; replace q13 := eq_true q13
           go_wp2_with (first | ((with_reducible refine gate_builtin (b := .append) (xs := #[.tmp 23, .tmp 28]) rfl ?_); at_builtin; refine Kd.R_append Kd.string (w0 := w) w.heap.size rfl (.tmp 23) (.tmp 28) 39 9 (.string ⟨#[]⟩) 16 rfl Tryz.underlying39 info9 rfl (by decide) (by omega) u3 bn (a0.extract (bh : Int).toNat (bb : Int).toNat) [.string (a0.extract (bh : Int).toNat (bb : Int).toNat)] (fun _ => True) (fun _ => False) rfl rfl ?aP (fun _ hk => hk.elim) ?aF ?aO ?aB ?aS ?aL ?_; (case aP => exact rfl); (case aB => exact (nbe HB)); (case aF => exact (fun _ _ => trivial)); (case aO => exact (nRo bz)); (case aS => exact (bsz HB)); (case aL => have := dj.out; omega); intro dA bY ho hb hg hat; rw [← dk.out] at ho; have dm := Aside0.mk (ho); replace HB := Aside0.mk (hb); clear bz; clear ho hb hg hat))
           go_roundg k1
           case measure => have := bx.out; omega
           case rel => exact ⟨(b6), (wrap64 (bb + 1)), (wrap64 (bb + 1)), (by first | rfl | (simp; done) | (simp [*]; done)), (by first | rfl | (simp; done) | (simp [*]; done)), H', ⟨by have := bx.out; omega⟩, ⟨by (with_reducible repeat (first | apply Kd.R_alloc | apply Kd.R_drewN | apply Kd.R_drew)); exact dm.out⟩, ⟨nbe HB⟩⟩
          ·rw [if_neg c18] at H
           exact absurd H (by simp)
         ·rw [if_neg c16] at H
          exact absurd H (by simp)
        ·rw [if_neg c15] at H
         exact absurd H (by simp)
       ·rw [if_neg c14] at H
        have c14b0 : ((bt a0 bb) == 32) = false := beq_eq_false_iff_ne.mpr c14; have c14b1 : ((bt a0 bb) != 32) = true := bne_iff_ne.mpr c14; have H' := Aside0.mk H; clear H; have p13 : 0 ≤ (bb : Int) := of_decide_eq_true (by first | (with_reducible assumption) | assumption); have q13 : bb < (a0.size : Int) := of_decide_eq_true (by first | (with_reducible assumption) | assumption); have dl := bt_at a0 bb; replace p13 := eq_true p13; replace q13 := eq_true q13; go_wp2
        go_roundg k1
        case measure => have := bx.out; omega
        case rel => exact ⟨(bn), (bh), (wrap64 (bb + 1)), (by first | rfl | (simp; done) | (simp [*]; done)), (by first | rfl | (simp; done) | (simp [*]; done)), H', ⟨by have := bx.out; omega⟩, ⟨by (with_reducible repeat (first | apply Kd.R_alloc | apply Kd.R_drewN | apply Kd.R_drew)); exact bz.out⟩, ⟨nbe HB⟩⟩
      ·rw [if_neg c12] at H
       exact absurd H (by simp)
     ·rw [if_neg c11] at H
      exact absurd H (by simp)
   ·rw [if_neg c4] at H
    have c4b0 : decide (bb ≤ (a0.size : Int)) = false := decide_eq_false c4; clear c4; obtain rfl := Option.some.inj H; go_wp2
    go_ret
    exact ⟨_, er_, by (with_reducible repeat (first | apply Kd.R_alloc | apply Kd.R_drewN | apply Kd.R_drew)); exact bz.out, nbe HB⟩

end Go.Proofs.YtlmcikjjeidnfaaGreatDoor.PFnTexts
