/- Words for safe walks of functions with slices: a slice is told by its one block. -/
import Derived.Test.YtpcladboobfkhaaPFnWorkx41
namespace Go.Proofs.Ytpcladboobfkhaa.PFnWork
open Go.RowKit Go.Proofs.YtpcladboobfkhaaW.PrintWords Go.Proofs.YtpcladboobfkhaaW.PrintLast Go.Proofs.YtpcladboobfkhaaW.PrintMore Go.Proofs.YtpcladboobfkhaaW.Mine
open Go.Proofs.Ytpcladboobfkhaa.Pure
set_option linter.unusedVariables false
set_option linter.unusedSimpArgs false
def RG {α : Type} (d : Kd α) (e : Nat) (W : World) (g cap : Nat) (xs : List α) : Prop := d.R e W 0 (fun k => k = g) (.slice (some ⟨g, 0, none⟩) xs.length cap) xs
section
variable {α : Type} {d : Kd α} {e : Nat} {W W1 : World} {g cap : Nat} {xs : List α}
theorem RG.of {base : Nat} {ok : Nat → Prop} {v : Value} (hE : d.E = []) (h : d.R e W base ok v xs) (hp : 0 < xs.length) : ∃ g cap, v = .slice (some ⟨g, 0, none⟩) xs.length cap ∧ base ≤ g ∧ ok g ∧ g < W.heap.size ∧ RG d e W g cap xs := by
  obtain ⟨g, cap, rfl, hb, hl, _⟩ := Kd.R_form h hp
  refine ⟨g, cap, rfl, hb, h.1 g (by simp [Value.ownBlock]), hl, ?_⟩
  exact Kd.R_lower (Kd.R_mono (Kd.R_tight hE h) (fun k hk => by simpa [Value.ownBlock] using hk)) (Nat.zero_le _)
theorem RG.lt (h : RG d e W g cap xs) : g < W.heap.size := Kd.R_lt h g (by simp [Value.ownBlock])
theorem RG.C (h : RG d e W g cap xs) : d.C W (some ⟨g, 0, none⟩) xs.length xs ∧ xs.length ≤ cap := ⟨(Kd.R_reads' h).2.2, (Kd.R_reads' h).2.1⟩
theorem RG.step (h : RG d e W g cap xs) (hm : W1.heap[g]? = W.heap[g]?) : RG d e W1 g cap xs := Kd.R_move h (fun k hk => by rw [hk]; exact hm)
theorem RG.below (h : RG d e W g cap xs) (hb : Below W.heap.size W W1) : RG d e W1 g cap xs := Kd.R_below h hb
theorem RG.alloc (h : RG d e W g cap xs) (o : Obj) : RG d e (W.alloc o) g cap xs := Kd.R_alloc h o
theorem RG.drew (h : RG d e W g cap xs) : RG d e W.drew g cap xs := Kd.R_drew h
theorem RG.drewN (h : RG d e W g cap xs) (m : Nat) : RG d e (W.drewN m) g cap xs := Kd.R_drewN h m
theorem RG.set {b j : Nat} {v : Value} (h : RG d e W g cap xs) (hb : g ≠ b) : RG d e (W.setCell ⟨b, j, none⟩ v) g cap xs := h.step (Below.heap_setCell W ⟨b, j, none⟩ v g hb)
theorem RG.row {b : Nat} {cells : Array Value} (h : RG d e W g cap xs) (hb : g ≠ b) (hr : Aside0 (W1 = W.setRow b cells)) : RG d e W1 g cap xs := h.step (by rw [hr.out]; exact setRow_other W b g cells hb)
theorem RG.keep {c : Nat} (h : RG d e W g cap xs) (hk : Aside0 (KeepBut W W1 c none)) (hc : g ≠ c) : RG d e W1 g cap xs := h.step (hk.out.2 g h.lt hc (by simp))
end
theorem RG.fz {α : Type} {d : Kd α} {e : Nat} {W : World} {g cap : Nat} {xs : List α} (h : RG d e W g cap xs) (j : Nat) : W.frozen? ⟨g, j, none⟩ = false := by
  obtain ⟨cells, hc⟩ := own_typed (Kd.R_own h).choose_spec g (by simp [Value.ownBlock])
  exact blk_frozen hc j
theorem RG.w6 {W : World} {g cap : Nat} {xs : List S29} (h : RG k29 29 W g cap xs) (i : Int) (h0 : 0 ≤ i) (h1 : i < (xs.length : Int)) : W.cell? ⟨g, i.toNat * 6, none⟩ = some (.int .i64 (rd_T29 xs i).f0) ∧ W.cell? ⟨g, i.toNat * 6 + 1, none⟩ = some (.bool (rd_T29 xs i).f1) ∧ W.cell? ⟨g, i.toNat * 6 + 2, none⟩ = some (.int .i64 (rd_T29 xs i).f2.f0) ∧ W.cell? ⟨g, i.toNat * 6 + 3, none⟩ = some (.int .i64 (rd_T29 xs i).f2.f1) ∧ W.cell? ⟨g, i.toNat * 6 + 4, none⟩ = some (.int .i64 (rd_T29 xs i).f2.f2) ∧ W.cell? ⟨g, i.toNat * 6 + 5, none⟩ = some (.int .i64 (rd_T29 xs i).f2.f3) ∧ ∀ j, W.frozen? ⟨g, j, none⟩ = false := by
  obtain ⟨c, hl, hM, hc, _⟩ := Kd.R_elem h z29 i h0 h1
  obtain rfl := k29_openM hM
  exact ⟨hc 0 _ rfl, hc 1 _ rfl, hc 2 _ rfl, hc 3 _ rfl, hc 4 _ rfl, hc 5 _ rfl, h.fz⟩
theorem RG.p6 {W : World} {g cap : Nat} {xs : List S29} (h : RG k29 29 W g cap xs) (i : Int) (h0 : 0 ≤ i) (h1 : i < (xs.length : Int)) (n : Int) (b : Bool) (x y z s : Int) :
    RG k29 29 ((((((W.setCell ⟨g, i.toNat * 6, none⟩ (.int .i64 n)).setCell ⟨g, i.toNat * 6 + 1, none⟩ (.bool b)).setCell ⟨g, i.toNat * 6 + 2, none⟩ (.int .i64 x)).setCell ⟨g, i.toNat * 6 + 3, none⟩ (.int .i64 y)).setCell ⟨g, i.toNat * 6 + 4, none⟩ (.int .i64 z)).setCell ⟨g, i.toNat * 6 + 5, none⟩ (.int .i64 s)) g cap (xs.set i.toNat ⟨n, b, ⟨x, y, z, s⟩⟩) := by
  obtain ⟨c, hl, hM, hc, _⟩ := Kd.R_elem h z29 i h0 h1
  have hl : c.length = 6 := hl
  have := (Kd.R_seg (okp := fun _ => False) (j := 0) (seg := [.int .i64 n, .bool b, .int .i64 x, .int .i64 y, .int .i64 z, .int .i64 s]) (x' := (⟨n, b, ⟨x, y, z, s⟩⟩ : S29)) h i h0 h1 hl hc (by show 0 + 6 ≤ 6; omega) (by rw [List.take_zero, List.nil_append, List.drop_of_length_le (by rw [hl]; simp), List.append_nil]; exact k29_mkM _ _ _ ⟨n, b, ⟨x, y, z, s⟩⟩) (fun _ h => h.elim)).1
  unfold RG; rw [List.length_set]; exact this
theorem RG.w5 {W : World} {g cap : Nat} {xs : List S25} (h : RG k25 25 W g cap xs) (i : Int) (h0 : 0 ≤ i) (h1 : i < (xs.length : Int)) : W.cell? ⟨g, i.toNat * 5, none⟩ = some (.int .i64 (rd_T25 xs i).f0) ∧ W.cell? ⟨g, i.toNat * 5 + 1, none⟩ = some (.int .i64 (rd_T25 xs i).f1) ∧ W.cell? ⟨g, i.toNat * 5 + 2, none⟩ = some (.int .i64 (rd_T25 xs i).f2) ∧ W.cell? ⟨g, i.toNat * 5 + 3, none⟩ = some (.int .i64 (rd_T25 xs i).f3) ∧ W.cell? ⟨g, i.toNat * 5 + 4, none⟩ = some (.int .i64 (rd_T25 xs i).f4) ∧ ∀ j, W.frozen? ⟨g, j, none⟩ = false := by
  obtain ⟨c, hl, hM, hc, _⟩ := Kd.R_elem h z25 i h0 h1
  obtain rfl := k25_openM hM
  exact ⟨hc 0 _ rfl, hc 1 _ rfl, hc 2 _ rfl, hc 3 _ rfl, hc 4 _ rfl, h.fz⟩
theorem RG.p5 {W : World} {g cap : Nat} {xs : List S25} (h : RG k25 25 W g cap xs) (i : Int) (h0 : 0 ≤ i) (h1 : i < (xs.length : Int)) (a b c d e : Int) :
    RG k25 25 (((((W.setCell ⟨g, i.toNat * 5, none⟩ (.int .i64 a)).setCell ⟨g, i.toNat * 5 + 1, none⟩ (.int .i64 b)).setCell ⟨g, i.toNat * 5 + 2, none⟩ (.int .i64 c)).setCell ⟨g, i.toNat * 5 + 3, none⟩ (.int .i64 d)).setCell ⟨g, i.toNat * 5 + 4, none⟩ (.int .i64 e)) g cap (xs.set i.toNat ⟨a, b, c, d, e⟩) := by
  obtain ⟨q, hl, hM, hc, _⟩ := Kd.R_elem h z25 i h0 h1
  have hl : q.length = 5 := hl
  have := (Kd.R_seg (okp := fun _ => False) (j := 0) (seg := [.int .i64 a, .int .i64 b, .int .i64 c, .int .i64 d, .int .i64 e]) (x' := (⟨a, b, c, d, e⟩ : S25)) h i h0 h1 hl hc (by show 0 + 5 ≤ 5; omega) (by rw [List.take_zero, List.nil_append, List.drop_of_length_le (by rw [hl]; simp), List.append_nil]; exact k25_mkM _ _ _ ⟨a, b, c, d, e⟩) (fun _ h => h.elim)).1
  unfold RG; rw [List.length_set]; exact this
theorem RG.b1 {W : World} {g cap : Nat} {xs : List Bool} (h : RG Kd.bool 4 W g cap xs) (i : Int) (h0 : 0 ≤ i) (h1 : i < (xs.length : Int)) : (∃ b, W.cell? ⟨g, i.toNat, none⟩ = some (.bool b)) ∧ ∀ j, W.frozen? ⟨g, j, none⟩ = false :=
  ⟨⟨_, (Kd.R_celln false h i h0 h1).1⟩, h.fz⟩
theorem RG.pb {W : World} {g cap : Nat} {xs : List Bool} (h : RG Kd.bool 4 W g cap xs) (i : Int) (b : Bool) : RG Kd.bool 4 (W.setCell ⟨g, i.toNat, none⟩ (.bool b)) g cap (xs.set i.toNat b) := by
  have := Kd.R_putn h i b
  unfold RG; rw [List.length_set]; exact this
theorem RG.p60 {W : World} {g cap : Nat} {xs : List S29} (h : RG k29 29 W g cap xs) (h1 : 0 < (xs.length : Int)) (n : Int) (b : Bool) (x y z s : Int) :
    RG k29 29 ((((((W.setCell ⟨g, 0, none⟩ (.int .i64 n)).setCell ⟨g, 1, none⟩ (.bool b)).setCell ⟨g, 2, none⟩ (.int .i64 x)).setCell ⟨g, 3, none⟩ (.int .i64 y)).setCell ⟨g, 4, none⟩ (.int .i64 z)).setCell ⟨g, 5, none⟩ (.int .i64 s)) g cap (xs.set 0 ⟨n, b, ⟨x, y, z, s⟩⟩) := h.p6 0 (by omega) h1 n b x y z s
theorem dRG {α : Type} {d : Kd α} {e : Nat} {W : World} {g cap : Nat} {xs : List α} (h : RG d e W g cap xs := by ((repeat' (with_reducible (first | assumption | exact Aside0.out (by assumption) | refine RG.alloc ?_ _ | refine RG.drew ?_ | refine RG.drewN ?_ _ | refine RG.p6 ?_ _ ?_ ?_ _ _ _ _ _ _ | refine RG.p60 ?_ ?_ _ _ _ _ _ _ | refine RG.p5 ?_ _ ?_ ?_ _ _ _ _ _ | refine RG.pb ?_ _ _ | refine RG.set ?_ ?_ | refine RG.row ?_ ?_ (by assumption) | refine RG.below ?_ (by assumption) | refine RG.keep ?_ (by assumption) ?_))); (all_goals omega))) : RG d e W g cap xs := h
/-- all old blocks but these are as they were -/
def KO (S : List Nat) (w w' : World) : Prop := w.heap.size ≤ w'.heap.size ∧ ∀ h, h < w.heap.size → h ∉ S → w'.heap[h]? = w.heap[h]?
section
variable {S : List Nat} {w w' w1 : World}
theorem KO.refl : KO S w w := ⟨Nat.le_refl _, fun _ _ _ => rfl⟩
theorem KO.below (h : KO S w w') (hb : Below w'.heap.size w' w1) : KO S w w1 := ⟨Nat.le_trans h.1 hb.size, fun k hk hn => (hb.block k (by have := h.1; omega)).trans (h.2 k hk hn)⟩
theorem KO.alloc (h : KO S w w') (o : Obj) : KO S w (w'.alloc o) := h.below (below_alloc (Below.refl _ _) o)
theorem KO.drew (h : KO S w w') : KO S w w'.drew := h
theorem KO.drewN (h : KO S w w') (n : Nat) : KO S w (w'.drewN n) := h
theorem KO.set {b j : Nat} {v : Value} (h : KO S w w') (hb : b ∈ S ∨ w.heap.size ≤ b) : KO S w (w'.setCell ⟨b, j, none⟩ v) :=
  ⟨by simpa [World.setCell] using h.1, fun k hk hn => (Below.heap_setCell w' ⟨b, j, none⟩ v k (by
    show k ≠ b
    rintro rfl
    rcases hb with hb | hb
    · exact hn hb
    · omega)).trans (h.2 k hk hn)⟩
theorem dKO (h : KO S w w' := by ((repeat' (with_reducible (first | exact KO.refl | refine KO.alloc ?_ _ | refine KO.drew ?_ | refine KO.drewN ?_ _ | refine KO.set ?_ ?_ | refine KO.below ?_ (by assumption)))); (all_goals (first | (refine Or.inr ?_; omega) | (refine Or.inr ?_; simp; done) | (refine Or.inl ?_; simp))))) : KO S w w' := h
end
theorem in32t {x lo hi : Int} {w : World} (h : lo ≤ x ∧ x ≤ hi) : Calls Try.prog 32 #[.int .i64 x, .int .i64 lo, .int .i64 hi] w fun e w' => e = .returned (.bool true) ∧ Drawn0 w w' := by
  refine (spec_l1In.calls x lo hi _ w (h := (?_ : spec_l1In.f x lo hi = some true)))
  unfold spec_l1In.f; rw [if_pos h.1, decide_eq_true h.2]
theorem in32f {x lo hi : Int} {w : World} (h : ¬ (lo ≤ x ∧ x ≤ hi)) : Calls Try.prog 32 #[.int .i64 x, .int .i64 lo, .int .i64 hi] w fun e w' => e = .returned (.bool false) ∧ Drawn0 w w' := by
  refine (spec_l1In.calls x lo hi _ w (h := (?_ : spec_l1In.f x lo hi = some false)))
  unfold spec_l1In.f
  by_cases c : x ≥ lo
  · rw [if_pos c, decide_eq_false (fun e => h ⟨c, e⟩)]
  · rw [if_neg c]
end Go.Proofs.Ytpcladboobfkhaa.PFnWork
