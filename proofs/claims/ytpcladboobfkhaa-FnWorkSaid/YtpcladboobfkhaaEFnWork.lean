/- Words for dense walks of functions with a cursor: what a call leaves of the other blocks, and what is handed back of the cursor. -/
import Derived.Test.YtpcladboobfkhaaPFnWorkx4
import Derived.Test.YtpcladboobfkhaaDFnWork
namespace Go.Proofs.Ytpcladboobfkhaa.PFnWork
open Go.RowKit Go.Proofs.YtpcladboobfkhaaW.PrintWords Go.Proofs.YtpcladboobfkhaaW.PrintLast Go.Proofs.YtpcladboobfkhaaW.PrintMore Go.Proofs.YtpcladboobfkhaaW.Mine
set_option linter.unusedVariables false
set_option linter.unusedSimpArgs false
theorem dmc {P : Program} {f : FuncId} {args : Array Value} {w0 W : World} {g : Nat} {I : World → Prop} {R : Value} {Q : Ending → World → Prop} (h : Calls P f args W fun e w' => e = .returned R ∧ I w' ∧ Below w0.heap.size w0 w' ∧ KeepBut W w' g none)
    (k : ∀ w', Aside0 (I w') → Aside0 (Below w0.heap.size w0 w') → Aside0 (KeepBut W w' g none) → W.heap.size ≤ w'.heap.size → ((∀ h j, h ≠ g → h < W.heap.size → w'.cell? ⟨h, j, none⟩ = W.cell? ⟨h, j, none⟩) ∧ (∀ h j, h ≠ g → h < W.heap.size → w'.frozen? ⟨h, j, none⟩ = W.frozen? ⟨h, j, none⟩) ∧ (∀ h, h ≠ g → h < W.heap.size → dhp w' h = dhp W h)) → Q (.returned R) w') : Calls P f args W Q :=
  h.mono fun e w' he => by
    obtain ⟨rfl, hi, hb, hk⟩ := he
    exact k w' ⟨hi⟩ ⟨hb⟩ ⟨hk⟩ hk.1 ⟨fun h j hg hl => by unfold World.cell?; rw [hk.2 h hl hg (by simp)], fun h j hg hl => by unfold World.frozen?; rw [hk.2 h hl hg (by simp)], fun h hg hl => hk.2 h hl hg (by simp)⟩
theorem dma {P : Program} {f : FuncId} {args args' : Array Value} {w0 W : World} {g : Nat} {I : World → Prop} {R : Value} {Q : Ending → World → Prop} (h : Calls P f args' W fun e w' => e = .returned R ∧ I w' ∧ Below w0.heap.size w0 w' ∧ KeepBut W w' g none)
    (ha : args' = args) (k : ∀ w', Aside0 (I w') → Aside0 (Below w0.heap.size w0 w') → Aside0 (KeepBut W w' g none) → W.heap.size ≤ w'.heap.size → ((∀ h j, h ≠ g → h < W.heap.size → w'.cell? ⟨h, j, none⟩ = W.cell? ⟨h, j, none⟩) ∧ (∀ h j, h ≠ g → h < W.heap.size → w'.frozen? ⟨h, j, none⟩ = W.frozen? ⟨h, j, none⟩) ∧ (∀ h, h ≠ g → h < W.heap.size → dhp w' h = dhp W h)) → Q (.returned R) w') : Calls P f args W Q :=
  (ha ▸ h).mono fun e w' he => by
    obtain ⟨rfl, hi, hb, hk⟩ := he
    exact k w' ⟨hi⟩ ⟨hb⟩ ⟨hk⟩ hk.1 ⟨fun h j hg hl => by unfold World.cell?; rw [hk.2 h hl hg (by simp)], fun h j hg hl => by unfold World.frozen?; rw [hk.2 h hl hg (by simp)], fun h hg hl => hk.2 h hl hg (by simp)⟩
theorem dzc {W w1 : World} {n : Nat} (hs : W.heap.size ≤ w1.heap.size) (h : n ≤ W.heap.size := by first | (with_reducible assumption) | (simp; done) | (simp; omega) | (go_simp; done) | (go_simp; omega)) : n ≤ w1.heap.size := Nat.le_trans h hs
theorem dKt {w W w' : World} {g : Nat} (h : KeepBut w W g none) (k : KeepBut W w' g none) : KeepBut w w' g none := KeepBut.trans h k (.inl rfl)
theorem dKb {w W w' : World} {g : Nat} (h : KeepBut w W g none) (k : Below W.heap.size W w') : KeepBut w w' g none := KeepBut.trans h (KeepBut.of_below k g none) (.inl rfl)
theorem dKa {w W : World} {g : Nat} (h : KeepBut w W g none) (o : Obj) : KeepBut w (W.alloc o) g none := dKb h (below_alloc (Below.refl _ _) o)
theorem dKd {w W : World} {g : Nat} (h : KeepBut w W g none) : KeepBut w W.drew g none := h
theorem dKn' {w W : World} {g : Nat} (h : KeepBut w W g none) (n : Nat) : KeepBut w (W.drewN n) g none := h
theorem dKs {w W : World} {g b j : Nat} {v : Value} (h : KeepBut w W g none) (hb : w.heap.size ≤ b) : KeepBut w (W.setCell ⟨b, j, none⟩ v) g none :=
  ⟨by simpa [World.setCell] using h.1, fun i hi hg hr => (Below.heap_setCell W ⟨b, j, none⟩ v i (by show i ≠ b; omega)).trans (h.2 i hi hg hr)⟩
theorem dIn {w0 W : World} {g : Nat} {f0 : List Int} {f1 f2 : Int} (h : IsS69 w0 W g f0 f1 f2 := by (repeat' (first | (with_reducible (first | exact Aside0.out (by assumption) | refine IsS69.alloc ?_ _ | refine IsS69.drewN ?_ _ | refine IsS69.drew ?_ | refine IsS69.far ?_ ?_ _ | refine IsS69.below ?_ (by assumption))))); (all_goals (first | omega | (dsimp only; omega)))) : IsS69 w0 W g f0 f1 f2 := h
theorem dBn {w0 W : World} (h : Below w0.heap.size w0 W := by (repeat' (with_reducible (first | exact Aside0.out (by assumption) | refine below_set ?_ ?_ | refine below_alloc ?_ _ | refine below_drew1 ?_ | refine pw_below_drewN ?_ _ | refine below_step ?_ (by assumption)))); (all_goals omega)) : Below w0.heap.size w0 W := h
theorem dKn {w W : World} {g : Nat} (h : KeepBut w W g none := by (repeat' (with_reducible (first | exact KeepBut.refl _ _ _ | refine dKs ?_ ?_ | refine dKa ?_ _ | refine dKd ?_ | refine dKn' ?_ _ | refine dKt ?_ (Aside0.out (by assumption)) | refine dKb ?_ (by assumption)))); (all_goals omega)) : KeepBut w W g none := h
theorem dCl {w : World} {g n : Nat} {xs : List Int} {t : TypeId} {ob : Option Obj} (hg : dhp w g = ob := by (try go_simp); rfl) (ho : ob = some (.cells (xs.map (Value.int .i64)).toArray t (0, 0)) := by rfl) (hn : n = xs.length := by rfl) (hl : xs.length ≤ 9223372036854775807 := by decide) : Kd.C (Kd.int .i64) w (some ⟨g, 0, none⟩) n xs := by
  subst ho hn
  have hg : w.heap[g]? = some (.cells (xs.map (Value.int .i64)).toArray t (0, 0)) := hg
  refine ⟨rfl, hl, fun _ => ⟨_, rfl, fun j p hj => ⟨[.int .i64 p], rfl, rfl, fun i u hi => ?_⟩⟩⟩
  cases i with
  | zero =>
    simp only [List.getElem?_cons_zero, Option.some.injEq] at hi
    subst hi
    have e : (⟨g, 0, none⟩ : Addr).add (j * (Kd.int .i64).sz + 0) = ⟨g, j, none⟩ := by
      show (⟨g, 0, none⟩ : Addr).add (j * 1 + 0) = _
      simp [Addr.add]; exact Eq.symm
    rw [e]; unfold World.cell?
    simp only [hg]
    simp [hj]
  | succ i => simp at hi
end Go.Proofs.Ytpcladboobfkhaa.PFnWork
