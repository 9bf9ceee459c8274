/- Words for walks whose worlds stay nested: one reading fact for each call, sizes of the blocks made so far, a cell behind a store, the row that a call hands back. -/
import Derived.Test.YtpcladboobfkhaaCFnWork
namespace Go.Proofs.Ytpcladboobfkhaa.PFnWork
open Go.RowKit Go.Proofs.YtpcladboobfkhaaW.PrintWords Go.Proofs.YtpcladboobfkhaaW.PrintLast Go.Proofs.YtpcladboobfkhaaW.PrintMore Go.Proofs.YtpcladboobfkhaaW.Mine
set_option linter.unusedVariables false
set_option linter.unusedSimpArgs false
def dhp (w : World) (g : Nat) : Option Obj := w.heap[g]?
theorem dsc (w : World) (g i h j : Nat) (v : Value) : (w.setCell ⟨g, i, none⟩ v).cell? ⟨h, j, none⟩ = if g = h ∧ i = j then (w.cell? ⟨h, j, none⟩).map (fun _ => v) else w.cell? ⟨h, j, none⟩ := by
  by_cases e : g = h ∧ i = j
  · obtain ⟨rfl, rfl⟩ := e
    rw [if_pos ⟨rfl, rfl⟩]
    cases hq : w.cell? ⟨g, i, none⟩ with
    | some u => exact World.cell?_setCell_same _ _ _ hq
    | none =>
      simp only [World.setCell, World.cell?, Array.getElem?_modify] at hq ⊢
      cases hh : w.heap[g]? with
      | none => simp
      | some o => cases o <;> simp_all
  · rw [if_neg e]
    apply World.cell?_setCell_other; intro h; exact e (by cases h; exact ⟨rfl, rfl⟩)
theorem dmn {P : Program} {f : FuncId} {args : Array Value} {W : World} {R : Value} {Q : Ending → World → Prop} (h : Calls P f args W fun e w' => e = .returned R ∧ Below W.heap.size W w')
    (k : ∀ w', Below W.heap.size W w' → ((∀ g j, g < W.heap.size → w'.cell? ⟨g, j, none⟩ = W.cell? ⟨g, j, none⟩) ∧ (∀ g j, g < W.heap.size → w'.frozen? ⟨g, j, none⟩ = W.frozen? ⟨g, j, none⟩) ∧ (∀ g : Nat, g < W.heap.size → dhp w' g = dhp W g)) → Q (.returned R) w') : Calls P f args W Q :=
  h.mono fun e w' he => by
    obtain ⟨rfl, hb⟩ := he
    exact k w' hb ⟨fun g j h => hb.cell h, fun g j h => by unfold World.frozen?; rw [hb.block g h], fun g h => hb.block g h⟩
theorem dhs (w : World) (g i : Nat) (h : Nat) (v : Value) : dhp (w.setCell ⟨g, i, none⟩ v) h = if g = h then (dhp w h).map (fun o => match o with | .cells c t f => .cells (c.setIfInBounds i v) t f | o => o) else dhp w h := by
  unfold dhp World.setCell
  simp only [Array.getElem?_modify]
  by_cases e : g = h
  · subst e; simp only [if_true]; cases hh : w.heap[g]? with
    | none => rfl
    | some o => cases o <;> simp
  · simp [e]
theorem dha (w : World) (o : Obj) (h : Nat) : dhp (w.alloc o) h = if w.heap.size = h then some o else dhp w h := by
  unfold dhp
  by_cases e : w.heap.size = h
  · subst e; rw [if_pos rfl]; simpa using heap_alloc_new w o
  · rw [if_neg e]
    by_cases l : h < w.heap.size
    · exact Below.heap_alloc w o h l
    · have h1 : w.heap[h]? = none := Array.getElem?_eq_none (by omega)
      have h2 : (w.alloc o).heap[h]? = none := Array.getElem?_eq_none (by simp; omega)
      rw [h1, h2]
theorem ddr (w : World) (g : Nat) : dhp w.drew g = dhp w g := rfl
theorem ddrN (w : World) (n g : Nat) : dhp (w.drewN n) g = dhp w g := rfl
theorem drowx {P : Program} {ops : Array Oper} {Q : Exit → Act → World → Prop} {rest : List Oper} {o : Oper} {a : Act} {W : World} (t : TypeId) {p : Tmp} {g : Nat} {cells old : Array Value} {ty : TypeId} {ob : Option Obj}
    (h : ∀ w', Aside0 (w' = W.setRow g cells) → ((∀ h j, h ≠ g → w'.cell? ⟨h, j, none⟩ = W.cell? ⟨h, j, none⟩) ∧ (∀ h j, w'.frozen? ⟨h, j, none⟩ = W.frozen? ⟨h, j, none⟩) ∧ (∀ j, w'.cell? ⟨g, j, none⟩ = cells[j]?) ∧ w'.heap.size = W.heap.size ∧ (∀ h : Nat, h ≠ g → dhp w' h = dhp W h) ∧ dhp w' g = some (.cells cells ty (0, 0))) → wpList P ops Q rest a w')
    (hgd : o.guard = none := by rfl) (hs : ∃ v, o.op = .store t (.tmp p) v ∧ a.eval v = .agg cells := by exact ⟨_, rfl, rfl⟩) (hN : o.dst = none := by rfl) (hx : a.eval (.tmp p) = .pointer (some ⟨g, 0, none⟩) := by rfl)
    (hg : dhp W g = ob := by (try go_simp); rfl) (ho : ob = some (.cells old ty (0, 0)) := by rfl) (hi : (P.info? t).map (·.size) = some cells.size := by kernel_rfl) (hold : old.size = cells.size := by rfl) (h1 : cells.all (·.oneCell') = true := by simp [Value.oneCell']) : wpList P ops Q (o :: rest) a W := by
  subst ho
  have hg : W.heap[g]? = some (.cells old ty (0, 0)) := hg
  obtain ⟨v, ho, hy⟩ := hs
  refine wpList_store_row hgd t (.tmp p) v ho g cells hx hy ty old hg hi hold h1 ?_
  rw [hN]
  have hr := setRow_heap W g old cells ty (0, 0) hg
  refine h _ ⟨rfl⟩ ⟨fun k j hk => ?_, fun k j => ?_, fun j => ?_, by simp [World.setRow], fun k hk => setRow_other W g k cells hk, hr⟩
  · unfold World.cell?; rw [show (W.setRow g cells).heap[k]? = W.heap[k]? from setRow_other W g k cells hk]
  · unfold World.frozen?
    by_cases e : k = g
    · subst e; simp only [hr, hg]
    · rw [show (W.setRow g cells).heap[k]? = W.heap[k]? from setRow_other W g k cells e]
  · unfold World.cell?; simp only [hr]; rfl
theorem drowl {P : Program} {ops : Array Oper} {rest : List Oper} {o : Oper} {a : Act} {W : World} {Q : Exit → Act → World → Prop} {ty : TypeId} {d : TypeDesc} (hu : P.underlying ty = some d) {g : Nat} {t : TypeId} {cs : Array Value} {fr : Nat × Nat} {ob : Option Obj} (h : wpList P ops Q rest (a.put o.dst (.agg cs)) W) (hgd : o.guard = none := by rfl) (hx : ∃ x, o.op = .load ty x ∧ a.eval x = .pointer (some ⟨g, 0, none⟩) := by exact ⟨_, rfl, rfl⟩) (hg : dhp W g = ob := by (try go_simp); rfl) (ho : ob = some (.cells cs t fr) := by rfl) (hd : (match d with | .struct _ | .array _ _ => true | _ => false) = true := by rfl) (hi : (P.info? ty).map (·.size) = some cs.size := by kernel_rfl) : wpList P ops Q (o :: rest) a W := by
  subst ho
  obtain ⟨x, ho, hx⟩ := hx
  exact wpList_load_row hgd ty x ho g hx t cs fr d hg hu hd hi h
theorem dgl {P : Program} {ops : Array Oper} {Q : Exit → Act → World → Prop} {rest : List Oper} {o : Oper} {a : Act} {W : World} {t : TypeId} {x : Operand} (_ho : o.op = .load t x) (h : wpList P ops Q (o :: rest) a W) : wpList P ops Q (o :: rest) a W := h
theorem drr {P : Program} {fn : Func} {p : Tmp} {ty : TypeId} (h : fn.results = #[.cell p ty]) (tmps : Array Value) (w : World) {g : Nat} {t : TypeId} {cs : Array Value} {fr : Nat × Nat} {d : TypeDesc} {ob : Option Obj}
    (hp : tmps.getD p undef = .pointer (some ⟨g, 0, none⟩)) (hu : P.underlying ty = some d) (hg : dhp w g = ob := by (try go_simp); rfl) (ho : ob = some (.cells cs t fr) := by rfl) (hd : (match d with | .struct _ | .array _ _ => true | _ => false) = true := by rfl) (hi : (P.info? ty).map (·.size) = some cs.size := by kernel_rfl) : (results fn tmps).run P w = .ok (.agg cs) w := by
  subst ho; exact results_cell_row h tmps w g t cs fr d hp hg hu hd hi
theorem below_row {w W w' : World} {g : Nat} {cells : Array Value} (h : Below w.heap.size w W) (hg : w.heap.size ≤ g) (hr : Aside0 (w' = W.setRow g cells)) : Below w.heap.size w w' := by
  rw [hr.out]; exact h.trans ⟨rfl, rfl, rfl, by simp [World.setRow], fun k hk => setRow_other _ g k cells (by omega)⟩
theorem dsz {W w1 : World} {n : Nat} (hb : Below W.heap.size W w1) (h : n ≤ W.heap.size := by first | (with_reducible assumption) | (simp; done) | (simp; omega) | (go_simp; done) | (go_simp; omega)) : n ≤ w1.heap.size := Nat.le_trans h hb.size
theorem dl1 {n m : Nat} (h : n + 1 ≤ m) : n < m ∧ n ≤ m ∧ n ≠ m ∧ m ≠ n ∧ (∀ j, n < m + j) ∧ (∀ j, n ≤ m + j) ∧ (∀ j, n ≠ m + j) ∧ (∀ j, m + j ≠ n) := by
  refine ⟨?_, ?_, ?_, ?_, ?_, ?_, ?_, ?_⟩ <;> first | omega | (intro j; omega)
theorem dl2 {n m : Nat} (h : n + 1 + 1 ≤ m) : n < m ∧ n ≤ m ∧ n ≠ m ∧ m ≠ n ∧ (∀ j, n < m + j) ∧ (∀ j, n ≤ m + j) ∧ (∀ j, n ≠ m + j) ∧ (∀ j, m + j ≠ n) ∧ n + 1 < m ∧ n + 1 ≤ m ∧ n + 1 ≠ m ∧ m ≠ n + 1 ∧ (∀ j, n + 1 < m + j) ∧ (∀ j, n + 1 ≤ m + j) ∧ (∀ j, n + 1 ≠ m + j) ∧ (∀ j, m + j ≠ n + 1) := by
  refine ⟨?_, ?_, ?_, ?_, ?_, ?_, ?_, ?_, ?_, ?_, ?_, ?_, ?_, ?_, ?_, ?_⟩ <;> first | omega | (intro j; omega)
theorem dl3 {n m : Nat} (h : n + 1 + 1 + 1 ≤ m) : n < m ∧ n ≤ m ∧ n ≠ m ∧ m ≠ n ∧ (∀ j, n < m + j) ∧ (∀ j, n ≤ m + j) ∧ (∀ j, n ≠ m + j) ∧ (∀ j, m + j ≠ n) ∧ n + 1 < m ∧ n + 1 ≤ m ∧ n + 1 ≠ m ∧ m ≠ n + 1 ∧ (∀ j, n + 1 < m + j) ∧ (∀ j, n + 1 ≤ m + j) ∧ (∀ j, n + 1 ≠ m + j) ∧ (∀ j, m + j ≠ n + 1) ∧ n + 1 + 1 < m ∧ n + 1 + 1 ≤ m ∧ n + 1 + 1 ≠ m ∧ m ≠ n + 1 + 1 ∧ (∀ j, n + 1 + 1 < m + j) ∧ (∀ j, n + 1 + 1 ≤ m + j) ∧ (∀ j, n + 1 + 1 ≠ m + j) ∧ (∀ j, m + j ≠ n + 1 + 1) := by
  refine ⟨?_, ?_, ?_, ?_, ?_, ?_, ?_, ?_, ?_, ?_, ?_, ?_, ?_, ?_, ?_, ?_, ?_, ?_, ?_, ?_, ?_, ?_, ?_, ?_⟩ <;> first | omega | (intro j; omega)
theorem dl4 {n m : Nat} (h : n + 1 + 1 + 1 + 1 ≤ m) : n < m ∧ n ≤ m ∧ n ≠ m ∧ m ≠ n ∧ (∀ j, n < m + j) ∧ (∀ j, n ≤ m + j) ∧ (∀ j, n ≠ m + j) ∧ (∀ j, m + j ≠ n) ∧ n + 1 < m ∧ n + 1 ≤ m ∧ n + 1 ≠ m ∧ m ≠ n + 1 ∧ (∀ j, n + 1 < m + j) ∧ (∀ j, n + 1 ≤ m + j) ∧ (∀ j, n + 1 ≠ m + j) ∧ (∀ j, m + j ≠ n + 1) ∧ n + 1 + 1 < m ∧ n + 1 + 1 ≤ m ∧ n + 1 + 1 ≠ m ∧ m ≠ n + 1 + 1 ∧ (∀ j, n + 1 + 1 < m + j) ∧ (∀ j, n + 1 + 1 ≤ m + j) ∧ (∀ j, n + 1 + 1 ≠ m + j) ∧ (∀ j, m + j ≠ n + 1 + 1) ∧ n + 1 + 1 + 1 < m ∧ n + 1 + 1 + 1 ≤ m ∧ n + 1 + 1 + 1 ≠ m ∧ m ≠ n + 1 + 1 + 1 ∧ (∀ j, n + 1 + 1 + 1 < m + j) ∧ (∀ j, n + 1 + 1 + 1 ≤ m + j) ∧ (∀ j, n + 1 + 1 + 1 ≠ m + j) ∧ (∀ j, m + j ≠ n + 1 + 1 + 1) := by
  refine ⟨?_, ?_, ?_, ?_, ?_, ?_, ?_, ?_, ?_, ?_, ?_, ?_, ?_, ?_, ?_, ?_, ?_, ?_, ?_, ?_, ?_, ?_, ?_, ?_, ?_, ?_, ?_, ?_, ?_, ?_, ?_, ?_⟩ <;> first | omega | (intro j; omega)
theorem dl5 {n m : Nat} (h : n + 1 + 1 + 1 + 1 + 1 ≤ m) : n < m ∧ n ≤ m ∧ n ≠ m ∧ m ≠ n ∧ (∀ j, n < m + j) ∧ (∀ j, n ≤ m + j) ∧ (∀ j, n ≠ m + j) ∧ (∀ j, m + j ≠ n) ∧ n + 1 < m ∧ n + 1 ≤ m ∧ n + 1 ≠ m ∧ m ≠ n + 1 ∧ (∀ j, n + 1 < m + j) ∧ (∀ j, n + 1 ≤ m + j) ∧ (∀ j, n + 1 ≠ m + j) ∧ (∀ j, m + j ≠ n + 1) ∧ n + 1 + 1 < m ∧ n + 1 + 1 ≤ m ∧ n + 1 + 1 ≠ m ∧ m ≠ n + 1 + 1 ∧ (∀ j, n + 1 + 1 < m + j) ∧ (∀ j, n + 1 + 1 ≤ m + j) ∧ (∀ j, n + 1 + 1 ≠ m + j) ∧ (∀ j, m + j ≠ n + 1 + 1) ∧ n + 1 + 1 + 1 < m ∧ n + 1 + 1 + 1 ≤ m ∧ n + 1 + 1 + 1 ≠ m ∧ m ≠ n + 1 + 1 + 1 ∧ (∀ j, n + 1 + 1 + 1 < m + j) ∧ (∀ j, n + 1 + 1 + 1 ≤ m + j) ∧ (∀ j, n + 1 + 1 + 1 ≠ m + j) ∧ (∀ j, m + j ≠ n + 1 + 1 + 1) ∧ n + 1 + 1 + 1 + 1 < m ∧ n + 1 + 1 + 1 + 1 ≤ m ∧ n + 1 + 1 + 1 + 1 ≠ m ∧ m ≠ n + 1 + 1 + 1 + 1 ∧ (∀ j, n + 1 + 1 + 1 + 1 < m + j) ∧ (∀ j, n + 1 + 1 + 1 + 1 ≤ m + j) ∧ (∀ j, n + 1 + 1 + 1 + 1 ≠ m + j) ∧ (∀ j, m + j ≠ n + 1 + 1 + 1 + 1) := by
  refine ⟨?_, ?_, ?_, ?_, ?_, ?_, ?_, ?_, ?_, ?_, ?_, ?_, ?_, ?_, ?_, ?_, ?_, ?_, ?_, ?_, ?_, ?_, ?_, ?_, ?_, ?_, ?_, ?_, ?_, ?_, ?_, ?_, ?_, ?_, ?_, ?_, ?_, ?_, ?_, ?_⟩ <;> first | omega | (intro j; omega)
theorem dl6 {n m : Nat} (h : n + 1 + 1 + 1 + 1 + 1 + 1 ≤ m) : n < m ∧ n ≤ m ∧ n ≠ m ∧ m ≠ n ∧ (∀ j, n < m + j) ∧ (∀ j, n ≤ m + j) ∧ (∀ j, n ≠ m + j) ∧ (∀ j, m + j ≠ n) ∧ n + 1 < m ∧ n + 1 ≤ m ∧ n + 1 ≠ m ∧ m ≠ n + 1 ∧ (∀ j, n + 1 < m + j) ∧ (∀ j, n + 1 ≤ m + j) ∧ (∀ j, n + 1 ≠ m + j) ∧ (∀ j, m + j ≠ n + 1) ∧ n + 1 + 1 < m ∧ n + 1 + 1 ≤ m ∧ n + 1 + 1 ≠ m ∧ m ≠ n + 1 + 1 ∧ (∀ j, n + 1 + 1 < m + j) ∧ (∀ j, n + 1 + 1 ≤ m + j) ∧ (∀ j, n + 1 + 1 ≠ m + j) ∧ (∀ j, m + j ≠ n + 1 + 1) ∧ n + 1 + 1 + 1 < m ∧ n + 1 + 1 + 1 ≤ m ∧ n + 1 + 1 + 1 ≠ m ∧ m ≠ n + 1 + 1 + 1 ∧ (∀ j, n + 1 + 1 + 1 < m + j) ∧ (∀ j, n + 1 + 1 + 1 ≤ m + j) ∧ (∀ j, n + 1 + 1 + 1 ≠ m + j) ∧ (∀ j, m + j ≠ n + 1 + 1 + 1) ∧ n + 1 + 1 + 1 + 1 < m ∧ n + 1 + 1 + 1 + 1 ≤ m ∧ n + 1 + 1 + 1 + 1 ≠ m ∧ m ≠ n + 1 + 1 + 1 + 1 ∧ (∀ j, n + 1 + 1 + 1 + 1 < m + j) ∧ (∀ j, n + 1 + 1 + 1 + 1 ≤ m + j) ∧ (∀ j, n + 1 + 1 + 1 + 1 ≠ m + j) ∧ (∀ j, m + j ≠ n + 1 + 1 + 1 + 1) ∧ n + 1 + 1 + 1 + 1 + 1 < m ∧ n + 1 + 1 + 1 + 1 + 1 ≤ m ∧ n + 1 + 1 + 1 + 1 + 1 ≠ m ∧ m ≠ n + 1 + 1 + 1 + 1 + 1 ∧ (∀ j, n + 1 + 1 + 1 + 1 + 1 < m + j) ∧ (∀ j, n + 1 + 1 + 1 + 1 + 1 ≤ m + j) ∧ (∀ j, n + 1 + 1 + 1 + 1 + 1 ≠ m + j) ∧ (∀ j, m + j ≠ n + 1 + 1 + 1 + 1 + 1) := by
  refine ⟨?_, ?_, ?_, ?_, ?_, ?_, ?_, ?_, ?_, ?_, ?_, ?_, ?_, ?_, ?_, ?_, ?_, ?_, ?_, ?_, ?_, ?_, ?_, ?_, ?_, ?_, ?_, ?_, ?_, ?_, ?_, ?_, ?_, ?_, ?_, ?_, ?_, ?_, ?_, ?_, ?_, ?_, ?_, ?_, ?_, ?_, ?_, ?_⟩ <;> first | omega | (intro j; omega)
theorem dl7 {n m : Nat} (h : n + 1 + 1 + 1 + 1 + 1 + 1 + 1 ≤ m) : n < m ∧ n ≤ m ∧ n ≠ m ∧ m ≠ n ∧ (∀ j, n < m + j) ∧ (∀ j, n ≤ m + j) ∧ (∀ j, n ≠ m + j) ∧ (∀ j, m + j ≠ n) ∧ n + 1 < m ∧ n + 1 ≤ m ∧ n + 1 ≠ m ∧ m ≠ n + 1 ∧ (∀ j, n + 1 < m + j) ∧ (∀ j, n + 1 ≤ m + j) ∧ (∀ j, n + 1 ≠ m + j) ∧ (∀ j, m + j ≠ n + 1) ∧ n + 1 + 1 < m ∧ n + 1 + 1 ≤ m ∧ n + 1 + 1 ≠ m ∧ m ≠ n + 1 + 1 ∧ (∀ j, n + 1 + 1 < m + j) ∧ (∀ j, n + 1 + 1 ≤ m + j) ∧ (∀ j, n + 1 + 1 ≠ m + j) ∧ (∀ j, m + j ≠ n + 1 + 1) ∧ n + 1 + 1 + 1 < m ∧ n + 1 + 1 + 1 ≤ m ∧ n + 1 + 1 + 1 ≠ m ∧ m ≠ n + 1 + 1 + 1 ∧ (∀ j, n + 1 + 1 + 1 < m + j) ∧ (∀ j, n + 1 + 1 + 1 ≤ m + j) ∧ (∀ j, n + 1 + 1 + 1 ≠ m + j) ∧ (∀ j, m + j ≠ n + 1 + 1 + 1) ∧ n + 1 + 1 + 1 + 1 < m ∧ n + 1 + 1 + 1 + 1 ≤ m ∧ n + 1 + 1 + 1 + 1 ≠ m ∧ m ≠ n + 1 + 1 + 1 + 1 ∧ (∀ j, n + 1 + 1 + 1 + 1 < m + j) ∧ (∀ j, n + 1 + 1 + 1 + 1 ≤ m + j) ∧ (∀ j, n + 1 + 1 + 1 + 1 ≠ m + j) ∧ (∀ j, m + j ≠ n + 1 + 1 + 1 + 1) ∧ n + 1 + 1 + 1 + 1 + 1 < m ∧ n + 1 + 1 + 1 + 1 + 1 ≤ m ∧ n + 1 + 1 + 1 + 1 + 1 ≠ m ∧ m ≠ n + 1 + 1 + 1 + 1 + 1 ∧ (∀ j, n + 1 + 1 + 1 + 1 + 1 < m + j) ∧ (∀ j, n + 1 + 1 + 1 + 1 + 1 ≤ m + j) ∧ (∀ j, n + 1 + 1 + 1 + 1 + 1 ≠ m + j) ∧ (∀ j, m + j ≠ n + 1 + 1 + 1 + 1 + 1) ∧ n + 1 + 1 + 1 + 1 + 1 + 1 < m ∧ n + 1 + 1 + 1 + 1 + 1 + 1 ≤ m ∧ n + 1 + 1 + 1 + 1 + 1 + 1 ≠ m ∧ m ≠ n + 1 + 1 + 1 + 1 + 1 + 1 ∧ (∀ j, n + 1 + 1 + 1 + 1 + 1 + 1 < m + j) ∧ (∀ j, n + 1 + 1 + 1 + 1 + 1 + 1 ≤ m + j) ∧ (∀ j, n + 1 + 1 + 1 + 1 + 1 + 1 ≠ m + j) ∧ (∀ j, m + j ≠ n + 1 + 1 + 1 + 1 + 1 + 1) := by
  refine ⟨?_, ?_, ?_, ?_, ?_, ?_, ?_, ?_, ?_, ?_, ?_, ?_, ?_, ?_, ?_, ?_, ?_, ?_, ?_, ?_, ?_, ?_, ?_, ?_, ?_, ?_, ?_, ?_, ?_, ?_, ?_, ?_, ?_, ?_, ?_, ?_, ?_, ?_, ?_, ?_, ?_, ?_, ?_, ?_, ?_, ?_, ?_, ?_, ?_, ?_, ?_, ?_, ?_, ?_, ?_, ?_⟩ <;> first | omega | (intro j; omega)
theorem dl8 {n m : Nat} (h : n + 1 + 1 + 1 + 1 + 1 + 1 + 1 + 1 ≤ m) : n < m ∧ n ≤ m ∧ n ≠ m ∧ m ≠ n ∧ (∀ j, n < m + j) ∧ (∀ j, n ≤ m + j) ∧ (∀ j, n ≠ m + j) ∧ (∀ j, m + j ≠ n) ∧ n + 1 < m ∧ n + 1 ≤ m ∧ n + 1 ≠ m ∧ m ≠ n + 1 ∧ (∀ j, n + 1 < m + j) ∧ (∀ j, n + 1 ≤ m + j) ∧ (∀ j, n + 1 ≠ m + j) ∧ (∀ j, m + j ≠ n + 1) ∧ n + 1 + 1 < m ∧ n + 1 + 1 ≤ m ∧ n + 1 + 1 ≠ m ∧ m ≠ n + 1 + 1 ∧ (∀ j, n + 1 + 1 < m + j) ∧ (∀ j, n + 1 + 1 ≤ m + j) ∧ (∀ j, n + 1 + 1 ≠ m + j) ∧ (∀ j, m + j ≠ n + 1 + 1) ∧ n + 1 + 1 + 1 < m ∧ n + 1 + 1 + 1 ≤ m ∧ n + 1 + 1 + 1 ≠ m ∧ m ≠ n + 1 + 1 + 1 ∧ (∀ j, n + 1 + 1 + 1 < m + j) ∧ (∀ j, n + 1 + 1 + 1 ≤ m + j) ∧ (∀ j, n + 1 + 1 + 1 ≠ m + j) ∧ (∀ j, m + j ≠ n + 1 + 1 + 1) ∧ n + 1 + 1 + 1 + 1 < m ∧ n + 1 + 1 + 1 + 1 ≤ m ∧ n + 1 + 1 + 1 + 1 ≠ m ∧ m ≠ n + 1 + 1 + 1 + 1 ∧ (∀ j, n + 1 + 1 + 1 + 1 < m + j) ∧ (∀ j, n + 1 + 1 + 1 + 1 ≤ m + j) ∧ (∀ j, n + 1 + 1 + 1 + 1 ≠ m + j) ∧ (∀ j, m + j ≠ n + 1 + 1 + 1 + 1) ∧ n + 1 + 1 + 1 + 1 + 1 < m ∧ n + 1 + 1 + 1 + 1 + 1 ≤ m ∧ n + 1 + 1 + 1 + 1 + 1 ≠ m ∧ m ≠ n + 1 + 1 + 1 + 1 + 1 ∧ (∀ j, n + 1 + 1 + 1 + 1 + 1 < m + j) ∧ (∀ j, n + 1 + 1 + 1 + 1 + 1 ≤ m + j) ∧ (∀ j, n + 1 + 1 + 1 + 1 + 1 ≠ m + j) ∧ (∀ j, m + j ≠ n + 1 + 1 + 1 + 1 + 1) ∧ n + 1 + 1 + 1 + 1 + 1 + 1 < m ∧ n + 1 + 1 + 1 + 1 + 1 + 1 ≤ m ∧ n + 1 + 1 + 1 + 1 + 1 + 1 ≠ m ∧ m ≠ n + 1 + 1 + 1 + 1 + 1 + 1 ∧ (∀ j, n + 1 + 1 + 1 + 1 + 1 + 1 < m + j) ∧ (∀ j, n + 1 + 1 + 1 + 1 + 1 + 1 ≤ m + j) ∧ (∀ j, n + 1 + 1 + 1 + 1 + 1 + 1 ≠ m + j) ∧ (∀ j, m + j ≠ n + 1 + 1 + 1 + 1 + 1 + 1) ∧ n + 1 + 1 + 1 + 1 + 1 + 1 + 1 < m ∧ n + 1 + 1 + 1 + 1 + 1 + 1 + 1 ≤ m ∧ n + 1 + 1 + 1 + 1 + 1 + 1 + 1 ≠ m ∧ m ≠ n + 1 + 1 + 1 + 1 + 1 + 1 + 1 ∧ (∀ j, n + 1 + 1 + 1 + 1 + 1 + 1 + 1 < m + j) ∧ (∀ j, n + 1 + 1 + 1 + 1 + 1 + 1 + 1 ≤ m + j) ∧ (∀ j, n + 1 + 1 + 1 + 1 + 1 + 1 + 1 ≠ m + j) ∧ (∀ j, m + j ≠ n + 1 + 1 + 1 + 1 + 1 + 1 + 1) := by
  refine ⟨?_, ?_, ?_, ?_, ?_, ?_, ?_, ?_, ?_, ?_, ?_, ?_, ?_, ?_, ?_, ?_, ?_, ?_, ?_, ?_, ?_, ?_, ?_, ?_, ?_, ?_, ?_, ?_, ?_, ?_, ?_, ?_, ?_, ?_, ?_, ?_, ?_, ?_, ?_, ?_, ?_, ?_, ?_, ?_, ?_, ?_, ?_, ?_, ?_, ?_, ?_, ?_, ?_, ?_, ?_, ?_, ?_, ?_, ?_, ?_, ?_, ?_, ?_, ?_⟩ <;> first | omega | (intro j; omega)
theorem drc {P : Program} {fn : Func} {p : Tmp} {ty : TypeId} (h : fn.results = #[.cell p ty]) (tmps : Array Value) (w : World) {g : Nat} {v : Value} (hp : tmps.getD p undef = .pointer (some ⟨g, 0, none⟩)) (hl : (loadVar ty ⟨g, 0, none⟩).run P w = .ok v w) : (results fn tmps).run P w = .ok v w := by
  have hp' : tmps[p]?.getD undef = .pointer (some ⟨g, 0, none⟩) := by simpa using hp
  simp [results, h, hp', asAddr, hl]
theorem drct {P : Program} {fn : Func} {p u : Tmp} {ty : TypeId} (h : fn.results = #[.cell p ty, .tmp u]) (tmps : Array Value) (w : World) {g : Nat} {v : Value} (hp : tmps.getD p undef = .pointer (some ⟨g, 0, none⟩)) (hl : (loadVar ty ⟨g, 0, none⟩).run P w = .ok v w) : (results fn tmps).run P w = .ok (.tuple #[v, tmps.getD u undef]) w := by
  have hp' : tmps[p]?.getD undef = .pointer (some ⟨g, 0, none⟩) := by simpa using hp
  simp [results, h, hp', asAddr, hl]
theorem dfi {w W : World} (h : Below w.heap.size w W := by (repeat' (with_reducible (first | exact Below.refl _ _ | refine below_set ?_ ?_ | refine below_alloc ?_ _ | refine below_row ?_ ?_ (by assumption) | refine below_drew1 ?_ | refine pw_below_drewN ?_ _ | refine below_step ?_ (by assumption)))); (all_goals (first | exact Nat.le_refl _ | (simp only [Nat.add_assoc]; exact Nat.le_add_right _ _) | omega))) : Below w.heap.size w W := h
end Go.Proofs.Ytpcladboobfkhaa.PFnWork
