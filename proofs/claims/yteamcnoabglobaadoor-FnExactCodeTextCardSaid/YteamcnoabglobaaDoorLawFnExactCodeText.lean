/- The row of the law FnExactCodeText: at every input the law answers true, and each argument reads behind the call as it read before: out of the pure statement and the walk; no conditions. -/
import Derived.Test.YteamcnoabglobaaDoorRows
import Derived.Test.YteamcnoabglobaaDoorPFnExactCodeTextx5
import Derived.Test.YteamcnoabglobaaDoorPureFnExactCodeText
import Derived.WalkKit
import Derived.ProofKit
import Derived.OpenShut
import Derived.ShutString
import Derived.ChangeOld
import Derived.Below
import Derived.SizedLaws
import Derived.Deep.Slices
import Derived.Deep.Fields
import Derived.ChangeSame
import Derived.Lib.SmallJoins
import Derived.Test.YteamcnoabglobaaDoorCards
import Derived.Test.YteamcnoabglobaaDoorTie
import Derived.SevenTiedAt
import Derived.LaidLaws
import Derived.LaidHandle
import Derived.LaidMore
import Derived.Stop.LaidErr
import Derived.Lib.LaidTab
import Derived.MakeChecks
import Derived.HandedShaped
import Derived.JoinedOf
import Derived.RowKit
namespace Go.Proofs.YteamcnoabglobaaDoor.fnExactCodeText
open Go.ChangeShapes Go.WideShapes Go.ChangeAt Go.RowKit Go.Proofs.YteamcnoabglobaaDoorW.PrintWords Go.Proofs.YteamcnoabglobaaDoor.PFnExactCodeText
open Go.ChangeMaps (open_string shut_string)
set_option linter.unusedVariables false
set_option linter.unusedSimpArgs false
theorem own : ownKnob Tryd.prog.godebug = none := by kernel_rfl
theorem laidOut : laidOutB Tryd.prog = true := by kernel_rfl

theorem C_exists {α : Type} (d : Kd α) (w : World) (ad : Addr) : ∀ (n : Nat), n ≤ 9223372036854775807 → (∀ j, j < n → ∃ p cs, d.K w p cs ∧ ∀ i u, cs[i]? = some u → w.cell? (ad.add (j * d.sz + i)) = some u) → ∃ xs : List α, d.C w (some ad) n xs
  | 0, _, _ => ⟨[], rfl, Nat.zero_le _, fun h => absurd h (Nat.lt_irrefl _)⟩
  | n + 1, hn, h => by
    obtain ⟨xs, h1, h2, h3⟩ := C_exists d w ad n (by omega) (fun j hj => h j (by omega))
    obtain ⟨p, cs, hK, hc⟩ := h n (by omega)
    refine ⟨xs ++ [p], by simp [h1], hn, fun _ => ⟨ad, rfl, fun j q hq => ?_⟩⟩
    rcases Nat.lt_or_ge j n with hj | hj
    · obtain ⟨ad', e, hx⟩ := h3 (by omega)
      cases e
      rw [List.getElem?_append_left (by omega)] at hq
      exact hx j q hq
    · have hl := (List.getElem?_eq_some_iff.1 hq).1
      rw [List.length_append, List.length_singleton] at hl
      obtain rfl : j = n := by omega
      have hq' : p = q := by
        rw [List.getElem?_append_right (by omega), h1] at hq
        simpa using hq
      subst hq'
      exact ⟨cs, d.K_len hK, hK, hc⟩
def SL {α : Type} (d : Kd α) (w : World) (v : Value) : Prop := ∃ (A : Option Addr) (c : Nat) (l : List α), v = .slice A l.length c ∧ d.C w A l.length l ∧ l.length ≤ c ∧ l.length ≤ maxLen
section
variable {H : Type} {enc : TypeId × Value → H} {P : Program} {w : World} {spare : Nat → Bool} {held : Bool}
theorem sl_open {α : Type} {d : Kd α} {t e : TypeId} {fuel : Nat} {cs : List Value} {x : DataW H × List MemPlace} (hu : P.underlying t = some (.slice e)) (hC : P.cellsOf e = d.sz)
    (hel : ∀ cs n y, DataW.trod enc P w 0 spare held n e cs = some y → ∃ p : α, d.K w p cs) (h : DataW.trod enc P w 0 spare held fuel t cs = some x) : ∃ v, cs = [v] ∧ SL d w v := by
  rcases Go.Deep.open_slice hu h with ⟨rfl, _⟩ | ⟨a, len, cap, m, n, D, Pl, rfl, hb, hl, hm, hmm, hx, hi⟩
  · exact ⟨_, rfl, none, 0, [], rfl, ⟨rfl, Nat.zero_le _, fun h => absurd h (Nat.lt_irrefl _)⟩, Nat.le_refl _, Nat.zero_le _⟩
  · have hlm : len ≤ m := by rw [hmm]; split <;> omega
    have hlen : len ≤ 9223372036854775807 := by unfold maxLen at hm; omega
    obtain ⟨xs, hxs⟩ := C_exists d w a len hlen (fun j hj => by
      obtain ⟨cs', hc, ht⟩ := hi j (by omega)
      obtain ⟨p, hp⟩ := hel _ _ _ ht
      obtain ⟨_, _, hat⟩ := World.cells?_some hc
      rw [hC] at hat
      refine ⟨p, cs', hp, fun i u hu => ?_⟩
      have hil := (List.getElem?_eq_some_iff.1 hu).1
      rw [d.K_len hp] at hil
      have := hat i hil
      rw [Go.Deep.add_add, hu] at this
      exact this)
    have e : xs.length = len := hxs.1
    subst e
    exact ⟨_, rfl, some a, cap, xs, rfl, hxs, hl, Nat.le_trans hl hm⟩
theorem agg_cells {t : TypeId} {fs : Array Field} {v : Value} {r : Reach} {b0 : Nat} {d : DataW H} {ps : List MemPlace} (hs : P.underlying t = some (.struct fs)) (hv : Value.okWide P w r b0 t v)
    (h : DataW.Trod enc P w 0 spare held t v d ps) : ∃ cs fuel, v = .agg ⟨cs⟩ ∧ DataW.trod enc P w 0 spare held fuel t cs = some (d, ps) := by
  obtain ⟨cs, rfl, _⟩ := okWide_struct hs hv
  obtain ⟨fuel, hf⟩ := h
  obtain ⟨l⟩ := cs
  exact ⟨l, fuel, rfl, hf⟩
theorem slice_cells {t e : TypeId} {v : Value} {r : Reach} {b0 : Nat} {d : DataW H} {ps : List MemPlace} (hs : P.underlying t = some (.slice e)) (hv : Value.okWide P w r b0 t v)
    (h : DataW.Trod enc P w 0 spare held t v d ps) : ∃ fuel, DataW.trod enc P w 0 spare held fuel t [v] = some (d, ps) := by
  obtain ⟨a, l, c, rfl⟩ := okWide_slice hs hv
  obtain ⟨fuel, hf⟩ := h
  exact ⟨fuel, hf⟩
end

theorem open_23 {H : Type} {enc : TypeId × Value → H} {w : World} {spare : Nat → Bool} {held : Bool} {fuel : Nat} {cs : List Value} {x : DataW H × List MemPlace} (h : DataW.trod enc Tryd.prog w 0 spare held fuel 23 cs = some x) : ∃ (x_0 : Int) (x_1 : Int) (x_2 : Int) (x_3 : Int) (x_4 : Int), cs = [.int .i64 x_0, .int .i64 x_1, .int .i64 x_2, .int .i64 x_3, .int .i64 x_4] ∧ (Lit.int .i64 x_0).wf = true ∧ (Lit.int .i64 x_1).wf = true ∧ (Lit.int .i64 x_2).wf = true ∧ (Lit.int .i64 x_3).wf = true ∧ (Lit.int .i64 x_4).wf = true := by
  obtain ⟨xs, n, _, _, hl, hx, hf⟩ := DataW.trod_struct Tryd.underlying23 h
  have hl : cs.length = 5 := hl.trans (by kernel_rfl)
  match cs, hl with
  | [c0, c1, c2, c3, c4], _ =>
    have h0 : DataW.trod enc Tryd.prog w 0 spare held n 3 ((List.drop 0 [c0, c1, c2, c3, c4]).take (Tryd.prog.cellsOf 3)) = xs[0]? := hf 0 _ rfl
    obtain ⟨y0, e0⟩ : ∃ y, xs[0]? = some y := ⟨_, List.getElem?_eq_getElem (by rw [hx]; decide)⟩
    rw [e0, show Tryd.prog.cellsOf 3 = 1 from by kernel_rfl] at h0
    have h0 : DataW.trod enc Tryd.prog w 0 spare held n 3 [c0] = some y0 := h0
    obtain ⟨x_0, g0, _, f0⟩ := DataW.trod_int Tryd.underlying3 h0
    have h1 : DataW.trod enc Tryd.prog w 0 spare held n 3 ((List.drop 1 [c0, c1, c2, c3, c4]).take (Tryd.prog.cellsOf 3)) = xs[1]? := hf 1 _ rfl
    obtain ⟨y1, e1⟩ : ∃ y, xs[1]? = some y := ⟨_, List.getElem?_eq_getElem (by rw [hx]; decide)⟩
    rw [e1, show Tryd.prog.cellsOf 3 = 1 from by kernel_rfl] at h1
    have h1 : DataW.trod enc Tryd.prog w 0 spare held n 3 [c1] = some y1 := h1
    obtain ⟨x_1, g1, _, f1⟩ := DataW.trod_int Tryd.underlying3 h1
    have h2 : DataW.trod enc Tryd.prog w 0 spare held n 3 ((List.drop 2 [c0, c1, c2, c3, c4]).take (Tryd.prog.cellsOf 3)) = xs[2]? := hf 2 _ rfl
    obtain ⟨y2, e2⟩ : ∃ y, xs[2]? = some y := ⟨_, List.getElem?_eq_getElem (by rw [hx]; decide)⟩
    rw [e2, show Tryd.prog.cellsOf 3 = 1 from by kernel_rfl] at h2
    have h2 : DataW.trod enc Tryd.prog w 0 spare held n 3 [c2] = some y2 := h2
    obtain ⟨x_2, g2, _, f2⟩ := DataW.trod_int Tryd.underlying3 h2
    have h3 : DataW.trod enc Tryd.prog w 0 spare held n 3 ((List.drop 3 [c0, c1, c2, c3, c4]).take (Tryd.prog.cellsOf 3)) = xs[3]? := hf 3 _ rfl
    obtain ⟨y3, e3⟩ : ∃ y, xs[3]? = some y := ⟨_, List.getElem?_eq_getElem (by rw [hx]; decide)⟩
    rw [e3, show Tryd.prog.cellsOf 3 = 1 from by kernel_rfl] at h3
    have h3 : DataW.trod enc Tryd.prog w 0 spare held n 3 [c3] = some y3 := h3
    obtain ⟨x_3, g3, _, f3⟩ := DataW.trod_int Tryd.underlying3 h3
    have h4 : DataW.trod enc Tryd.prog w 0 spare held n 3 ((List.drop 4 [c0, c1, c2, c3, c4]).take (Tryd.prog.cellsOf 3)) = xs[4]? := hf 4 _ rfl
    obtain ⟨y4, e4⟩ : ∃ y, xs[4]? = some y := ⟨_, List.getElem?_eq_getElem (by rw [hx]; decide)⟩
    rw [e4, show Tryd.prog.cellsOf 3 = 1 from by kernel_rfl] at h4
    have h4 : DataW.trod enc Tryd.prog w 0 spare held n 3 [c4] = some y4 := h4
    obtain ⟨x_4, g4, _, f4⟩ := DataW.trod_int Tryd.underlying3 h4
    simp only [List.cons.injEq, and_true] at g0
    simp only [List.cons.injEq, and_true] at g1
    simp only [List.cons.injEq, and_true] at g2
    simp only [List.cons.injEq, and_true] at g3
    simp only [List.cons.injEq, and_true] at g4
    obtain rfl := g0
    obtain rfl := g1
    obtain rfl := g2
    obtain rfl := g3
    obtain rfl := g4
    exact ⟨x_0, x_1, x_2, x_3, x_4, rfl, f0, f1, f2, f3, f4⟩
theorem open_28 {H : Type} {enc : TypeId × Value → H} {w : World} {spare : Nat → Bool} {held : Bool} {fuel : Nat} {cs : List Value} {x : DataW H × List MemPlace} (h : DataW.trod enc Tryd.prog w 0 spare held fuel 28 cs = some x) : ∃ v, cs = [v] ∧ SL k23 w v :=
  sl_open Tryd.underlying28 (by kernel_rfl) (fun cs n y hy => by obtain ⟨x_0, x_1, x_2, x_3, x_4, rfl, _, _, _, _, _⟩ := open_23 hy; exact ⟨(⟨x_0, x_1, x_2, x_3, x_4⟩ : S23), k23_mk w (⟨x_0, x_1, x_2, x_3, x_4⟩ : S23)⟩) h
def laidL : List (String × DataW Unit) := [("math/bits.deBruijn32tab", Rows.laid_math_bits_deBruijn32tab), ("math/bits.deBruijn64tab", Rows.laid_math_bits_deBruijn64tab), ("internal/strconv.uint64pow10", Rows.laid_internal_strconv_uint64pow10)]
theorem door_met (os : Os) (args : Array Value) : laidMetH Tryd.prog laidL ((World.doorLaid Tryd.prog 400 os).forCall (fun _ _ => 0) ⟨#[], args, []⟩).memory :=
  laidMetH_of_parts3 (fuel := 8) (laidMet_of_run' 8 (by kernel_rfl) (by kernel_rfl)) (by kernel_rfl) (by kernel_rfl)
theorem tab_of {W : World} (h : laidMetH Tryd.prog laidL W) : TabW W := by
  rw [MakeChecks.laidMetH_plain _ _ _ (by kernel_rfl)] at h
  have h3 := h.tail.tail
  exact Lib.tabIs_of_head (zs := Lib.pow10Tab) (g := 0) (t := 62) (e := 56) (n := 20) (by kernel_rfl) (by kernel_rfl) (by kernel_rfl) (by kernel_rfl) (by kernel_rfl) (by kernel_rfl) h3
set_option maxRecDepth 100000 in
theorem lifted (os : Os) (started : os.Started) (H : Type) (enc : TypeId × Value → H) :
    ReturnsInHanded {} Tryd.checked os 4 .any (fun w args => (Rows.fnExactCodeTextSpec.pre enc Tryd.prog Tryd.f4 [] false w args ∧ laidMetH Tryd.prog laidL w) ∧ sizedMet enc Tryd.prog Tryd.f4 (OpenSpec.ofChange Rows.fnExactCodeTextSpec) false w args) (Rows.fnExactCodeTextSpec.post enc Tryd.prog Tryd.f4 false true false false) := by
  refine returnsInHanded_of_change_and (C := Tryd.checked) (X := fun w _ => laidMetH Tryd.prog laidL w) (fun _ _ _ hh h => h.of_heap hh) own started (by kernel_rfl) Tryd.func4
    (ChangeSpec.witness_shaped (enc := enc) (C := Tryd.checked) (os := os) (X := fun w _ => laidMetH Tryd.prog laidL w) false (World.doorLaid Tryd.prog 400 os) #[.slice none 0 0] 8 rfl (World.shaped_of_RefB (by kernel_rfl) (by kernel_rfl)) (by kernel_rfl) (by kernel_rfl) (by kernel_rfl) (door_met os _)) ?_
  intro W base args ds gs before hval0 hW hcnd hsz0 hL _
  have hT : TabW W := tab_of hL
  have hsz : (DataW.weightsEach Tryd.prog (Tryd.f4.params.toList ++ Rows.fnExactCodeTextSpec.plain.varTypes Tryd.prog) (ds ++ gs)).all (· ≤ reachBytes) = true := hsz0
  have hval : ∀ (j : Nat) t v, Tryd.f4.params[j]? = some t → args[j]? = some v → Value.okWide Tryd.prog W .any base t v := hval0
  have hW' := hW
  obtain ⟨p, q, hA0, hV, rfl, hfz, hnd⟩ := hW
  have hA : DataW.TrodAll enc Tryd.prog W 0 (fun _ => true) true Tryd.f4.params.toList args.toList ds p := hA0
  rw [Tryd.params4] at hA hval hsz
  obtain ⟨v0, vs0, d0, ds0, p0, q0, hargs, rfl, rfl, h0, r0⟩ := trodAll_cons hA
  obtain ⟨rfl, rfl, rfl⟩ := trodAll_nil r0
  obtain rfl : args = #[v0] := by cases args; simp_all
  obtain ⟨rfl, rfl⟩ := trodVars_none hV
  have k0 := h0
  have lt0 : ∀ x ∈ p0, x.block < W.heap.size := by obtain ⟨m, hm⟩ := k0; exact DataW.trod_lt m _ _ _ hm
  obtain ⟨fu0, hf0⟩ := slice_cells Tryd.underlying28 (hval 0 28 v0 rfl rfl) h0
  obtain ⟨u0, g0, A0, c0, l0, e0, hr0, hc0, hm0⟩ := open_28 hf0
  simp only [List.cons.injEq, and_true] at g0
  obtain rfl := g0.trans e0
  clear hA0 hval0 hsz0 hsz
  obtain ⟨k, hP⟩ := Pure.FnExactCodeText l0 hm0
  refine (laws_FnExactCodeText.calls k A0 c0 l0 true W hr0 hc0 hP hT).mono fun e W' ⟨he, bel0⟩ => ?_
  have bel : Below W.heap.size W W' := bel0
  subst he
  exact ⟨_, rfl, _, _, _, [], _, [], hW', trodAll_mk1 (shut_bool Tryd.underlying4 _), (trodAll_cons_mk (Below.trod laidOut (by kernel_rfl) (of_decide_eq_true (by kernel_rfl)) k0 bel lt0) trodAll_mk0), rfl, bel.frame _, fun h => by cases h⟩
theorem over : Rows.fnExactCodeTextRow.holds Tryd.pinned (OpenSpec.ofChange Rows.fnExactCodeTextSpec) :=
  OpenClaim.holds_of_wide 4 Tryd.f4 rfl rfl rfl rfl rfl rfl rfl ⟨rfl, rfl, rfl, rfl, rfl⟩ rfl rfl rfl rfl rfl (by kernel_rfl) Tryd.func4 (by kernel_rfl)
    (of_decide_eq_true (by kernel_rfl)) (by unfold Func.isWrapper; first | (rw [if_pos (by decide +kernel)]; kernel_rfl) | (rw [if_neg (by decide +kernel)]; exact ⟨rfl, rfl⟩))
    (fun os started H enc _ => lifted os started H enc)
theorem proved : Rows.FnExactCodeTextSaid := over
theorem carded : Rows.FnExactCodeTextCardSaid :=
  Claim7.holds_tied_plain_at .later [] [.data, .data, .data] true (true, "e4b6fa25fa1eb6b6c16469e52405ae812b696ab1fb13fb20089998d39165b625") false
    proved (fun _ h => by cases h) (by kernel_rfl) (fun _ h => by cases h) fnExactCodeText_row_tie rfl ⟨rfl, rfl⟩ (by kernel_rfl) rfl
    (fun f fn hf hfn => by
      obtain rfl : f = 4 := Option.some.inj ((show Tryd.prog.funcNamed "loop.example/g00249/laws.FnExactCodeText" = some 4 by kernel_rfl).symm.trans hf) |>.symm
      obtain rfl : fn = Tryd.f4 := (Option.some.inj (Tryd.func4.symm.trans hfn)).symm
      exact ⟨by kernel_rfl, fun j t ht => by
        rw [Tryd.params4] at ht
        have hm : t ∈ [28] := by simpa using Array.mem_of_getElem? ht
        have hall : ([28].all fun u => !Tryd.prog.wantsStandIn u) = true := by kernel_rfl
        exact (show Tryd.prog.wantsStandIn t = false by simpa using List.all_eq_true.1 hall t hm)⟩)
    (by kernel_rfl)
#print axioms proved
end Go.Proofs.YteamcnoabglobaaDoor.fnExactCodeText
namespace Go.Proofs.YteamcnoabglobaaDoor
/-- The row, under a short name, for the claim. -/
theorem fnExactCodeText_holds : Rows.FnExactCodeTextCardSaid := fnExactCodeText.carded
end Go.Proofs.YteamcnoabglobaaDoor
