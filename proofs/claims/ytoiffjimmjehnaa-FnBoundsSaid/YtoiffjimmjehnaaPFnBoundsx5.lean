-- Written by a program of this session (wip/patch.py turns a copy of the kit's print): the functions that the law reaches, and their walks.
import Derived.Test.YtoiffjimmjehnaaPFnBoundsx0
import Derived.Test.YtoiffjimmjehnaaPFnBoundsx1
import Derived.Test.YtoiffjimmjehnaaPFnBoundsx2
import Derived.Test.YtoiffjimmjehnaaPFnBoundsx3
import Derived.Test.YtoiffjimmjehnaaPFnBoundsx4
namespace Go.Proofs.Ytoiffjimmjehnaa.PFnBounds
open Go.RowKit Go.Proofs.YtoiffjimmjehnaaW.PrintWords Go.Proofs.YtoiffjimmjehnaaW.PrintLast Go.Proofs.YtoiffjimmjehnaaW.PrintMore
attribute [local go_sem] max2_int min2_int max_two min_two max_three min_three max_four min_four   -- for this text's walks alone
set_option linter.unusedVariables false
set_option linter.unusedSimpArgs false

attribute [local go_sem high] eqA40
/-! ### laws_FnBounds: function 9 -/
mutual
def laws_FnBounds.j0 : Nat → List Int → Bool → Option (Bool)
  | 0, _, _ => none
  | k + 1, x0, x61 => if x61 = true then (some false) else ((spec_DrawWide.f k x0).bind fun bt260 => ((impl_Wide.f k bt260.1 bt260.2).bind fun bt262 => ((spec_Wide.f k bt260.1 bt260.2).bind fun bt264 => ((spec_DrawExact.f k x0).bind fun bt266 => ((spec_DrawBoundsOk.f k x0).bind fun bt268 => (if bt262.1 = bt264.1 then (if bt262.2 = bt264.2 then ((impl_Exact.f k bt266.1 bt266.2).bind fun t270 => ((spec_Exact.f k bt266.1 bt266.2).bind fun t271 => (if (t270 != t271) = true then (laws_FnBounds.j1 k x0 bt260.1 bt260.2 bt262.1 bt262.2 true) else ((impl_BoundsOk.f bt268.1 bt268.2).bind fun t272 => ((spec_BoundsOk.f bt268.1 bt268.2).bind fun t273 => (laws_FnBounds.j1 k x0 bt260.1 bt260.2 bt262.1 bt262.2 (t272 != t273))))))) else (laws_FnBounds.j1 k x0 bt260.1 bt260.2 bt262.1 bt262.2 true)) else (laws_FnBounds.j1 k x0 bt260.1 bt260.2 bt262.1 bt262.2 true)))))))
def laws_FnBounds.j1 : Nat → List Int → Int → Int → Int → Int → Bool → Option (Bool)
  | 0, _, _, _, _, _, _ => none
  | k + 1, x0, x9, x10, x11, x12, x114 => if x114 = true then (some false) else ((spec_DrawUnpack.f k x0).bind fun bt274 => ((impl_Unpack.f bt274.1 bt274.2.1 bt274.2.2).bind fun bt278 => ((spec_Unpack.f bt274.1 bt274.2.1 bt274.2.2).bind fun bt281 => (if (bt278.2.2 != bt281.2.2) = true then (laws_FnBounds.j2 k x9 x10 x11 x12 true) else (if bt278.2.2 = true then ((impl_BoundsOk.f bt278.1 bt278.2.1).bind fun t284 => (laws_FnBounds.j2 k x9 x10 x11 x12 (!t284))) else (laws_FnBounds.j2 k x9 x10 x11 x12 false))))))
def laws_FnBounds.j2 : Nat → Int → Int → Int → Int → Bool → Option (Bool)
  | 0, _, _, _, _, _ => none
  | k + 1, x9, x10, x11, x12, x140 => if x140 = true then (some false) else ((spec_BoundsOk.f x9 x10).bind fun t285 => (if t285 = true then (if x11 ≤ x9 then (if x10 ≤ x12 then ((impl_Exact.f k x11 x12).bind fun t286 => (if t286 = true then (if (wrap64 (x12 - x11)) ≤ (wrap64 ((wrap64 (x10 - x9)) + 126)) then (some true) else (some ((wrap64 (x12 - x11)) == 4096))) else (some false))) else (some false)) else (some false)) else (if x11 = 0 then (some (x12 == 0)) else (some false))))
end
def laws_FnBounds.f (k : Nat) (l0 : List Int) : Option (Bool) := (laws_big.f l0).bind fun t245 => (if t245 = true then (some true) else ((spec_DrawPack.f k l0).bind fun bt246 => ((impl_Pack.f k bt246.1 bt246.2).bind fun bt248 => ((spec_Pack.f k bt246.1 bt246.2).bind fun bt253 => (if (bt248.2.2.2 != bt253.2.2.2) = true then (laws_FnBounds.j0 k l0 true) else (if (!(bt248.1 == bt253.1) || (!(bt248.2.1 == bt253.2.1) || (!(bt248.2.2.1 == bt253.2.2.1)))) = true then (laws_FnBounds.j0 k l0 true) else ((impl_BoundsOk.f bt246.1 bt246.2).bind fun t258 => ((spec_BoundsOk.f bt246.1 bt246.2).bind fun t259 => (laws_FnBounds.j0 k l0 (t258 != t259))))))))))
theorem laws_FnBounds.mono_l : ∀ k, (∀ y0 y1, LeO (laws_FnBounds.j0 k y0 y1) (laws_FnBounds.j0 (k + 1) y0 y1)) ∧ (∀ y0 y1 y2 y3 y4 y5, LeO (laws_FnBounds.j1 k y0 y1 y2 y3 y4 y5) (laws_FnBounds.j1 (k + 1) y0 y1 y2 y3 y4 y5)) ∧ (∀ y0 y1 y2 y3 y4, LeO (laws_FnBounds.j2 k y0 y1 y2 y3 y4) (laws_FnBounds.j2 (k + 1) y0 y1 y2 y3 y4))
  | 0 => ⟨fun _ _ r h => by simp [laws_FnBounds.j0] at h, fun _ _ _ _ _ _ r h => by simp [laws_FnBounds.j1] at h, fun _ _ _ _ _ r h => by simp [laws_FnBounds.j2] at h⟩
  | k + 1 => by
    obtain ⟨ih0, ih1, ih2⟩ := laws_FnBounds.mono_l k
    refine ⟨?_, ?_, ?_⟩
    · intro y0 y1
      unfold laws_FnBounds.j0
      repeat' first
      | (with_reducible exact ih0 _ _)
      | (with_reducible exact ih1 _ _ _ _ _ _)
      | (with_reducible exact ih2 _ _ _ _ _)
      | (with_reducible exact impl_Exact.mono _ _ _)
      | (with_reducible exact impl_Pack.mono _ _ _)
      | (with_reducible exact impl_Wide.mono _ _ _)
      | (with_reducible exact spec_DrawBoundsOk.mono _ _)
      | (with_reducible exact spec_DrawExact.mono _ _)
      | (with_reducible exact spec_DrawPack.mono _ _)
      | (with_reducible exact spec_DrawUnpack.mono _ _)
      | (with_reducible exact spec_DrawWide.mono _ _)
      | (with_reducible exact spec_Exact.mono _ _ _)
      | (with_reducible exact spec_Pack.mono _ _ _)
      | (with_reducible exact spec_Wide.mono _ _ _)
      | (with_reducible exact LeO.refl _)
      | (with_reducible exact LeO.none _)
      | (with_reducible refine LeO.ite ?_ ?_)
      | (with_reducible refine LeO.bind ?_ (fun _ => ?_))
      | exact ih0 _ _
      | exact ih1 _ _ _ _ _ _
      | exact ih2 _ _ _ _ _
      | exact impl_Exact.mono _ _ _
      | exact impl_Pack.mono _ _ _
      | exact impl_Wide.mono _ _ _
      | exact spec_DrawBoundsOk.mono _ _
      | exact spec_DrawExact.mono _ _
      | exact spec_DrawPack.mono _ _
      | exact spec_DrawUnpack.mono _ _
      | exact spec_DrawWide.mono _ _
      | exact spec_Exact.mono _ _ _
      | exact spec_Pack.mono _ _ _
      | exact spec_Wide.mono _ _ _
      | exact LeO.none _
      | refine LeO.ite ?_ ?_
      | refine LeO.bind ?_ (fun _ => ?_)
    · intro y0 y1 y2 y3 y4 y5
      unfold laws_FnBounds.j1
      repeat' first
      | (with_reducible exact ih0 _ _)
      | (with_reducible exact ih1 _ _ _ _ _ _)
      | (with_reducible exact ih2 _ _ _ _ _)
      | (with_reducible exact impl_Exact.mono _ _ _)
      | (with_reducible exact impl_Pack.mono _ _ _)
      | (with_reducible exact impl_Wide.mono _ _ _)
      | (with_reducible exact spec_DrawBoundsOk.mono _ _)
      | (with_reducible exact spec_DrawExact.mono _ _)
      | (with_reducible exact spec_DrawPack.mono _ _)
      | (with_reducible exact spec_DrawUnpack.mono _ _)
      | (with_reducible exact spec_DrawWide.mono _ _)
      | (with_reducible exact spec_Exact.mono _ _ _)
      | (with_reducible exact spec_Pack.mono _ _ _)
      | (with_reducible exact spec_Wide.mono _ _ _)
      | (with_reducible exact LeO.refl _)
      | (with_reducible exact LeO.none _)
      | (with_reducible refine LeO.ite ?_ ?_)
      | (with_reducible refine LeO.bind ?_ (fun _ => ?_))
      | exact ih0 _ _
      | exact ih1 _ _ _ _ _ _
      | exact ih2 _ _ _ _ _
      | exact impl_Exact.mono _ _ _
      | exact impl_Pack.mono _ _ _
      | exact impl_Wide.mono _ _ _
      | exact spec_DrawBoundsOk.mono _ _
      | exact spec_DrawExact.mono _ _
      | exact spec_DrawPack.mono _ _
      | exact spec_DrawUnpack.mono _ _
      | exact spec_DrawWide.mono _ _
      | exact spec_Exact.mono _ _ _
      | exact spec_Pack.mono _ _ _
      | exact spec_Wide.mono _ _ _
      | exact LeO.none _
      | refine LeO.ite ?_ ?_
      | refine LeO.bind ?_ (fun _ => ?_)
    · intro y0 y1 y2 y3 y4
      unfold laws_FnBounds.j2
      repeat' first
      | (with_reducible exact ih0 _ _)
      | (with_reducible exact ih1 _ _ _ _ _ _)
      | (with_reducible exact ih2 _ _ _ _ _)
      | (with_reducible exact impl_Exact.mono _ _ _)
      | (with_reducible exact impl_Pack.mono _ _ _)
      | (with_reducible exact impl_Wide.mono _ _ _)
      | (with_reducible exact spec_DrawBoundsOk.mono _ _)
      | (with_reducible exact spec_DrawExact.mono _ _)
      | (with_reducible exact spec_DrawPack.mono _ _)
      | (with_reducible exact spec_DrawUnpack.mono _ _)
      | (with_reducible exact spec_DrawWide.mono _ _)
      | (with_reducible exact spec_Exact.mono _ _ _)
      | (with_reducible exact spec_Pack.mono _ _ _)
      | (with_reducible exact spec_Wide.mono _ _ _)
      | (with_reducible exact LeO.refl _)
      | (with_reducible exact LeO.none _)
      | (with_reducible refine LeO.ite ?_ ?_)
      | (with_reducible refine LeO.bind ?_ (fun _ => ?_))
      | exact ih0 _ _
      | exact ih1 _ _ _ _ _ _
      | exact ih2 _ _ _ _ _
      | exact impl_Exact.mono _ _ _
      | exact impl_Pack.mono _ _ _
      | exact impl_Wide.mono _ _ _
      | exact spec_DrawBoundsOk.mono _ _
      | exact spec_DrawExact.mono _ _
      | exact spec_DrawPack.mono _ _
      | exact spec_DrawUnpack.mono _ _
      | exact spec_DrawWide.mono _ _
      | exact spec_Exact.mono _ _ _
      | exact spec_Pack.mono _ _ _
      | exact spec_Wide.mono _ _ _
      | exact LeO.none _
      | refine LeO.ite ?_ ?_
      | refine LeO.bind ?_ (fun _ => ?_)
theorem laws_FnBounds.mono : ∀ a0 k, LeO (laws_FnBounds.f k a0) (laws_FnBounds.f (k + 1) a0) := by
  intro a0 k
  obtain ⟨ih0, ih1, ih2⟩ := laws_FnBounds.mono_l k
  unfold laws_FnBounds.f
  repeat' first
      | (with_reducible exact ih0 _ _)
      | (with_reducible exact ih1 _ _ _ _ _ _)
      | (with_reducible exact ih2 _ _ _ _ _)
      | (with_reducible exact impl_Exact.mono _ _ _)
      | (with_reducible exact impl_Pack.mono _ _ _)
      | (with_reducible exact impl_Wide.mono _ _ _)
      | (with_reducible exact spec_DrawBoundsOk.mono _ _)
      | (with_reducible exact spec_DrawExact.mono _ _)
      | (with_reducible exact spec_DrawPack.mono _ _)
      | (with_reducible exact spec_DrawUnpack.mono _ _)
      | (with_reducible exact spec_DrawWide.mono _ _)
      | (with_reducible exact spec_Exact.mono _ _ _)
      | (with_reducible exact spec_Pack.mono _ _ _)
      | (with_reducible exact spec_Wide.mono _ _ _)
      | (with_reducible exact LeO.refl _)
      | (with_reducible exact LeO.none _)
      | (with_reducible refine LeO.ite ?_ ?_)
      | (with_reducible refine LeO.bind ?_ (fun _ => ?_))
      | exact ih0 _ _
      | exact ih1 _ _ _ _ _ _
      | exact ih2 _ _ _ _ _
      | exact impl_Exact.mono _ _ _
      | exact impl_Pack.mono _ _ _
      | exact impl_Wide.mono _ _ _
      | exact spec_DrawBoundsOk.mono _ _
      | exact spec_DrawExact.mono _ _
      | exact spec_DrawPack.mono _ _
      | exact spec_DrawUnpack.mono _ _
      | exact spec_DrawWide.mono _ _
      | exact spec_Exact.mono _ _ _
      | exact spec_Pack.mono _ _ _
      | exact spec_Wide.mono _ _ _
      | exact LeO.none _
      | refine LeO.ite ?_ ?_
      | refine LeO.bind ?_ (fun _ => ?_)
set_option maxHeartbeats 8000000 in
set_option maxRecDepth 100000 in
theorem laws_FnBounds.calls (k : Nat) (A0 : Option Addr) (c0 : Nat) (l0 : List Int) (r : Bool) (w : World) (hr0 : Kd.C (Kd.int .u8) w A0 l0.length l0) (hc0 : l0.length ≤ c0) (h : laws_FnBounds.f k l0 = some r) :
    Calls Try.prog 9 #[.slice A0 l0.length c0] w fun e w' => e = .returned (.bool r) ∧ Below w.heap.size w w' := by
  have hu40 := Try.underlying40
  have HR0 := Aside0.mk hr0
  have HC0 := Aside0.mk hc0
  clear hr0 hc0
  have HB := Aside0.mk (Below.refl w.heap.size w)
  have H : ((laws_big.f l0).bind fun t245 => (if t245 = true then (some true) else ((spec_DrawPack.f k l0).bind fun bt246 => ((impl_Pack.f k bt246.1 bt246.2).bind fun bt248 => ((spec_Pack.f k bt246.1 bt246.2).bind fun bt253 => (if (bt248.2.2.2 != bt253.2.2.2) = true then (laws_FnBounds.j0 k l0 true) else (if (!(bt248.1 == bt253.1) || (!(bt248.2.1 == bt253.2.1) || (!(bt248.2.2.1 == bt253.2.2.1)))) = true then (laws_FnBounds.j0 k l0 true) else ((impl_BoundsOk.f bt246.1 bt246.2).bind fun t258 => ((spec_BoundsOk.f bt246.1 bt246.2).bind fun t259 => (laws_FnBounds.j0 k l0 (t258 != t259))))))))))) = some r := h
  clear h
  replace H := Option.bind_eq_some_iff.mp H
  obtain ⟨t245, A20, H⟩ := H
  replace H : (if t245 = true then (some true) else ((spec_DrawPack.f k l0).bind fun bt246 => ((impl_Pack.f k bt246.1 bt246.2).bind fun bt248 => ((spec_Pack.f k bt246.1 bt246.2).bind fun bt253 => (if (bt248.2.2.2 != bt253.2.2.2) = true then (laws_FnBounds.j0 k l0 true) else (if (!(bt248.1 == bt253.1) || (!(bt248.2.1 == bt253.2.1) || (!(bt248.2.2.1 == bt253.2.2.1)))) = true then (laws_FnBounds.j0 k l0 true) else ((impl_BoundsOk.f bt246.1 bt246.2).bind fun t258 => ((spec_BoundsOk.f bt246.1 bt246.2).bind fun t259 => (laws_FnBounds.j0 k l0 (t258 != t259)))))))))) = some r := H
  have A2 := Aside0.mk A20
  clear A20
  by_cases c3 : t245 = true
  · subst c3
    have H1 : (some true) = some r := by rw [if_pos rfl] at H; exact H
    clear H
    have H := H1
    clear H1
    obtain rfl := Option.some.inj H
    go_enter Try.func9, Try.ntmps9
    go_wp2_with (first | ((with_reducible refine gate_callee (f := 29) rfl ?_); refine goesL_ (some 27) rfl rfl Try.func29 (by kernel_rfl) rfl #[.slice A0 l0.length c0] rfl (by (try simp only [List.map_toArray, List.map_cons, List.map_nil]); first | done | rfl | (simp only [List.length_drop, List.length_take]; rfl)) ?_; (with_reducible refine (laws_big.calls _ _ l0 true _ ?side1 ?side2 A2.out).mono ?_); (case side1 => repeat (first | exact HR0.out | (with_reducible refine Kd.C_alloc ?_ _) | (with_reducible refine Kd.C_drewN ?_ _) | (with_reducible refine Kd.C_drew ?_))); (case side2 => exact HC0.out); rintro e w' ⟨rfl, ⟨nd, rfl⟩⟩; refine ⟨_, rfl, ?_⟩))
    go_ret
    exact ⟨by first | rfl | (simp [errW_none, errW_some] <;> rfl) | (simp [*, errW_none, errW_some] <;> rfl), by repeat (first | (with_reducible first | exact HB.out | apply below_alloc | apply pw_below_drewN | apply below_drew1) | exact HB.out)⟩
  · replace c3 := Bool.eq_false_iff.mpr c3
    subst c3
    have H1 : ((spec_DrawPack.f k l0).bind fun bt246 => ((impl_Pack.f k bt246.1 bt246.2).bind fun bt248 => ((spec_Pack.f k bt246.1 bt246.2).bind fun bt253 => (if (bt248.2.2.2 != bt253.2.2.2) = true then (laws_FnBounds.j0 k l0 true) else (if (!(bt248.1 == bt253.1) || (!(bt248.2.1 == bt253.2.1) || (!(bt248.2.2.1 == bt253.2.2.1)))) = true then (laws_FnBounds.j0 k l0 true) else ((impl_BoundsOk.f bt246.1 bt246.2).bind fun t258 => ((spec_BoundsOk.f bt246.1 bt246.2).bind fun t259 => (laws_FnBounds.j0 k l0 (t258 != t259))))))))) = some r := by rw [if_neg (show ¬ (false = true) by decide)] at H; exact H
    clear H
    have H := H1
    clear H1
    replace H := Option.bind_eq_some_iff.mp H
    obtain ⟨⟨t246, t247⟩, A40, H⟩ := H
    replace H : ((impl_Pack.f k t246 t247).bind fun bt248 => ((spec_Pack.f k t246 t247).bind fun bt253 => (if (bt248.2.2.2 != bt253.2.2.2) = true then (laws_FnBounds.j0 k l0 true) else (if (!(bt248.1 == bt253.1) || (!(bt248.2.1 == bt253.2.1) || (!(bt248.2.2.1 == bt253.2.2.1)))) = true then (laws_FnBounds.j0 k l0 true) else ((impl_BoundsOk.f t246 t247).bind fun t258 => ((spec_BoundsOk.f t246 t247).bind fun t259 => (laws_FnBounds.j0 k l0 (t258 != t259)))))))) = some r := H
    have A4 := Aside0.mk A40
    clear A40
    replace H := Option.bind_eq_some_iff.mp H
    obtain ⟨⟨t248, t249, t250, t251⟩, A50, H⟩ := H
    replace H : ((spec_Pack.f k t246 t247).bind fun bt253 => (if (t251 != bt253.2.2.2) = true then (laws_FnBounds.j0 k l0 true) else (if (!(t248 == bt253.1) || (!(t249 == bt253.2.1) || (!(t250 == bt253.2.2.1)))) = true then (laws_FnBounds.j0 k l0 true) else ((impl_BoundsOk.f t246 t247).bind fun t258 => ((spec_BoundsOk.f t246 t247).bind fun t259 => (laws_FnBounds.j0 k l0 (t258 != t259))))))) = some r := H
    have A5 := Aside0.mk A50
    clear A50
    replace H := Option.bind_eq_some_iff.mp H
    obtain ⟨⟨t253, t254, t255, t256⟩, A60, H⟩ := H
    replace H : (if (t251 != t256) = true then (laws_FnBounds.j0 k l0 true) else (if (!(t248 == t253) || (!(t249 == t254) || (!(t250 == t255)))) = true then (laws_FnBounds.j0 k l0 true) else ((impl_BoundsOk.f t246 t247).bind fun t258 => ((spec_BoundsOk.f t246 t247).bind fun t259 => (laws_FnBounds.j0 k l0 (t258 != t259)))))) = some r := H
    have A6 := Aside0.mk A60
    clear A60
    have HC7 := Aside0.mk H
    clear H
    go_enter Try.func9, Try.ntmps9
    go_upto_region 6 with (first | ((with_reducible refine gate_callee (f := 29) rfl ?_); refine goesL_ (some 27) rfl rfl Try.func29 (by kernel_rfl) rfl #[.slice A0 l0.length c0] rfl (by (try simp only [List.map_toArray, List.map_cons, List.map_nil]); first | done | rfl | (simp only [List.length_drop, List.length_take]; rfl)) ?_; (with_reducible refine (laws_big.calls _ _ l0 false _ ?side1 ?side2 A2.out).mono ?_); (case side1 => repeat (first | exact HR0.out | (with_reducible refine Kd.C_alloc ?_ _) | (with_reducible refine Kd.C_drewN ?_ _) | (with_reducible refine Kd.C_drew ?_))); (case side2 => exact HC0.out); rintro e w' ⟨rfl, ⟨nd, rfl⟩⟩; refine ⟨_, rfl, ?_⟩) | ((with_reducible refine gate_callee (f := 30) rfl ?_); refine goesL_ (some 30) rfl rfl Try.func30 (by kernel_rfl) rfl #[.slice A0 l0.length c0] rfl (by (try simp only [List.map_toArray, List.map_cons, List.map_nil]); first | done | rfl | (simp only [List.length_drop, List.length_take]; rfl)) ?_; (with_reducible refine (spec_DrawPack.calls k _ _ l0 t246 t247 _ ?side1 ?side2 A4.out).mono ?_); (case side1 => repeat (first | exact HR0.out | (with_reducible refine Kd.C_alloc ?_ _) | (with_reducible refine Kd.C_drewN ?_ _) | (with_reducible refine Kd.C_drew ?_))); (case side2 => exact HC0.out); rintro e w8 ⟨rfl, hb⟩; refine ⟨_, rfl, ?_⟩; have n0_ := Aside0.mk (below_step (by repeat (first | (with_reducible first | exact HB.out | apply below_alloc | apply pw_below_drewN | apply below_drew1) | exact HB.out)) hb); clear HB; have HB := n0_; clear n0_; (try clear hb); (try clear hb2); (try clear hk); (try clear hi)) | ((with_reducible refine gate_callee (f := 31) rfl ?_); refine goesL_ (some 36) rfl rfl Try.func31 (by kernel_rfl) rfl #[.int .i64 t246, .int .i64 t247] rfl (by (try simp only [List.map_toArray, List.map_cons, List.map_nil]); first | done | rfl | (simp only [List.length_drop, List.length_take]; rfl)) ?_; (with_reducible refine (impl_Pack.calls k t246 t247 t248 t249 t250 t251 _ A5.out).mono ?_); rintro e w9 ⟨rfl, hb⟩; refine ⟨_, rfl, ?_⟩; have n0_ := Aside0.mk (below_step (by repeat (first | (with_reducible first | exact HB.out | apply below_alloc | apply pw_below_drewN | apply below_drew1) | exact HB.out)) hb); clear HB; have HB := n0_; clear n0_; (try clear hb); (try clear hb2); (try clear hk); (try clear hi)) | ((with_reducible refine gate_dst (N := 5) rfl ?_); refine box_event ?hg (N := 5) ?hd (cs := #[.int .i64 0, .int .i64 0, .int .i64 0]) (t := 40) ?hr ?_; (case hd => rfl); (case hg => rfl); (case hr => first | (go_simp; done) | (go_simp; rfl)); intro gb252 hg w10 hbox hb; have n0_ := Aside0.mk (below_step (by repeat (first | (with_reducible first | exact HB.out | apply below_alloc | apply pw_below_drewN | apply below_drew1) | exact HB.out)) hb); have n1_ := Aside0.mk (hbox); have n2_ := Aside0.mk ((by rw [hg]; exact (below_size (by repeat (first | (with_reducible first | exact HB.out | apply below_alloc | apply pw_below_drewN | apply below_drew1) | exact HB.out))) : w.heap.size ≤ gb252)); have n3_ := Aside0.mk ((by rw [hg]; exact (below_size (by repeat (first | (with_reducible first | exact HB.out | apply below_alloc | apply pw_below_drewN | apply below_drew1) | exact HB.out))) : w.heap.size ≤ gb252)); clear HB; have HB := n0_; have BK252 := n1_; have GW252 := n2_; have GE252 := n3_; clear n0_ n1_ n2_ n3_; clear hb hbox hg; have hcz11_0 : w10.cell? ⟨gb252, 0, none⟩ = some (.int .i64 0) := (blk_cell BK252.out 0).trans rfl; have hcz11_1 : w10.cell? ⟨gb252, 1, none⟩ = some (.int .i64 0) := (blk_cell BK252.out 1).trans rfl; have hcz11_2 : w10.cell? ⟨gb252, 2, none⟩ = some (.int .i64 0) := (blk_cell BK252.out 2).trans rfl; have hfz11_0 := blk_frozen BK252.out 0; have hfz11_1 := blk_frozen BK252.out 1; have hfz11_2 := blk_frozen BK252.out 2) | ((with_reducible refine gate_callee (f := 32) rfl ?_); refine goesL_ (some 42) rfl rfl Try.func32 (by kernel_rfl) rfl #[.int .i64 t246, .int .i64 t247] rfl (by (try simp only [List.map_toArray, List.map_cons, List.map_nil]); first | done | rfl | (simp only [List.length_drop, List.length_take]; rfl)) ?_; (with_reducible refine (spec_Pack.calls k t246 t247 t253 t254 t255 t256 _ A6.out).mono ?_); rintro e w12 ⟨rfl, hb⟩; refine ⟨_, rfl, ?_⟩; have n0_ := Aside0.mk (blk_below (g := gb252) (o := .cells #[.int .i64 t248, .int .i64 t249, .int .i64 t250] 40 (0, 0)) (by (with_reducible repeat (first | refine blk_drewN ?_ _ | refine blk_drew ?_ | refine blk_alloc ?_ _)); refine blk_put (cs := #[.int .i64 t248, .int .i64 t249, .int .i64 0]) ?_ 2 _ rfl; (with_reducible repeat (first | refine blk_drewN ?_ _ | refine blk_drew ?_ | refine blk_alloc ?_ _)); refine blk_put (cs := #[.int .i64 t248, .int .i64 0, .int .i64 0]) ?_ 1 _ rfl; (with_reducible repeat (first | refine blk_drewN ?_ _ | refine blk_drew ?_ | refine blk_alloc ?_ _)); refine blk_put (cs := #[.int .i64 0, .int .i64 0, .int .i64 0]) ?_ 0 _ rfl; (with_reducible repeat (first | refine blk_drewN ?_ _ | refine blk_drew ?_ | refine blk_alloc ?_ _)); exact BK252.out) hb); have n1_ := Aside0.mk (below_step (by repeat (first | (with_reducible first | exact HB.out | apply below_alloc | apply pw_below_drewN | apply below_drew1 | refine below_set ?_ GE252.out) | exact HB.out)) hb); clear BK252; clear HB; have BK252 := n0_; have HB := n1_; clear n0_ n1_; (try clear hb); (try clear hb2); (try clear hk); (try clear hi)) | ((with_reducible refine gate_dst (N := 7) rfl ?_); refine box_event ?hg (N := 7) ?hd (cs := #[.int .i64 0, .int .i64 0, .int .i64 0]) (t := 40) ?hr ?_; (case hd => rfl); (case hg => rfl); (case hr => first | (go_simp; done) | (go_simp; rfl)); intro gb257 hg w13 hbox hb; have n0_ := Aside0.mk (blk_below (g := gb252) (o := .cells #[.int .i64 t248, .int .i64 t249, .int .i64 t250] 40 (0, 0)) (by (with_reducible repeat (first | refine blk_drewN ?_ _ | refine blk_drew ?_ | refine blk_alloc ?_ _)); exact BK252.out) hb); have n1_ := Aside0.mk (below_step (by repeat (first | (with_reducible first | exact HB.out | apply below_alloc | apply pw_below_drewN | apply below_drew1 | refine below_set ?_ GE252.out) | exact HB.out)) hb); have n2_ := Aside0.mk (hbox); have n3_ := Aside0.mk ((by rw [hg]; exact (below_size (by repeat (first | (with_reducible first | exact HB.out | apply below_alloc | apply pw_below_drewN | apply below_drew1 | refine below_set ?_ GE252.out) | exact HB.out))) : w.heap.size ≤ gb257)); have n4_ := Aside0.mk ((by rw [hg]; exact (below_size (by repeat (first | (with_reducible first | exact HB.out | apply below_alloc | apply pw_below_drewN | apply below_drew1 | refine below_set ?_ GE252.out) | exact HB.out))) : w.heap.size ≤ gb257)); have n5_ := Aside0.mk ((by rw [hg]; exact Nat.ne_of_lt (blk_lt (g := gb252) (o := .cells #[.int .i64 t248, .int .i64 t249, .int .i64 t250] 40 (0, 0)) (by (with_reducible repeat (first | refine blk_drewN ?_ _ | refine blk_drew ?_ | refine blk_alloc ?_ _)); exact BK252.out)) : gb252 ≠ gb257)); have n6_ := Aside0.mk ((by rw [hg]; exact Nat.ne_of_gt (blk_lt (g := gb252) (o := .cells #[.int .i64 t248, .int .i64 t249, .int .i64 t250] 40 (0, 0)) (by (with_reducible repeat (first | refine blk_drewN ?_ _ | refine blk_drew ?_ | refine blk_alloc ?_ _)); exact BK252.out)) : gb257 ≠ gb252)); clear BK252; clear HB; have BK252 := n0_; have HB := n1_; have BK257 := n2_; have GW257 := n3_; have GE257 := n4_; have NB252_257 := n5_; have NB257_252 := n6_; clear n0_ n1_ n2_ n3_ n4_ n5_ n6_; clear hb hbox hg; have hnb14 := NB257_252.out; have hnc14 := NB252_257.out; have hcz15_0 : w13.cell? ⟨gb257, 0, none⟩ = some (.int .i64 0) := (blk_cell BK257.out 0).trans rfl; have hcz15_1 : w13.cell? ⟨gb257, 1, none⟩ = some (.int .i64 0) := (blk_cell BK257.out 1).trans rfl; have hcz15_2 : w13.cell? ⟨gb257, 2, none⟩ = some (.int .i64 0) := (blk_cell BK257.out 2).trans rfl; have hfz15_0 := blk_frozen BK257.out 0; have hfz15_1 := blk_frozen BK257.out 1; have hfz15_2 := blk_frozen BK257.out 2))
    (try simp only [Act.put, List.setIfInBounds_toArray, List.set_cons_zero, List.set_cons_succ])
    go_cut [61] (fun v61 wc => ∃ (kq : Nat) (x61_6 : Bool), v61 = .bool x61_6 ∧ Aside0 (laws_FnBounds.j0 kq l0 x61_6 = some r) ∧ Aside0 (kq ≤ k) ∧ Aside0 (wc.heap[gb252]? = some (.cells #[.int .i64 t248, .int .i64 t249, .int .i64 t250] 40 (0, 0))) ∧ Aside0 (wc.heap[gb257]? = some (.cells #[.int .i64 t253, .int .i64 t254, .int .i64 t255] 40 (0, 0))) ∧ Aside0 (Below w.heap.size w wc))
    case first =>
      have H := HC7.out
      clear HC7
      by_cases c16 : (t251 != t256) = true
      · rw [if_pos c16] at H
        have c16b0 : (t251 != t256) = true := c16
        (try (have c16b1 : decide (t251 = t256) = false := by simpa using c16))
        (try (have c16b2 : (t251 == t256) = false := by simpa using c16))
        (try (have c16b3 : ¬ (t251 = t256) := by simpa using c16))
        clear c16
        (first | rw [c16b0] | (simp only [i64_w, i32_w]; rw [c16b0]) | skip)
        have H' := Aside0.mk H
        clear H
        go_wp2
        go_meet
        case rel => exact ⟨_, (true), (by first | rfl | (simp; done) | (simp [*]; done)), H', ⟨by first | omega | exact Nat.le_refl _⟩, ⟨by (with_reducible repeat (first | refine blk_drewN ?_ _ | refine blk_drew ?_ | refine blk_alloc ?_ _)); refine blk_far ?_ NB252_257.out _; (with_reducible repeat (first | refine blk_drewN ?_ _ | refine blk_drew ?_ | refine blk_alloc ?_ _)); refine blk_far ?_ NB252_257.out _; (with_reducible repeat (first | refine blk_drewN ?_ _ | refine blk_drew ?_ | refine blk_alloc ?_ _)); refine blk_far ?_ NB252_257.out _; (with_reducible repeat (first | refine blk_drewN ?_ _ | refine blk_drew ?_ | refine blk_alloc ?_ _)); exact BK252.out⟩, ⟨by (with_reducible repeat (first | refine blk_drewN ?_ _ | refine blk_drew ?_ | refine blk_alloc ?_ _)); refine blk_put (cs := #[.int .i64 t253, .int .i64 t254, .int .i64 0]) ?_ 2 _ rfl; (with_reducible repeat (first | refine blk_drewN ?_ _ | refine blk_drew ?_ | refine blk_alloc ?_ _)); refine blk_put (cs := #[.int .i64 t253, .int .i64 0, .int .i64 0]) ?_ 1 _ rfl; (with_reducible repeat (first | refine blk_drewN ?_ _ | refine blk_drew ?_ | refine blk_alloc ?_ _)); refine blk_put (cs := #[.int .i64 0, .int .i64 0, .int .i64 0]) ?_ 0 _ rfl; (with_reducible repeat (first | refine blk_drewN ?_ _ | refine blk_drew ?_ | refine blk_alloc ?_ _)); exact BK257.out⟩, ⟨by repeat (first | (with_reducible first | exact HB.out | apply below_alloc | apply pw_below_drewN | apply below_drew1 | refine below_set ?_ GE252.out | refine below_set ?_ GE257.out) | exact HB.out)⟩⟩
      · rw [if_neg c16] at H
        have c16b0 : (t251 != t256) = false := by simpa using c16
        (try (have c16b1 : decide (t251 = t256) = true := by simpa using c16))
        (try (have c16b2 : (t251 == t256) = true := by simpa using c16))
        clear c16
        (first | rw [c16b0] | (simp only [i64_w, i32_w]; rw [c16b0]) | skip)
        by_cases c17 : (!(t248 == t253) || (!(t249 == t254) || (!(t250 == t255)))) = true
        · rw [if_pos c17] at H
          have c17b0 : (!(t248 == t253) || (!(t249 == t254) || (!(t250 == t255)))) = true := c17
          clear c17
          have H' := Aside0.mk H
          clear H
          have hnb18 := NB252_257.out
          have hnc18 := NB257_252.out
          have hcz19_0 : w13.cell? ⟨gb252, 0, none⟩ = some (.int .i64 t248) := (blk_cell BK252.out 0).trans rfl
          have hcz19_1 : w13.cell? ⟨gb252, 1, none⟩ = some (.int .i64 t249) := (blk_cell BK252.out 1).trans rfl
          have hcz19_2 : w13.cell? ⟨gb252, 2, none⟩ = some (.int .i64 t250) := (blk_cell BK252.out 2).trans rfl
          have hfz19_0 := blk_frozen BK252.out 0
          have hfz19_1 := blk_frozen BK252.out 1
          have hfz19_2 := blk_frozen BK252.out 2
          have hcz20_0 : w13.cell? ⟨gb257, 0, none⟩ = some (.int .i64 0) := (blk_cell BK257.out 0).trans rfl
          have hcz20_1 : w13.cell? ⟨gb257, 1, none⟩ = some (.int .i64 0) := (blk_cell BK257.out 1).trans rfl
          have hcz20_2 : w13.cell? ⟨gb257, 2, none⟩ = some (.int .i64 0) := (blk_cell BK257.out 2).trans rfl
          have hfz20_0 := blk_frozen BK257.out 0
          have hfz20_1 := blk_frozen BK257.out 1
          have hfz20_2 := blk_frozen BK257.out 2
          go_wp2
          go_meet
          case rel => exact ⟨_, (true), (by first | rfl | (simp; done) | (simp [*]; done)), H', ⟨by first | omega | exact Nat.le_refl _⟩, ⟨by (with_reducible repeat (first | refine blk_drewN ?_ _ | refine blk_drew ?_ | refine blk_alloc ?_ _)); refine blk_far ?_ NB252_257.out _; (with_reducible repeat (first | refine blk_drewN ?_ _ | refine blk_drew ?_ | refine blk_alloc ?_ _)); refine blk_far ?_ NB252_257.out _; (with_reducible repeat (first | refine blk_drewN ?_ _ | refine blk_drew ?_ | refine blk_alloc ?_ _)); refine blk_far ?_ NB252_257.out _; (with_reducible repeat (first | refine blk_drewN ?_ _ | refine blk_drew ?_ | refine blk_alloc ?_ _)); exact BK252.out⟩, ⟨by (with_reducible repeat (first | refine blk_drewN ?_ _ | refine blk_drew ?_ | refine blk_alloc ?_ _)); refine blk_put (cs := #[.int .i64 t253, .int .i64 t254, .int .i64 0]) ?_ 2 _ rfl; (with_reducible repeat (first | refine blk_drewN ?_ _ | refine blk_drew ?_ | refine blk_alloc ?_ _)); refine blk_put (cs := #[.int .i64 t253, .int .i64 0, .int .i64 0]) ?_ 1 _ rfl; (with_reducible repeat (first | refine blk_drewN ?_ _ | refine blk_drew ?_ | refine blk_alloc ?_ _)); refine blk_put (cs := #[.int .i64 0, .int .i64 0, .int .i64 0]) ?_ 0 _ rfl; (with_reducible repeat (first | refine blk_drewN ?_ _ | refine blk_drew ?_ | refine blk_alloc ?_ _)); exact BK257.out⟩, ⟨by repeat (first | (with_reducible first | exact HB.out | apply below_alloc | apply pw_below_drewN | apply below_drew1 | refine below_set ?_ GE252.out | refine below_set ?_ GE257.out) | exact HB.out)⟩⟩
        · rw [if_neg c17] at H
          have c17b0 : (!(t248 == t253) || (!(t249 == t254) || (!(t250 == t255)))) = false := by simpa using c17
          clear c17
          replace H := Option.bind_eq_some_iff.mp H
          obtain ⟨t258, A210, H⟩ := H
          replace H : ((spec_BoundsOk.f t246 t247).bind fun t259 => (laws_FnBounds.j0 k l0 (t258 != t259))) = some r := H
          have A21 := Aside0.mk A210
          clear A210
          replace H := Option.bind_eq_some_iff.mp H
          obtain ⟨t259, A220, H⟩ := H
          replace H : (laws_FnBounds.j0 k l0 (t258 != t259)) = some r := H
          have A22 := Aside0.mk A220
          clear A220
          have H' := Aside0.mk H
          clear H
          have hnb23 := NB252_257.out
          have hnc23 := NB257_252.out
          have hcz24_0 : w13.cell? ⟨gb252, 0, none⟩ = some (.int .i64 t248) := (blk_cell BK252.out 0).trans rfl
          have hcz24_1 : w13.cell? ⟨gb252, 1, none⟩ = some (.int .i64 t249) := (blk_cell BK252.out 1).trans rfl
          have hcz24_2 : w13.cell? ⟨gb252, 2, none⟩ = some (.int .i64 t250) := (blk_cell BK252.out 2).trans rfl
          have hfz24_0 := blk_frozen BK252.out 0
          have hfz24_1 := blk_frozen BK252.out 1
          have hfz24_2 := blk_frozen BK252.out 2
          have hcz25_0 : w13.cell? ⟨gb257, 0, none⟩ = some (.int .i64 0) := (blk_cell BK257.out 0).trans rfl
          have hcz25_1 : w13.cell? ⟨gb257, 1, none⟩ = some (.int .i64 0) := (blk_cell BK257.out 1).trans rfl
          have hcz25_2 : w13.cell? ⟨gb257, 2, none⟩ = some (.int .i64 0) := (blk_cell BK257.out 2).trans rfl
          have hfz25_0 := blk_frozen BK257.out 0
          have hfz25_1 := blk_frozen BK257.out 1
          have hfz25_2 := blk_frozen BK257.out 2
          go_wp2_with (first | (go_at_call 16; (with_reducible refine (impl_BoundsOk.calls t246 t247 t258 _ A21.out).mono ?_); rintro e w' ⟨rfl, ⟨nd, rfl⟩⟩) | (go_at_call 15; (with_reducible refine (spec_BoundsOk.calls t246 t247 t259 _ A22.out).mono ?_); rintro e w' ⟨rfl, ⟨nd, rfl⟩⟩))
          go_meet
          case rel => exact ⟨_, ((t258 != t259)), (by first | rfl | (simp; done) | (simp [*]; done)), H', ⟨by first | omega | exact Nat.le_refl _⟩, ⟨by (with_reducible repeat (first | refine blk_drewN ?_ _ | refine blk_drew ?_ | refine blk_alloc ?_ _)); refine blk_far ?_ NB252_257.out _; (with_reducible repeat (first | refine blk_drewN ?_ _ | refine blk_drew ?_ | refine blk_alloc ?_ _)); refine blk_far ?_ NB252_257.out _; (with_reducible repeat (first | refine blk_drewN ?_ _ | refine blk_drew ?_ | refine blk_alloc ?_ _)); refine blk_far ?_ NB252_257.out _; (with_reducible repeat (first | refine blk_drewN ?_ _ | refine blk_drew ?_ | refine blk_alloc ?_ _)); exact BK252.out⟩, ⟨by (with_reducible repeat (first | refine blk_drewN ?_ _ | refine blk_drew ?_ | refine blk_alloc ?_ _)); refine blk_put (cs := #[.int .i64 t253, .int .i64 t254, .int .i64 0]) ?_ 2 _ rfl; (with_reducible repeat (first | refine blk_drewN ?_ _ | refine blk_drew ?_ | refine blk_alloc ?_ _)); refine blk_put (cs := #[.int .i64 t253, .int .i64 0, .int .i64 0]) ?_ 1 _ rfl; (with_reducible repeat (first | refine blk_drewN ?_ _ | refine blk_drew ?_ | refine blk_alloc ?_ _)); refine blk_put (cs := #[.int .i64 0, .int .i64 0, .int .i64 0]) ?_ 0 _ rfl; (with_reducible repeat (first | refine blk_drewN ?_ _ | refine blk_drew ?_ | refine blk_alloc ?_ _)); exact BK257.out⟩, ⟨by repeat (first | (with_reducible first | exact HB.out | apply below_alloc | apply pw_below_drewN | apply below_drew1 | refine below_set ?_ GE252.out | refine below_set ?_ GE257.out) | exact HB.out)⟩⟩
    case rest =>
      clear HC7
      try clear c1
      try clear c2
      try clear p2
      try clear c3
      try clear c9
      try clear c14
      try clear c16
      try clear c16b0
      try clear c16b1
      try clear c16b2
      try clear c17
      try clear c17b0
      try clear c18
      try clear c23
      try clear hcz11_0
      try clear hcz11_1
      try clear hcz11_2
      try clear hcz15_0
      try clear hcz15_1
      try clear hcz15_2
      try clear hcz19_0
      try clear hcz19_1
      try clear hcz19_2
      try clear hcz20_0
      try clear hcz20_1
      try clear hcz20_2
      try clear hcz24_0
      try clear hcz24_1
      try clear hcz24_2
      try clear hcz25_0
      try clear hcz25_1
      try clear hcz25_2
      try clear hfz11_0
      try clear hfz11_1
      try clear hfz11_2
      try clear hfz15_0
      try clear hfz15_1
      try clear hfz15_2
      try clear hfz19_0
      try clear hfz19_1
      try clear hfz19_2
      try clear hfz20_0
      try clear hfz20_1
      try clear hfz20_2
      try clear hfz24_0
      try clear hfz24_1
      try clear hfz24_2
      try clear hfz25_0
      try clear hfz25_1
      try clear hfz25_2
      obtain ⟨kq, x61_6, rfl, HA, HJ6, BK252, BK257, HB⟩ := hcut
      cases kq with
      | zero => exact absurd HA.out (by simp [laws_FnBounds.j0])
      | succ kj6 =>
        have H := HA.out
        clear HA
        simp only [laws_FnBounds.j0] at H
        by_cases c26 : x61_6 = true
        · subst c26
          have H1 : (some false) = some r := by rw [if_pos rfl] at H; exact H
          clear H
          have H := H1
          clear H1
          obtain rfl := Option.some.inj H
          go_wp2
          go_ret
          exact ⟨by first | rfl | (simp [errW_none, errW_some] <;> rfl) | (simp [*, errW_none, errW_some] <;> rfl), by repeat (first | (with_reducible first | exact HB.out | apply below_alloc | apply pw_below_drewN | apply below_drew1 | refine below_set ?_ GE252.out | refine below_set ?_ GE257.out) | exact HB.out)⟩
        · replace c26 := Bool.eq_false_iff.mpr c26
          subst c26
          have H1 : ((spec_DrawWide.f kj6 l0).bind fun bt260 => ((impl_Wide.f kj6 bt260.1 bt260.2).bind fun bt262 => ((spec_Wide.f kj6 bt260.1 bt260.2).bind fun bt264 => ((spec_DrawExact.f kj6 l0).bind fun bt266 => ((spec_DrawBoundsOk.f kj6 l0).bind fun bt268 => (if bt262.1 = bt264.1 then (if bt262.2 = bt264.2 then ((impl_Exact.f kj6 bt266.1 bt266.2).bind fun t270 => ((spec_Exact.f kj6 bt266.1 bt266.2).bind fun t271 => (if (t270 != t271) = true then (laws_FnBounds.j1 kj6 l0 bt260.1 bt260.2 bt262.1 bt262.2 true) else ((impl_BoundsOk.f bt268.1 bt268.2).bind fun t272 => ((spec_BoundsOk.f bt268.1 bt268.2).bind fun t273 => (laws_FnBounds.j1 kj6 l0 bt260.1 bt260.2 bt262.1 bt262.2 (t272 != t273))))))) else (laws_FnBounds.j1 kj6 l0 bt260.1 bt260.2 bt262.1 bt262.2 true)) else (laws_FnBounds.j1 kj6 l0 bt260.1 bt260.2 bt262.1 bt262.2 true))))))) = some r := by rw [if_neg (show ¬ (false = true) by decide)] at H; exact H
          clear H
          have H := H1
          clear H1
          replace H := Option.bind_eq_some_iff.mp H
          obtain ⟨⟨t260, t261⟩, A270, H⟩ := H
          replace H : ((impl_Wide.f kj6 t260 t261).bind fun bt262 => ((spec_Wide.f kj6 t260 t261).bind fun bt264 => ((spec_DrawExact.f kj6 l0).bind fun bt266 => ((spec_DrawBoundsOk.f kj6 l0).bind fun bt268 => (if bt262.1 = bt264.1 then (if bt262.2 = bt264.2 then ((impl_Exact.f kj6 bt266.1 bt266.2).bind fun t270 => ((spec_Exact.f kj6 bt266.1 bt266.2).bind fun t271 => (if (t270 != t271) = true then (laws_FnBounds.j1 kj6 l0 t260 t261 bt262.1 bt262.2 true) else ((impl_BoundsOk.f bt268.1 bt268.2).bind fun t272 => ((spec_BoundsOk.f bt268.1 bt268.2).bind fun t273 => (laws_FnBounds.j1 kj6 l0 t260 t261 bt262.1 bt262.2 (t272 != t273))))))) else (laws_FnBounds.j1 kj6 l0 t260 t261 bt262.1 bt262.2 true)) else (laws_FnBounds.j1 kj6 l0 t260 t261 bt262.1 bt262.2 true)))))) = some r := H
          have A27 := Aside0.mk A270
          clear A270
          replace H := Option.bind_eq_some_iff.mp H
          obtain ⟨⟨t262, t263⟩, A280, H⟩ := H
          replace H : ((spec_Wide.f kj6 t260 t261).bind fun bt264 => ((spec_DrawExact.f kj6 l0).bind fun bt266 => ((spec_DrawBoundsOk.f kj6 l0).bind fun bt268 => (if t262 = bt264.1 then (if t263 = bt264.2 then ((impl_Exact.f kj6 bt266.1 bt266.2).bind fun t270 => ((spec_Exact.f kj6 bt266.1 bt266.2).bind fun t271 => (if (t270 != t271) = true then (laws_FnBounds.j1 kj6 l0 t260 t261 t262 t263 true) else ((impl_BoundsOk.f bt268.1 bt268.2).bind fun t272 => ((spec_BoundsOk.f bt268.1 bt268.2).bind fun t273 => (laws_FnBounds.j1 kj6 l0 t260 t261 t262 t263 (t272 != t273))))))) else (laws_FnBounds.j1 kj6 l0 t260 t261 t262 t263 true)) else (laws_FnBounds.j1 kj6 l0 t260 t261 t262 t263 true))))) = some r := H
          have A28 := Aside0.mk A280
          clear A280
          replace H := Option.bind_eq_some_iff.mp H
          obtain ⟨⟨t264, t265⟩, A290, H⟩ := H
          replace H : ((spec_DrawExact.f kj6 l0).bind fun bt266 => ((spec_DrawBoundsOk.f kj6 l0).bind fun bt268 => (if t262 = t264 then (if t263 = t265 then ((impl_Exact.f kj6 bt266.1 bt266.2).bind fun t270 => ((spec_Exact.f kj6 bt266.1 bt266.2).bind fun t271 => (if (t270 != t271) = true then (laws_FnBounds.j1 kj6 l0 t260 t261 t262 t263 true) else ((impl_BoundsOk.f bt268.1 bt268.2).bind fun t272 => ((spec_BoundsOk.f bt268.1 bt268.2).bind fun t273 => (laws_FnBounds.j1 kj6 l0 t260 t261 t262 t263 (t272 != t273))))))) else (laws_FnBounds.j1 kj6 l0 t260 t261 t262 t263 true)) else (laws_FnBounds.j1 kj6 l0 t260 t261 t262 t263 true)))) = some r := H
          have A29 := Aside0.mk A290
          clear A290
          replace H := Option.bind_eq_some_iff.mp H
          obtain ⟨⟨t266, t267⟩, A300, H⟩ := H
          replace H : ((spec_DrawBoundsOk.f kj6 l0).bind fun bt268 => (if t262 = t264 then (if t263 = t265 then ((impl_Exact.f kj6 t266 t267).bind fun t270 => ((spec_Exact.f kj6 t266 t267).bind fun t271 => (if (t270 != t271) = true then (laws_FnBounds.j1 kj6 l0 t260 t261 t262 t263 true) else ((impl_BoundsOk.f bt268.1 bt268.2).bind fun t272 => ((spec_BoundsOk.f bt268.1 bt268.2).bind fun t273 => (laws_FnBounds.j1 kj6 l0 t260 t261 t262 t263 (t272 != t273))))))) else (laws_FnBounds.j1 kj6 l0 t260 t261 t262 t263 true)) else (laws_FnBounds.j1 kj6 l0 t260 t261 t262 t263 true))) = some r := H
          have A30 := Aside0.mk A300
          clear A300
          replace H := Option.bind_eq_some_iff.mp H
          obtain ⟨⟨t268, t269⟩, A310, H⟩ := H
          replace H : (if t262 = t264 then (if t263 = t265 then ((impl_Exact.f kj6 t266 t267).bind fun t270 => ((spec_Exact.f kj6 t266 t267).bind fun t271 => (if (t270 != t271) = true then (laws_FnBounds.j1 kj6 l0 t260 t261 t262 t263 true) else ((impl_BoundsOk.f t268 t269).bind fun t272 => ((spec_BoundsOk.f t268 t269).bind fun t273 => (laws_FnBounds.j1 kj6 l0 t260 t261 t262 t263 (t272 != t273))))))) else (laws_FnBounds.j1 kj6 l0 t260 t261 t262 t263 true)) else (laws_FnBounds.j1 kj6 l0 t260 t261 t262 t263 true)) = some r := H
          have A31 := Aside0.mk A310
          clear A310
          have HC32 := Aside0.mk H
          clear H
          go_upto_region 13 with (first | ((with_reducible refine gate_callee (f := 33) rfl ?_); refine goesL_ (some 64) rfl rfl Try.func33 (by kernel_rfl) rfl #[.slice A0 l0.length c0] rfl (by (try simp only [List.map_toArray, List.map_cons, List.map_nil]); first | done | rfl | (simp only [List.length_drop, List.length_take]; rfl)) ?_; (with_reducible refine (spec_DrawWide.calls kj6 _ _ l0 t260 t261 _ ?side1 ?side2 A27.out).mono ?_); (case side1 => repeat (first | exact (Kd.C_below HR0.out HB.out) | (with_reducible refine Kd.C_alloc ?_ _) | (with_reducible refine Kd.C_drewN ?_ _) | (with_reducible refine Kd.C_drew ?_))); (case side2 => exact HC0.out); rintro e w33 ⟨rfl, hb⟩; refine ⟨_, rfl, ?_⟩; have n0_ := Aside0.mk (blk_below (g := gb252) (o := .cells #[.int .i64 t248, .int .i64 t249, .int .i64 t250] 40 (0, 0)) (by (with_reducible repeat (first | refine blk_drewN ?_ _ | refine blk_drew ?_ | refine blk_alloc ?_ _)); exact BK252.out) hb); have n1_ := Aside0.mk (blk_below (g := gb257) (o := .cells #[.int .i64 t253, .int .i64 t254, .int .i64 t255] 40 (0, 0)) (by (with_reducible repeat (first | refine blk_drewN ?_ _ | refine blk_drew ?_ | refine blk_alloc ?_ _)); exact BK257.out) hb); have n2_ := Aside0.mk (below_step (by repeat (first | (with_reducible first | exact HB.out | apply below_alloc | apply pw_below_drewN | apply below_drew1 | refine below_set ?_ GE252.out | refine below_set ?_ GE257.out) | exact HB.out)) hb); clear BK252; clear BK257; clear HB; have BK252 := n0_; have BK257 := n1_; have HB := n2_; clear n0_ n1_ n2_; (try clear hb); (try clear hb2); (try clear hk); (try clear hi)) | ((with_reducible refine gate_callee (f := 34) rfl ?_); refine goesL_ (some 70) rfl rfl Try.func34 (by kernel_rfl) rfl #[.int .i64 t260, .int .i64 t261] rfl (by (try simp only [List.map_toArray, List.map_cons, List.map_nil]); first | done | rfl | (simp only [List.length_drop, List.length_take]; rfl)) ?_; (with_reducible refine (impl_Wide.calls kj6 t260 t261 t262 t263 _ A28.out).mono ?_); rintro e w34 ⟨rfl, hb⟩; refine ⟨_, rfl, ?_⟩; have n0_ := Aside0.mk (blk_below (g := gb252) (o := .cells #[.int .i64 t248, .int .i64 t249, .int .i64 t250] 40 (0, 0)) (by (with_reducible repeat (first | refine blk_drewN ?_ _ | refine blk_drew ?_ | refine blk_alloc ?_ _)); exact BK252.out) hb); have n1_ := Aside0.mk (blk_below (g := gb257) (o := .cells #[.int .i64 t253, .int .i64 t254, .int .i64 t255] 40 (0, 0)) (by (with_reducible repeat (first | refine blk_drewN ?_ _ | refine blk_drew ?_ | refine blk_alloc ?_ _)); exact BK257.out) hb); have n2_ := Aside0.mk (below_step (by repeat (first | (with_reducible first | exact HB.out | apply below_alloc | apply pw_below_drewN | apply below_drew1 | refine below_set ?_ GE252.out | refine below_set ?_ GE257.out) | exact HB.out)) hb); clear BK252; clear BK257; clear HB; have BK252 := n0_; have BK257 := n1_; have HB := n2_; clear n0_ n1_ n2_; (try clear hb); (try clear hb2); (try clear hk); (try clear hi)) | ((with_reducible refine gate_callee (f := 35) rfl ?_); refine goesL_ (some 76) rfl rfl Try.func35 (by kernel_rfl) rfl #[.int .i64 t260, .int .i64 t261] rfl (by (try simp only [List.map_toArray, List.map_cons, List.map_nil]); first | done | rfl | (simp only [List.length_drop, List.length_take]; rfl)) ?_; (with_reducible refine (spec_Wide.calls kj6 t260 t261 t264 t265 _ A29.out).mono ?_); rintro e w35 ⟨rfl, hb⟩; refine ⟨_, rfl, ?_⟩; have n0_ := Aside0.mk (blk_below (g := gb252) (o := .cells #[.int .i64 t248, .int .i64 t249, .int .i64 t250] 40 (0, 0)) (by (with_reducible repeat (first | refine blk_drewN ?_ _ | refine blk_drew ?_ | refine blk_alloc ?_ _)); exact BK252.out) hb); have n1_ := Aside0.mk (blk_below (g := gb257) (o := .cells #[.int .i64 t253, .int .i64 t254, .int .i64 t255] 40 (0, 0)) (by (with_reducible repeat (first | refine blk_drewN ?_ _ | refine blk_drew ?_ | refine blk_alloc ?_ _)); exact BK257.out) hb); have n2_ := Aside0.mk (below_step (by repeat (first | (with_reducible first | exact HB.out | apply below_alloc | apply pw_below_drewN | apply below_drew1 | refine below_set ?_ GE252.out | refine below_set ?_ GE257.out) | exact HB.out)) hb); clear BK252; clear BK257; clear HB; have BK252 := n0_; have BK257 := n1_; have HB := n2_; clear n0_ n1_ n2_; (try clear hb); (try clear hb2); (try clear hk); (try clear hi)) | ((with_reducible refine gate_callee (f := 36) rfl ?_); refine goesL_ (some 81) rfl rfl Try.func36 (by kernel_rfl) rfl #[.slice A0 l0.length c0] rfl (by (try simp only [List.map_toArray, List.map_cons, List.map_nil]); first | done | rfl | (simp only [List.length_drop, List.length_take]; rfl)) ?_; (with_reducible refine (spec_DrawExact.calls kj6 _ _ l0 t266 t267 _ ?side1 ?side2 A30.out).mono ?_); (case side1 => repeat (first | exact (Kd.C_below HR0.out HB.out) | (with_reducible refine Kd.C_alloc ?_ _) | (with_reducible refine Kd.C_drewN ?_ _) | (with_reducible refine Kd.C_drew ?_))); (case side2 => exact HC0.out); rintro e w36 ⟨rfl, hb⟩; refine ⟨_, rfl, ?_⟩; have n0_ := Aside0.mk (blk_below (g := gb252) (o := .cells #[.int .i64 t248, .int .i64 t249, .int .i64 t250] 40 (0, 0)) (by (with_reducible repeat (first | refine blk_drewN ?_ _ | refine blk_drew ?_ | refine blk_alloc ?_ _)); exact BK252.out) hb); have n1_ := Aside0.mk (blk_below (g := gb257) (o := .cells #[.int .i64 t253, .int .i64 t254, .int .i64 t255] 40 (0, 0)) (by (with_reducible repeat (first | refine blk_drewN ?_ _ | refine blk_drew ?_ | refine blk_alloc ?_ _)); exact BK257.out) hb); have n2_ := Aside0.mk (below_step (by repeat (first | (with_reducible first | exact HB.out | apply below_alloc | apply pw_below_drewN | apply below_drew1 | refine below_set ?_ GE252.out | refine below_set ?_ GE257.out) | exact HB.out)) hb); clear BK252; clear BK257; clear HB; have BK252 := n0_; have BK257 := n1_; have HB := n2_; clear n0_ n1_ n2_; (try clear hb); (try clear hb2); (try clear hk); (try clear hi)) | ((with_reducible refine gate_callee (f := 37) rfl ?_); refine goesL_ (some 86) rfl rfl Try.func37 (by kernel_rfl) rfl #[.slice A0 l0.length c0] rfl (by (try simp only [List.map_toArray, List.map_cons, List.map_nil]); first | done | rfl | (simp only [List.length_drop, List.length_take]; rfl)) ?_; (with_reducible refine (spec_DrawBoundsOk.calls kj6 _ _ l0 t268 t269 _ ?side1 ?side2 A31.out).mono ?_); (case side1 => repeat (first | exact (Kd.C_below HR0.out HB.out) | (with_reducible refine Kd.C_alloc ?_ _) | (with_reducible refine Kd.C_drewN ?_ _) | (with_reducible refine Kd.C_drew ?_))); (case side2 => exact HC0.out); rintro e w37 ⟨rfl, hb⟩; refine ⟨_, rfl, ?_⟩; have n0_ := Aside0.mk (blk_below (g := gb252) (o := .cells #[.int .i64 t248, .int .i64 t249, .int .i64 t250] 40 (0, 0)) (by (with_reducible repeat (first | refine blk_drewN ?_ _ | refine blk_drew ?_ | refine blk_alloc ?_ _)); exact BK252.out) hb); have n1_ := Aside0.mk (blk_below (g := gb257) (o := .cells #[.int .i64 t253, .int .i64 t254, .int .i64 t255] 40 (0, 0)) (by (with_reducible repeat (first | refine blk_drewN ?_ _ | refine blk_drew ?_ | refine blk_alloc ?_ _)); exact BK257.out) hb); have n2_ := Aside0.mk (below_step (by repeat (first | (with_reducible first | exact HB.out | apply below_alloc | apply pw_below_drewN | apply below_drew1 | refine below_set ?_ GE252.out | refine below_set ?_ GE257.out) | exact HB.out)) hb); clear BK252; clear BK257; clear HB; have BK252 := n0_; have BK257 := n1_; have HB := n2_; clear n0_ n1_ n2_; (try clear hb); (try clear hb2); (try clear hk); (try clear hi)))
          (try simp only [Act.put, List.setIfInBounds_toArray, List.set_cons_zero, List.set_cons_succ])
          go_cut [114] (fun v114 wc => ∃ (kq : Nat) (x114_31 : Bool), v114 = .bool x114_31 ∧ Aside0 (laws_FnBounds.j1 kq l0 t260 t261 t262 t263 x114_31 = some r) ∧ Aside0 (kq ≤ kj6) ∧ Aside0 (wc.heap[gb252]? = some (.cells #[.int .i64 t248, .int .i64 t249, .int .i64 t250] 40 (0, 0))) ∧ Aside0 (wc.heap[gb257]? = some (.cells #[.int .i64 t253, .int .i64 t254, .int .i64 t255] 40 (0, 0))) ∧ Aside0 (Below w.heap.size w wc))
          case first =>
            have H := HC32.out
            clear HC32
            by_cases c38 : t262 = t264
            · rw [if_pos c38] at H
              have c38b0 : (t262 == t264) = true := beq_iff_eq.mpr c38
              have c38b1 : (t262 != t264) = false := bne_eq_false_iff_eq.mpr c38
              clear c38
              (first | rw [c38b0] | (simp only [i64_w, i32_w]; rw [c38b0]) | skip)
              by_cases c39 : t263 = t265
              · rw [if_pos c39] at H
                have c39b0 : (t263 == t265) = true := beq_iff_eq.mpr c39
                have c39b1 : (t263 != t265) = false := bne_eq_false_iff_eq.mpr c39
                clear c39
                replace H := Option.bind_eq_some_iff.mp H
                obtain ⟨t270, A400, H⟩ := H
                replace H : ((spec_Exact.f kj6 t266 t267).bind fun t271 => (if (t270 != t271) = true then (laws_FnBounds.j1 kj6 l0 t260 t261 t262 t263 true) else ((impl_BoundsOk.f t268 t269).bind fun t272 => ((spec_BoundsOk.f t268 t269).bind fun t273 => (laws_FnBounds.j1 kj6 l0 t260 t261 t262 t263 (t272 != t273)))))) = some r := H
                have A40 := Aside0.mk A400
                clear A400
                replace H := Option.bind_eq_some_iff.mp H
                obtain ⟨t271, A410, H⟩ := H
                replace H : (if (t270 != t271) = true then (laws_FnBounds.j1 kj6 l0 t260 t261 t262 t263 true) else ((impl_BoundsOk.f t268 t269).bind fun t272 => ((spec_BoundsOk.f t268 t269).bind fun t273 => (laws_FnBounds.j1 kj6 l0 t260 t261 t262 t263 (t272 != t273))))) = some r := H
                have A41 := Aside0.mk A410
                clear A410
                by_cases c42 : (t270 != t271) = true
                · rw [if_pos c42] at H
                  have c42b0 : (t270 != t271) = true := c42
                  (try (have c42b1 : decide (t270 = t271) = false := by simpa using c42))
                  (try (have c42b2 : (t270 == t271) = false := by simpa using c42))
                  (try (have c42b3 : ¬ (t270 = t271) := by simpa using c42))
                  clear c42
                  have H' := Aside0.mk H
                  clear H
                  go_wp2_with (first | (go_at_call 38; (with_reducible refine (impl_Exact.calls kj6 t266 t267 t270 _ A40.out).mono ?_); rintro e w43 ⟨rfl, hb⟩; have n0_ := Aside0.mk (blk_below (g := gb252) (o := .cells #[.int .i64 t248, .int .i64 t249, .int .i64 t250] 40 (0, 0)) (by (with_reducible repeat (first | refine blk_drewN ?_ _ | refine blk_drew ?_ | refine blk_alloc ?_ _)); exact BK252.out) hb); have n1_ := Aside0.mk (blk_below (g := gb257) (o := .cells #[.int .i64 t253, .int .i64 t254, .int .i64 t255] 40 (0, 0)) (by (with_reducible repeat (first | refine blk_drewN ?_ _ | refine blk_drew ?_ | refine blk_alloc ?_ _)); exact BK257.out) hb); have n2_ := Aside0.mk (below_step (by repeat (first | (with_reducible first | exact HB.out | apply below_alloc | apply pw_below_drewN | apply below_drew1 | refine below_set ?_ GE252.out | refine below_set ?_ GE257.out) | exact HB.out)) hb); clear BK252; clear BK257; clear HB; have BK252 := n0_; have BK257 := n1_; have HB := n2_; clear n0_ n1_ n2_; (try clear hb); (try clear hb2); (try clear hk); (try clear hi)) | (go_at_call 39; (with_reducible refine (spec_Exact.calls kj6 t266 t267 t271 _ A41.out).mono ?_); rintro e w44 ⟨rfl, hb⟩; have n0_ := Aside0.mk (blk_below (g := gb252) (o := .cells #[.int .i64 t248, .int .i64 t249, .int .i64 t250] 40 (0, 0)) (by (with_reducible repeat (first | refine blk_drewN ?_ _ | refine blk_drew ?_ | refine blk_alloc ?_ _)); exact BK252.out) hb); have n1_ := Aside0.mk (blk_below (g := gb257) (o := .cells #[.int .i64 t253, .int .i64 t254, .int .i64 t255] 40 (0, 0)) (by (with_reducible repeat (first | refine blk_drewN ?_ _ | refine blk_drew ?_ | refine blk_alloc ?_ _)); exact BK257.out) hb); have n2_ := Aside0.mk (below_step (by repeat (first | (with_reducible first | exact HB.out | apply below_alloc | apply pw_below_drewN | apply below_drew1 | refine below_set ?_ GE252.out | refine below_set ?_ GE257.out) | exact HB.out)) hb); clear BK252; clear BK257; clear HB; have BK252 := n0_; have BK257 := n1_; have HB := n2_; clear n0_ n1_ n2_; (try clear hb); (try clear hb2); (try clear hk); (try clear hi)))
                  go_meet
                  case rel => exact ⟨_, (true), (by first | rfl | (simp; done) | (simp [*]; done)), H', ⟨by have := HJ6.out; first | omega | exact Nat.le_refl _⟩, ⟨by (with_reducible repeat (first | refine blk_drewN ?_ _ | refine blk_drew ?_ | refine blk_alloc ?_ _)); exact BK252.out⟩, ⟨by (with_reducible repeat (first | refine blk_drewN ?_ _ | refine blk_drew ?_ | refine blk_alloc ?_ _)); exact BK257.out⟩, ⟨by repeat (first | (with_reducible first | exact HB.out | apply below_alloc | apply pw_below_drewN | apply below_drew1 | refine below_set ?_ GE252.out | refine below_set ?_ GE257.out) | exact HB.out)⟩⟩
                · rw [if_neg c42] at H
                  have c42b0 : (t270 != t271) = false := by simpa using c42
                  (try (have c42b1 : decide (t270 = t271) = true := by simpa using c42))
                  (try (have c42b2 : (t270 == t271) = true := by simpa using c42))
                  clear c42
                  replace H := Option.bind_eq_some_iff.mp H
                  obtain ⟨t272, A450, H⟩ := H
                  replace H : ((spec_BoundsOk.f t268 t269).bind fun t273 => (laws_FnBounds.j1 kj6 l0 t260 t261 t262 t263 (t272 != t273))) = some r := H
                  have A45 := Aside0.mk A450
                  clear A450
                  replace H := Option.bind_eq_some_iff.mp H
                  obtain ⟨t273, A460, H⟩ := H
                  replace H : (laws_FnBounds.j1 kj6 l0 t260 t261 t262 t263 (t272 != t273)) = some r := H
                  have A46 := Aside0.mk A460
                  clear A460
                  have H' := Aside0.mk H
                  clear H
                  go_wp2_with (first | (go_at_call 38; (with_reducible refine (impl_Exact.calls kj6 t266 t267 t270 _ A40.out).mono ?_); rintro e w47 ⟨rfl, hb⟩; have n0_ := Aside0.mk (blk_below (g := gb252) (o := .cells #[.int .i64 t248, .int .i64 t249, .int .i64 t250] 40 (0, 0)) (by (with_reducible repeat (first | refine blk_drewN ?_ _ | refine blk_drew ?_ | refine blk_alloc ?_ _)); exact BK252.out) hb); have n1_ := Aside0.mk (blk_below (g := gb257) (o := .cells #[.int .i64 t253, .int .i64 t254, .int .i64 t255] 40 (0, 0)) (by (with_reducible repeat (first | refine blk_drewN ?_ _ | refine blk_drew ?_ | refine blk_alloc ?_ _)); exact BK257.out) hb); have n2_ := Aside0.mk (below_step (by repeat (first | (with_reducible first | exact HB.out | apply below_alloc | apply pw_below_drewN | apply below_drew1 | refine below_set ?_ GE252.out | refine below_set ?_ GE257.out) | exact HB.out)) hb); clear BK252; clear BK257; clear HB; have BK252 := n0_; have BK257 := n1_; have HB := n2_; clear n0_ n1_ n2_; (try clear hb); (try clear hb2); (try clear hk); (try clear hi)) | (go_at_call 39; (with_reducible refine (spec_Exact.calls kj6 t266 t267 t271 _ A41.out).mono ?_); rintro e w48 ⟨rfl, hb⟩; have n0_ := Aside0.mk (blk_below (g := gb252) (o := .cells #[.int .i64 t248, .int .i64 t249, .int .i64 t250] 40 (0, 0)) (by (with_reducible repeat (first | refine blk_drewN ?_ _ | refine blk_drew ?_ | refine blk_alloc ?_ _)); exact BK252.out) hb); have n1_ := Aside0.mk (blk_below (g := gb257) (o := .cells #[.int .i64 t253, .int .i64 t254, .int .i64 t255] 40 (0, 0)) (by (with_reducible repeat (first | refine blk_drewN ?_ _ | refine blk_drew ?_ | refine blk_alloc ?_ _)); exact BK257.out) hb); have n2_ := Aside0.mk (below_step (by repeat (first | (with_reducible first | exact HB.out | apply below_alloc | apply pw_below_drewN | apply below_drew1 | refine below_set ?_ GE252.out | refine below_set ?_ GE257.out) | exact HB.out)) hb); clear BK252; clear BK257; clear HB; have BK252 := n0_; have BK257 := n1_; have HB := n2_; clear n0_ n1_ n2_; (try clear hb); (try clear hb2); (try clear hk); (try clear hi)) | (go_at_call 16; (with_reducible refine (impl_BoundsOk.calls t268 t269 t272 _ A45.out).mono ?_); rintro e w' ⟨rfl, ⟨nd, rfl⟩⟩) | (go_at_call 15; (with_reducible refine (spec_BoundsOk.calls t268 t269 t273 _ A46.out).mono ?_); rintro e w' ⟨rfl, ⟨nd, rfl⟩⟩))
                  go_meet
                  case rel => exact ⟨_, ((t272 != t273)), (by first | rfl | (simp; done) | (simp [*]; done)), H', ⟨by have := HJ6.out; first | omega | exact Nat.le_refl _⟩, ⟨by (with_reducible repeat (first | refine blk_drewN ?_ _ | refine blk_drew ?_ | refine blk_alloc ?_ _)); exact BK252.out⟩, ⟨by (with_reducible repeat (first | refine blk_drewN ?_ _ | refine blk_drew ?_ | refine blk_alloc ?_ _)); exact BK257.out⟩, ⟨by repeat (first | (with_reducible first | exact HB.out | apply below_alloc | apply pw_below_drewN | apply below_drew1 | refine below_set ?_ GE252.out | refine below_set ?_ GE257.out) | exact HB.out)⟩⟩
              · rw [if_neg c39] at H
                have c39b0 : (t263 == t265) = false := beq_eq_false_iff_ne.mpr c39
                have c39b1 : (t263 != t265) = true := bne_iff_ne.mpr c39
                have H' := Aside0.mk H
                clear H
                go_wp2
                go_meet
                case rel => exact ⟨_, (true), (by first | rfl | (simp; done) | (simp [*]; done)), H', ⟨by have := HJ6.out; first | omega | exact Nat.le_refl _⟩, ⟨by (with_reducible repeat (first | refine blk_drewN ?_ _ | refine blk_drew ?_ | refine blk_alloc ?_ _)); exact BK252.out⟩, ⟨by (with_reducible repeat (first | refine blk_drewN ?_ _ | refine blk_drew ?_ | refine blk_alloc ?_ _)); exact BK257.out⟩, ⟨by repeat (first | (with_reducible first | exact HB.out | apply below_alloc | apply pw_below_drewN | apply below_drew1 | refine below_set ?_ GE252.out | refine below_set ?_ GE257.out) | exact HB.out)⟩⟩
            · rw [if_neg c38] at H
              have c38b0 : (t262 == t264) = false := beq_eq_false_iff_ne.mpr c38
              have c38b1 : (t262 != t264) = true := bne_iff_ne.mpr c38
              (first | rw [c38b0] | (simp only [i64_w, i32_w]; rw [c38b0]) | skip)
              have H' := Aside0.mk H
              clear H
              go_wp2
              go_meet
              case rel => exact ⟨_, (true), (by first | rfl | (simp; done) | (simp [*]; done)), H', ⟨by have := HJ6.out; first | omega | exact Nat.le_refl _⟩, ⟨by (with_reducible repeat (first | refine blk_drewN ?_ _ | refine blk_drew ?_ | refine blk_alloc ?_ _)); exact BK252.out⟩, ⟨by (with_reducible repeat (first | refine blk_drewN ?_ _ | refine blk_drew ?_ | refine blk_alloc ?_ _)); exact BK257.out⟩, ⟨by repeat (first | (with_reducible first | exact HB.out | apply below_alloc | apply pw_below_drewN | apply below_drew1 | refine below_set ?_ GE252.out | refine below_set ?_ GE257.out) | exact HB.out)⟩⟩
          case rest =>
            clear HC32
            try clear c1
            try clear c2
            try clear p2
            try clear c3
            try clear c4
            try clear c9
            try clear c14
            try clear c16
            try clear c16b0
            try clear c16b1
            try clear c16b2
            try clear c17
            try clear c17b0
            try clear c18
            try clear c23
            try clear c26
            try clear c29
            try clear c30
            try clear c31
            try clear c32
            try clear c33
            try clear c34
            try clear c35
            try clear c36
            try clear c37
            try clear c38
            try clear c38b0
            try clear c38b1
            try clear c39
            try clear c39b0
            try clear c39b1
            try clear c42
            try clear c42b0
            try clear c42b1
            try clear c42b2
            try clear hcz11_0
            try clear hcz11_1
            try clear hcz11_2
            try clear hcz15_0
            try clear hcz15_1
            try clear hcz15_2
            try clear hcz19_0
            try clear hcz19_1
            try clear hcz19_2
            try clear hcz20_0
            try clear hcz20_1
            try clear hcz20_2
            try clear hcz24_0
            try clear hcz24_1
            try clear hcz24_2
            try clear hcz25_0
            try clear hcz25_1
            try clear hcz25_2
            try clear hfz11_0
            try clear hfz11_1
            try clear hfz11_2
            try clear hfz15_0
            try clear hfz15_1
            try clear hfz15_2
            try clear hfz19_0
            try clear hfz19_1
            try clear hfz19_2
            try clear hfz20_0
            try clear hfz20_1
            try clear hfz20_2
            try clear hfz24_0
            try clear hfz24_1
            try clear hfz24_2
            try clear hfz25_0
            try clear hfz25_1
            try clear hfz25_2
            try clear p2
            obtain ⟨kq, x114_31, rfl, HA, HJ31, BK252, BK257, HB⟩ := hcut
            cases kq with
            | zero => exact absurd HA.out (by simp [laws_FnBounds.j1])
            | succ kj31 =>
              have H := HA.out
              clear HA
              simp only [laws_FnBounds.j1] at H
              by_cases c49 : x114_31 = true
              · subst c49
                have H1 : (some false) = some r := by rw [if_pos rfl] at H; exact H
                clear H
                have H := H1
                clear H1
                obtain rfl := Option.some.inj H
                go_wp2
                go_ret
                exact ⟨by first | rfl | (simp [errW_none, errW_some] <;> rfl) | (simp [*, errW_none, errW_some] <;> rfl), by repeat (first | (with_reducible first | exact HB.out | apply below_alloc | apply pw_below_drewN | apply below_drew1 | refine below_set ?_ GE252.out | refine below_set ?_ GE257.out) | exact HB.out)⟩
              · replace c49 := Bool.eq_false_iff.mpr c49
                subst c49
                have H1 : ((spec_DrawUnpack.f kj31 l0).bind fun bt274 => ((impl_Unpack.f bt274.1 bt274.2.1 bt274.2.2).bind fun bt278 => ((spec_Unpack.f bt274.1 bt274.2.1 bt274.2.2).bind fun bt281 => (if (bt278.2.2 != bt281.2.2) = true then (laws_FnBounds.j2 kj31 t260 t261 t262 t263 true) else (if bt278.2.2 = true then ((impl_BoundsOk.f bt278.1 bt278.2.1).bind fun t284 => (laws_FnBounds.j2 kj31 t260 t261 t262 t263 (!t284))) else (laws_FnBounds.j2 kj31 t260 t261 t262 t263 false)))))) = some r := by rw [if_neg (show ¬ (false = true) by decide)] at H; exact H
                clear H
                have H := H1
                clear H1
                replace H := Option.bind_eq_some_iff.mp H
                obtain ⟨⟨t274, t275, t276⟩, A500, H⟩ := H
                replace H : ((impl_Unpack.f t274 t275 t276).bind fun bt278 => ((spec_Unpack.f t274 t275 t276).bind fun bt281 => (if (bt278.2.2 != bt281.2.2) = true then (laws_FnBounds.j2 kj31 t260 t261 t262 t263 true) else (if bt278.2.2 = true then ((impl_BoundsOk.f bt278.1 bt278.2.1).bind fun t284 => (laws_FnBounds.j2 kj31 t260 t261 t262 t263 (!t284))) else (laws_FnBounds.j2 kj31 t260 t261 t262 t263 false))))) = some r := H
                have A50 := Aside0.mk A500
                clear A500
                replace H := Option.bind_eq_some_iff.mp H
                obtain ⟨⟨t278, t279, t280⟩, A510, H⟩ := H
                replace H : ((spec_Unpack.f t274 t275 t276).bind fun bt281 => (if (t280 != bt281.2.2) = true then (laws_FnBounds.j2 kj31 t260 t261 t262 t263 true) else (if t280 = true then ((impl_BoundsOk.f t278 t279).bind fun t284 => (laws_FnBounds.j2 kj31 t260 t261 t262 t263 (!t284))) else (laws_FnBounds.j2 kj31 t260 t261 t262 t263 false)))) = some r := H
                have A51 := Aside0.mk A510
                clear A510
                replace H := Option.bind_eq_some_iff.mp H
                obtain ⟨⟨t281, t282, t283⟩, A520, H⟩ := H
                replace H : (if (t280 != t283) = true then (laws_FnBounds.j2 kj31 t260 t261 t262 t263 true) else (if t280 = true then ((impl_BoundsOk.f t278 t279).bind fun t284 => (laws_FnBounds.j2 kj31 t260 t261 t262 t263 (!t284))) else (laws_FnBounds.j2 kj31 t260 t261 t262 t263 false))) = some r := H
                have A52 := Aside0.mk A520
                clear A520
                have HC53 := Aside0.mk H
                clear H
                go_upto_region 18 with (first | ((with_reducible refine gate_callee (f := 40) rfl ?_); refine goesL_ (some 116) rfl rfl Try.func40 (by kernel_rfl) rfl #[.slice A0 l0.length c0] rfl (by (try simp only [List.map_toArray, List.map_cons, List.map_nil]); first | done | rfl | (simp only [List.length_drop, List.length_take]; rfl)) ?_; (with_reducible refine (spec_DrawUnpack.calls kj31 _ _ l0 t274 t275 t276 _ ?side1 ?side2 A50.out).mono ?_); (case side1 => repeat (first | exact (Kd.C_below HR0.out HB.out) | (with_reducible refine Kd.C_alloc ?_ _) | (with_reducible refine Kd.C_drewN ?_ _) | (with_reducible refine Kd.C_drew ?_))); (case side2 => exact HC0.out); rintro e w54 ⟨rfl, hb⟩; refine ⟨_, rfl, ?_⟩; have n0_ := Aside0.mk (blk_below (g := gb252) (o := .cells #[.int .i64 t248, .int .i64 t249, .int .i64 t250] 40 (0, 0)) (by (with_reducible repeat (first | refine blk_drewN ?_ _ | refine blk_drew ?_ | refine blk_alloc ?_ _)); exact BK252.out) hb); have n1_ := Aside0.mk (blk_below (g := gb257) (o := .cells #[.int .i64 t253, .int .i64 t254, .int .i64 t255] 40 (0, 0)) (by (with_reducible repeat (first | refine blk_drewN ?_ _ | refine blk_drew ?_ | refine blk_alloc ?_ _)); exact BK257.out) hb); have n2_ := Aside0.mk (below_step (by repeat (first | (with_reducible first | exact HB.out | apply below_alloc | apply pw_below_drewN | apply below_drew1 | refine below_set ?_ GE252.out | refine below_set ?_ GE257.out) | exact HB.out)) hb); clear BK252; clear BK257; clear HB; have BK252 := n0_; have BK257 := n1_; have HB := n2_; clear n0_ n1_ n2_; (try clear hb); (try clear hb2); (try clear hk); (try clear hi)) | ((with_reducible refine gate_dst (N := 19) rfl ?_); refine box_event ?hg (N := 19) ?hd (cs := #[.int .i64 0, .int .i64 0, .int .i64 0]) (t := 40) ?hr ?_; (case hd => rfl); (case hg => rfl); (case hr => first | (go_simp; done) | (go_simp; rfl)); intro gb277 hg w55 hbox hb; have n0_ := Aside0.mk (blk_below (g := gb252) (o := .cells #[.int .i64 t248, .int .i64 t249, .int .i64 t250] 40 (0, 0)) (by (with_reducible repeat (first | refine blk_drewN ?_ _ | refine blk_drew ?_ | refine blk_alloc ?_ _)); exact BK252.out) hb); have n1_ := Aside0.mk (blk_below (g := gb257) (o := .cells #[.int .i64 t253, .int .i64 t254, .int .i64 t255] 40 (0, 0)) (by (with_reducible repeat (first | refine blk_drewN ?_ _ | refine blk_drew ?_ | refine blk_alloc ?_ _)); exact BK257.out) hb); have n2_ := Aside0.mk (below_step (by repeat (first | (with_reducible first | exact HB.out | apply below_alloc | apply pw_below_drewN | apply below_drew1 | refine below_set ?_ GE252.out | refine below_set ?_ GE257.out) | exact HB.out)) hb); have n3_ := Aside0.mk (hbox); have n4_ := Aside0.mk ((by rw [hg]; exact (below_size (by repeat (first | (with_reducible first | exact HB.out | apply below_alloc | apply pw_below_drewN | apply below_drew1 | refine below_set ?_ GE252.out | refine below_set ?_ GE257.out) | exact HB.out))) : w.heap.size ≤ gb277)); have n5_ := Aside0.mk ((by rw [hg]; exact (below_size (by repeat (first | (with_reducible first | exact HB.out | apply below_alloc | apply pw_below_drewN | apply below_drew1 | refine below_set ?_ GE252.out | refine below_set ?_ GE257.out) | exact HB.out))) : w.heap.size ≤ gb277)); have n6_ := Aside0.mk ((by rw [hg]; exact Nat.ne_of_lt (blk_lt (g := gb252) (o := .cells #[.int .i64 t248, .int .i64 t249, .int .i64 t250] 40 (0, 0)) (by (with_reducible repeat (first | refine blk_drewN ?_ _ | refine blk_drew ?_ | refine blk_alloc ?_ _)); exact BK252.out)) : gb252 ≠ gb277)); have n7_ := Aside0.mk ((by rw [hg]; exact Nat.ne_of_gt (blk_lt (g := gb252) (o := .cells #[.int .i64 t248, .int .i64 t249, .int .i64 t250] 40 (0, 0)) (by (with_reducible repeat (first | refine blk_drewN ?_ _ | refine blk_drew ?_ | refine blk_alloc ?_ _)); exact BK252.out)) : gb277 ≠ gb252)); have n8_ := Aside0.mk ((by rw [hg]; exact Nat.ne_of_lt (blk_lt (g := gb257) (o := .cells #[.int .i64 t253, .int .i64 t254, .int .i64 t255] 40 (0, 0)) (by (with_reducible repeat (first | refine blk_drewN ?_ _ | refine blk_drew ?_ | refine blk_alloc ?_ _)); exact BK257.out)) : gb257 ≠ gb277)); have n9_ := Aside0.mk ((by rw [hg]; exact Nat.ne_of_gt (blk_lt (g := gb257) (o := .cells #[.int .i64 t253, .int .i64 t254, .int .i64 t255] 40 (0, 0)) (by (with_reducible repeat (first | refine blk_drewN ?_ _ | refine blk_drew ?_ | refine blk_alloc ?_ _)); exact BK257.out)) : gb277 ≠ gb257)); clear BK252; clear BK257; clear HB; have BK252 := n0_; have BK257 := n1_; have HB := n2_; have BK277 := n3_; have GW277 := n4_; have GE277 := n5_; have NB252_277 := n6_; have NB277_252 := n7_; have NB257_277 := n8_; have NB277_257 := n9_; clear n0_ n1_ n2_ n3_ n4_ n5_ n6_ n7_ n8_ n9_; clear hb hbox hg; have hnb56 := NB277_252.out; have hnc56 := NB252_277.out; have hnb57 := NB277_257.out; have hnc57 := NB257_277.out; have hcz58_0 : w55.cell? ⟨gb277, 0, none⟩ = some (.int .i64 0) := (blk_cell BK277.out 0).trans rfl; have hcz58_1 : w55.cell? ⟨gb277, 1, none⟩ = some (.int .i64 0) := (blk_cell BK277.out 1).trans rfl; have hcz58_2 : w55.cell? ⟨gb277, 2, none⟩ = some (.int .i64 0) := (blk_cell BK277.out 2).trans rfl; have hfz58_0 := blk_frozen BK277.out 0; have hfz58_1 := blk_frozen BK277.out 1; have hfz58_2 := blk_frozen BK277.out 2) | ((with_reducible refine gate_callee (f := 25) rfl ?_); refine goesL_ (some 119) rfl rfl Try.func25 (by kernel_rfl) rfl #[.agg #[.int .i64 t274, .int .i64 t275, .int .i64 t276]] rfl (by (try simp only [List.map_toArray, List.map_cons, List.map_nil]); first | done | rfl | (simp only [List.length_drop, List.length_take]; rfl)) ?_; (with_reducible refine (impl_Unpack.calls t274 t275 t276 t278 t279 t280 _ A51.out).mono ?_); rintro e w59 ⟨rfl, hb⟩; refine ⟨_, rfl, ?_⟩; have n0_ := Aside0.mk (blk_below (g := gb252) (o := .cells #[.int .i64 t248, .int .i64 t249, .int .i64 t250] 40 (0, 0)) (by (with_reducible repeat (first | refine blk_drewN ?_ _ | refine blk_drew ?_ | refine blk_alloc ?_ _)); refine blk_far ?_ NB252_277.out _; (with_reducible repeat (first | refine blk_drewN ?_ _ | refine blk_drew ?_ | refine blk_alloc ?_ _)); refine blk_far ?_ NB252_277.out _; (with_reducible repeat (first | refine blk_drewN ?_ _ | refine blk_drew ?_ | refine blk_alloc ?_ _)); refine blk_far ?_ NB252_277.out _; (with_reducible repeat (first | refine blk_drewN ?_ _ | refine blk_drew ?_ | refine blk_alloc ?_ _)); exact BK252.out) hb); have n1_ := Aside0.mk (blk_below (g := gb257) (o := .cells #[.int .i64 t253, .int .i64 t254, .int .i64 t255] 40 (0, 0)) (by (with_reducible repeat (first | refine blk_drewN ?_ _ | refine blk_drew ?_ | refine blk_alloc ?_ _)); refine blk_far ?_ NB257_277.out _; (with_reducible repeat (first | refine blk_drewN ?_ _ | refine blk_drew ?_ | refine blk_alloc ?_ _)); refine blk_far ?_ NB257_277.out _; (with_reducible repeat (first | refine blk_drewN ?_ _ | refine blk_drew ?_ | refine blk_alloc ?_ _)); refine blk_far ?_ NB257_277.out _; (with_reducible repeat (first | refine blk_drewN ?_ _ | refine blk_drew ?_ | refine blk_alloc ?_ _)); exact BK257.out) hb); have n2_ := Aside0.mk (blk_below (g := gb277) (o := .cells #[.int .i64 t274, .int .i64 t275, .int .i64 t276] 40 (0, 0)) (by (with_reducible repeat (first | refine blk_drewN ?_ _ | refine blk_drew ?_ | refine blk_alloc ?_ _)); refine blk_put (cs := #[.int .i64 t274, .int .i64 t275, .int .i64 0]) ?_ 2 _ rfl; (with_reducible repeat (first | refine blk_drewN ?_ _ | refine blk_drew ?_ | refine blk_alloc ?_ _)); refine blk_put (cs := #[.int .i64 t274, .int .i64 0, .int .i64 0]) ?_ 1 _ rfl; (with_reducible repeat (first | refine blk_drewN ?_ _ | refine blk_drew ?_ | refine blk_alloc ?_ _)); refine blk_put (cs := #[.int .i64 0, .int .i64 0, .int .i64 0]) ?_ 0 _ rfl; (with_reducible repeat (first | refine blk_drewN ?_ _ | refine blk_drew ?_ | refine blk_alloc ?_ _)); exact BK277.out) hb); have n3_ := Aside0.mk (below_step (by repeat (first | (with_reducible first | exact HB.out | apply below_alloc | apply pw_below_drewN | apply below_drew1 | refine below_set ?_ GE252.out | refine below_set ?_ GE257.out | refine below_set ?_ GE277.out) | exact HB.out)) hb); clear BK252; clear BK257; clear BK277; clear HB; have BK252 := n0_; have BK257 := n1_; have BK277 := n2_; have HB := n3_; clear n0_ n1_ n2_ n3_; (try clear hb); (try clear hb2); (try clear hk); (try clear hi); have hcz60_0 : w59.cell? ⟨gb277, 0, none⟩ = some (.int .i64 t274) := (blk_cell BK277.out 0).trans rfl; have hcz60_1 : w59.cell? ⟨gb277, 1, none⟩ = some (.int .i64 t275) := (blk_cell BK277.out 1).trans rfl; have hcz60_2 : w59.cell? ⟨gb277, 2, none⟩ = some (.int .i64 t276) := (blk_cell BK277.out 2).trans rfl; have hfz60_0 := blk_frozen BK277.out 0; have hfz60_1 := blk_frozen BK277.out 1; have hfz60_2 := blk_frozen BK277.out 2) | ((with_reducible refine gate_callee (f := 23) rfl ?_); refine goesL_ (some 125) rfl rfl Try.func23 (by kernel_rfl) rfl #[.agg #[.int .i64 t274, .int .i64 t275, .int .i64 t276]] rfl (by (try simp only [List.map_toArray, List.map_cons, List.map_nil]); first | done | rfl | (simp only [List.length_drop, List.length_take]; rfl)) ?_; (with_reducible refine (spec_Unpack.calls t274 t275 t276 t281 t282 t283 _ A52.out).mono ?_); rintro e w61 ⟨rfl, hb⟩; refine ⟨_, rfl, ?_⟩; have n0_ := Aside0.mk (blk_below (g := gb252) (o := .cells #[.int .i64 t248, .int .i64 t249, .int .i64 t250] 40 (0, 0)) (by (with_reducible repeat (first | refine blk_drewN ?_ _ | refine blk_drew ?_ | refine blk_alloc ?_ _)); exact BK252.out) hb); have n1_ := Aside0.mk (blk_below (g := gb257) (o := .cells #[.int .i64 t253, .int .i64 t254, .int .i64 t255] 40 (0, 0)) (by (with_reducible repeat (first | refine blk_drewN ?_ _ | refine blk_drew ?_ | refine blk_alloc ?_ _)); exact BK257.out) hb); have n2_ := Aside0.mk (blk_below (g := gb277) (o := .cells #[.int .i64 t274, .int .i64 t275, .int .i64 t276] 40 (0, 0)) (by (with_reducible repeat (first | refine blk_drewN ?_ _ | refine blk_drew ?_ | refine blk_alloc ?_ _)); exact BK277.out) hb); have n3_ := Aside0.mk (below_step (by repeat (first | (with_reducible first | exact HB.out | apply below_alloc | apply pw_below_drewN | apply below_drew1 | refine below_set ?_ GE252.out | refine below_set ?_ GE257.out | refine below_set ?_ GE277.out) | exact HB.out)) hb); clear BK252; clear BK257; clear BK277; clear HB; have BK252 := n0_; have BK257 := n1_; have BK277 := n2_; have HB := n3_; clear n0_ n1_ n2_ n3_; (try clear hb); (try clear hb2); (try clear hk); (try clear hi)))
                (try simp only [Act.put, List.setIfInBounds_toArray, List.set_cons_zero, List.set_cons_succ])
                go_cut [140] (fun v140 wc => ∃ (kq : Nat) (x140_52 : Bool), v140 = .bool x140_52 ∧ Aside0 (laws_FnBounds.j2 kq t260 t261 t262 t263 x140_52 = some r) ∧ Aside0 (kq ≤ kj31) ∧ Aside0 (wc.heap[gb252]? = some (.cells #[.int .i64 t248, .int .i64 t249, .int .i64 t250] 40 (0, 0))) ∧ Aside0 (wc.heap[gb257]? = some (.cells #[.int .i64 t253, .int .i64 t254, .int .i64 t255] 40 (0, 0))) ∧ Aside0 (wc.heap[gb277]? = some (.cells #[.int .i64 t274, .int .i64 t275, .int .i64 t276] 40 (0, 0))) ∧ Aside0 (Below w.heap.size w wc))
                case first =>
                  have H := HC53.out
                  clear HC53
                  by_cases c62 : (t280 != t283) = true
                  · rw [if_pos c62] at H
                    have c62b0 : (t280 != t283) = true := c62
                    (try (have c62b1 : decide (t280 = t283) = false := by simpa using c62))
                    (try (have c62b2 : (t280 == t283) = false := by simpa using c62))
                    (try (have c62b3 : ¬ (t280 = t283) := by simpa using c62))
                    clear c62
                    (first | rw [c62b0] | (simp only [i64_w, i32_w]; rw [c62b0]) | skip)
                    have H' := Aside0.mk H
                    clear H
                    go_wp2
                    go_meet
                    case rel => exact ⟨_, (true), (by first | rfl | (simp; done) | (simp [*]; done)), H', ⟨by have := HJ6.out; have := HJ31.out; first | omega | exact Nat.le_refl _⟩, ⟨by (with_reducible repeat (first | refine blk_drewN ?_ _ | refine blk_drew ?_ | refine blk_alloc ?_ _)); exact BK252.out⟩, ⟨by (with_reducible repeat (first | refine blk_drewN ?_ _ | refine blk_drew ?_ | refine blk_alloc ?_ _)); exact BK257.out⟩, ⟨by (with_reducible repeat (first | refine blk_drewN ?_ _ | refine blk_drew ?_ | refine blk_alloc ?_ _)); exact BK277.out⟩, ⟨by repeat (first | (with_reducible first | exact HB.out | apply below_alloc | apply pw_below_drewN | apply below_drew1 | refine below_set ?_ GE252.out | refine below_set ?_ GE257.out | refine below_set ?_ GE277.out) | exact HB.out)⟩⟩
                  · rw [if_neg c62] at H
                    have c62b0 : (t280 != t283) = false := by simpa using c62
                    (try (have c62b1 : decide (t280 = t283) = true := by simpa using c62))
                    (try (have c62b2 : (t280 == t283) = true := by simpa using c62))
                    clear c62
                    (first | rw [c62b0] | (simp only [i64_w, i32_w]; rw [c62b0]) | skip)
                    by_cases c63 : t280 = true
                    · subst c63
                      have H1 : ((impl_BoundsOk.f t278 t279).bind fun t284 => (laws_FnBounds.j2 kj31 t260 t261 t262 t263 (!t284))) = some r := by rw [if_pos rfl] at H; exact H
                      clear H
                      have H := H1
                      clear H1
                      replace H := Option.bind_eq_some_iff.mp H
                      obtain ⟨t284, A640, H⟩ := H
                      replace H : (laws_FnBounds.j2 kj31 t260 t261 t262 t263 (!t284)) = some r := H
                      have A64 := Aside0.mk A640
                      clear A640
                      have H' := Aside0.mk H
                      clear H
                      go_wp2_with (first | (go_at_call 16; (with_reducible refine (impl_BoundsOk.calls t278 t279 t284 _ A64.out).mono ?_); rintro e w' ⟨rfl, ⟨nd, rfl⟩⟩))
                      go_meet
                      case rel => exact ⟨_, (!t284), (by first | rfl | (simp; done) | (simp [*]; done)), H', ⟨by have := HJ6.out; have := HJ31.out; first | omega | exact Nat.le_refl _⟩, ⟨by (with_reducible repeat (first | refine blk_drewN ?_ _ | refine blk_drew ?_ | refine blk_alloc ?_ _)); exact BK252.out⟩, ⟨by (with_reducible repeat (first | refine blk_drewN ?_ _ | refine blk_drew ?_ | refine blk_alloc ?_ _)); exact BK257.out⟩, ⟨by (with_reducible repeat (first | refine blk_drewN ?_ _ | refine blk_drew ?_ | refine blk_alloc ?_ _)); exact BK277.out⟩, ⟨by repeat (first | (with_reducible first | exact HB.out | apply below_alloc | apply pw_below_drewN | apply below_drew1 | refine below_set ?_ GE252.out | refine below_set ?_ GE257.out | refine below_set ?_ GE277.out) | exact HB.out)⟩⟩
                    · replace c63 := Bool.eq_false_iff.mpr c63
                      subst c63
                      have H1 : (laws_FnBounds.j2 kj31 t260 t261 t262 t263 false) = some r := by rw [if_neg (show ¬ (false = true) by decide)] at H; exact H
                      clear H
                      have H := H1
                      clear H1
                      have H' := Aside0.mk H
                      clear H
                      go_wp2
                      go_meet
                      case rel => exact ⟨_, (false), (by first | rfl | (simp; done) | (simp [*]; done)), H', ⟨by have := HJ6.out; have := HJ31.out; first | omega | exact Nat.le_refl _⟩, ⟨by (with_reducible repeat (first | refine blk_drewN ?_ _ | refine blk_drew ?_ | refine blk_alloc ?_ _)); exact BK252.out⟩, ⟨by (with_reducible repeat (first | refine blk_drewN ?_ _ | refine blk_drew ?_ | refine blk_alloc ?_ _)); exact BK257.out⟩, ⟨by (with_reducible repeat (first | refine blk_drewN ?_ _ | refine blk_drew ?_ | refine blk_alloc ?_ _)); exact BK277.out⟩, ⟨by repeat (first | (with_reducible first | exact HB.out | apply below_alloc | apply pw_below_drewN | apply below_drew1 | refine below_set ?_ GE252.out | refine below_set ?_ GE257.out | refine below_set ?_ GE277.out) | exact HB.out)⟩⟩
                case rest =>
                  clear HC53
                  try clear c1
                  try clear c2
                  try clear p2
                  try clear c3
                  try clear c4
                  try clear c5
                  try clear c6
                  try clear c9
                  try clear c14
                  try clear c16
                  try clear c16b0
                  try clear c16b1
                  try clear c16b2
                  try clear c17
                  try clear c17b0
                  try clear c18
                  try clear c23
                  try clear c25
                  try clear c26
                  try clear c29
                  try clear c30
                  try clear c31
                  try clear c32
                  try clear c33
                  try clear c34
                  try clear c35
                  try clear c36
                  try clear c37
                  try clear c38
                  try clear c38b0
                  try clear c38b1
                  try clear c39
                  try clear c39b0
                  try clear c39b1
                  try clear c40
                  try clear c42
                  try clear c42b0
                  try clear c42b1
                  try clear c42b2
                  try clear c49
                  try clear c56
                  try clear c57
                  try clear c62
                  try clear c62b0
                  try clear c62b1
                  try clear c62b2
                  try clear c63
                  try clear hcz11_0
                  try clear hcz11_1
                  try clear hcz11_2
                  try clear hcz15_0
                  try clear hcz15_1
                  try clear hcz15_2
                  try clear hcz19_0
                  try clear hcz19_1
                  try clear hcz19_2
                  try clear hcz20_0
                  try clear hcz20_1
                  try clear hcz20_2
                  try clear hcz24_0
                  try clear hcz24_1
                  try clear hcz24_2
                  try clear hcz25_0
                  try clear hcz25_1
                  try clear hcz25_2
                  try clear hcz58_0
                  try clear hcz58_1
                  try clear hcz58_2
                  try clear hcz60_0
                  try clear hcz60_1
                  try clear hcz60_2
                  try clear hfz11_0
                  try clear hfz11_1
                  try clear hfz11_2
                  try clear hfz15_0
                  try clear hfz15_1
                  try clear hfz15_2
                  try clear hfz19_0
                  try clear hfz19_1
                  try clear hfz19_2
                  try clear hfz20_0
                  try clear hfz20_1
                  try clear hfz20_2
                  try clear hfz24_0
                  try clear hfz24_1
                  try clear hfz24_2
                  try clear hfz25_0
                  try clear hfz25_1
                  try clear hfz25_2
                  try clear hfz58_0
                  try clear hfz58_1
                  try clear hfz58_2
                  try clear hfz60_0
                  try clear hfz60_1
                  try clear hfz60_2
                  try clear p2
                  obtain ⟨kq, x140_52, rfl, HA, HJ52, BK252, BK257, BK277, HB⟩ := hcut
                  cases kq with
                  | zero => exact absurd HA.out (by simp [laws_FnBounds.j2])
                  | succ kj52 =>
                    have H := HA.out
                    clear HA
                    simp only [laws_FnBounds.j2] at H
                    by_cases c65 : x140_52 = true
                    · subst c65
                      have H1 : (some false) = some r := by rw [if_pos rfl] at H; exact H
                      clear H
                      have H := H1
                      clear H1
                      obtain rfl := Option.some.inj H
                      go_wp2
                      go_ret
                      exact ⟨by first | rfl | (simp [errW_none, errW_some] <;> rfl) | (simp [*, errW_none, errW_some] <;> rfl), by repeat (first | (with_reducible first | exact HB.out | apply below_alloc | apply pw_below_drewN | apply below_drew1 | refine below_set ?_ GE252.out | refine below_set ?_ GE257.out | refine below_set ?_ GE277.out) | exact HB.out)⟩
                    · replace c65 := Bool.eq_false_iff.mpr c65
                      subst c65
                      have H1 : ((spec_BoundsOk.f t260 t261).bind fun t285 => (if t285 = true then (if t262 ≤ t260 then (if t261 ≤ t263 then ((impl_Exact.f kj52 t262 t263).bind fun t286 => (if t286 = true then (if (wrap64 (t263 - t262)) ≤ (wrap64 ((wrap64 (t261 - t260)) + 126)) then (some true) else (some ((wrap64 (t263 - t262)) == 4096))) else (some false))) else (some false)) else (some false)) else (if t262 = 0 then (some (t263 == 0)) else (some false)))) = some r := by rw [if_neg (show ¬ (false = true) by decide)] at H; exact H
                      clear H
                      have H := H1
                      clear H1
                      replace H := Option.bind_eq_some_iff.mp H
                      obtain ⟨t285, A660, H⟩ := H
                      replace H : (if t285 = true then (if t262 ≤ t260 then (if t261 ≤ t263 then ((impl_Exact.f kj52 t262 t263).bind fun t286 => (if t286 = true then (if (wrap64 (t263 - t262)) ≤ (wrap64 ((wrap64 (t261 - t260)) + 126)) then (some true) else (some ((wrap64 (t263 - t262)) == 4096))) else (some false))) else (some false)) else (some false)) else (if t262 = 0 then (some (t263 == 0)) else (some false))) = some r := H
                      have A66 := Aside0.mk A660
                      clear A660
                      by_cases c67 : t285 = true
                      · subst c67
                        have H1 : (if t262 ≤ t260 then (if t261 ≤ t263 then ((impl_Exact.f kj52 t262 t263).bind fun t286 => (if t286 = true then (if (wrap64 (t263 - t262)) ≤ (wrap64 ((wrap64 (t261 - t260)) + 126)) then (some true) else (some ((wrap64 (t263 - t262)) == 4096))) else (some false))) else (some false)) else (some false)) = some r := by rw [if_pos rfl] at H; exact H
                        clear H
                        have H := H1
                        clear H1
                        by_cases c68 : t262 ≤ t260
                        · rw [if_pos c68] at H
                          have c68b0 : decide (t262 ≤ t260) = true := decide_eq_true c68
                          clear c68
                          by_cases c69 : t261 ≤ t263
                          · rw [if_pos c69] at H
                            have c69b0 : decide (t261 ≤ t263) = true := decide_eq_true c69
                            clear c69
                            replace H := Option.bind_eq_some_iff.mp H
                            obtain ⟨t286, A700, H⟩ := H
                            replace H : (if t286 = true then (if (wrap64 (t263 - t262)) ≤ (wrap64 ((wrap64 (t261 - t260)) + 126)) then (some true) else (some ((wrap64 (t263 - t262)) == 4096))) else (some false)) = some r := H
                            have A70 := Aside0.mk A700
                            clear A700
                            by_cases c71 : t286 = true
                            · subst c71
                              have H1 : (if (wrap64 (t263 - t262)) ≤ (wrap64 ((wrap64 (t261 - t260)) + 126)) then (some true) else (some ((wrap64 (t263 - t262)) == 4096))) = some r := by rw [if_pos rfl] at H; exact H
                              clear H
                              have H := H1
                              clear H1
                              by_cases c72 : (wrap64 (t263 - t262)) ≤ (wrap64 ((wrap64 (t261 - t260)) + 126))
                              · rw [if_pos c72] at H
                                have c72b0 : decide ((wrap64 (t263 - t262)) ≤ (wrap64 ((wrap64 (t261 - t260)) + 126))) = true := decide_eq_true c72
                                clear c72
                                obtain rfl := Option.some.inj H
                                go_wp2_with (first | ((with_reducible refine gate_callee (f := 15) rfl ?_); refine goesL_ (some 143) rfl rfl Try.func15 (by kernel_rfl) rfl #[.int .i64 t260, .int .i64 t261] rfl (by (try simp only [List.map_toArray, List.map_cons, List.map_nil]); first | done | rfl | (simp only [List.length_drop, List.length_take]; rfl)) ?_; (with_reducible refine (spec_BoundsOk.calls t260 t261 true _ A66.out).mono ?_); rintro e w' ⟨rfl, ⟨nd, rfl⟩⟩; refine ⟨_, rfl, ?_⟩) | (go_at_call 38; (with_reducible refine (impl_Exact.calls kj52 t262 t263 true _ A70.out).mono ?_); rintro e w73 ⟨rfl, hb⟩; have n0_ := Aside0.mk (blk_below (g := gb252) (o := .cells #[.int .i64 t248, .int .i64 t249, .int .i64 t250] 40 (0, 0)) (by (with_reducible repeat (first | refine blk_drewN ?_ _ | refine blk_drew ?_ | refine blk_alloc ?_ _)); exact BK252.out) hb); have n1_ := Aside0.mk (blk_below (g := gb257) (o := .cells #[.int .i64 t253, .int .i64 t254, .int .i64 t255] 40 (0, 0)) (by (with_reducible repeat (first | refine blk_drewN ?_ _ | refine blk_drew ?_ | refine blk_alloc ?_ _)); exact BK257.out) hb); have n2_ := Aside0.mk (blk_below (g := gb277) (o := .cells #[.int .i64 t274, .int .i64 t275, .int .i64 t276] 40 (0, 0)) (by (with_reducible repeat (first | refine blk_drewN ?_ _ | refine blk_drew ?_ | refine blk_alloc ?_ _)); exact BK277.out) hb); have n3_ := Aside0.mk (below_step (by repeat (first | (with_reducible first | exact HB.out | apply below_alloc | apply pw_below_drewN | apply below_drew1 | refine below_set ?_ GE252.out | refine below_set ?_ GE257.out | refine below_set ?_ GE277.out) | exact HB.out)) hb); clear BK252; clear BK257; clear BK277; clear HB; have BK252 := n0_; have BK257 := n1_; have BK277 := n2_; have HB := n3_; clear n0_ n1_ n2_ n3_; (try clear hb); (try clear hb2); (try clear hk); (try clear hi)))
                                go_ret
                                exact ⟨by first | rfl | (simp [errW_none, errW_some] <;> rfl) | (simp [*, errW_none, errW_some] <;> rfl), by repeat (first | (with_reducible first | exact HB.out | apply below_alloc | apply pw_below_drewN | apply below_drew1 | refine below_set ?_ GE252.out | refine below_set ?_ GE257.out | refine below_set ?_ GE277.out) | exact HB.out)⟩
                              · rw [if_neg c72] at H
                                have c72b0 : decide ((wrap64 (t263 - t262)) ≤ (wrap64 ((wrap64 (t261 - t260)) + 126))) = false := decide_eq_false c72
                                clear c72
                                obtain rfl := Option.some.inj H
                                go_wp2_with (first | ((with_reducible refine gate_callee (f := 15) rfl ?_); refine goesL_ (some 143) rfl rfl Try.func15 (by kernel_rfl) rfl #[.int .i64 t260, .int .i64 t261] rfl (by (try simp only [List.map_toArray, List.map_cons, List.map_nil]); first | done | rfl | (simp only [List.length_drop, List.length_take]; rfl)) ?_; (with_reducible refine (spec_BoundsOk.calls t260 t261 true _ A66.out).mono ?_); rintro e w' ⟨rfl, ⟨nd, rfl⟩⟩; refine ⟨_, rfl, ?_⟩) | (go_at_call 38; (with_reducible refine (impl_Exact.calls kj52 t262 t263 true _ A70.out).mono ?_); rintro e w74 ⟨rfl, hb⟩; have n0_ := Aside0.mk (blk_below (g := gb252) (o := .cells #[.int .i64 t248, .int .i64 t249, .int .i64 t250] 40 (0, 0)) (by (with_reducible repeat (first | refine blk_drewN ?_ _ | refine blk_drew ?_ | refine blk_alloc ?_ _)); exact BK252.out) hb); have n1_ := Aside0.mk (blk_below (g := gb257) (o := .cells #[.int .i64 t253, .int .i64 t254, .int .i64 t255] 40 (0, 0)) (by (with_reducible repeat (first | refine blk_drewN ?_ _ | refine blk_drew ?_ | refine blk_alloc ?_ _)); exact BK257.out) hb); have n2_ := Aside0.mk (blk_below (g := gb277) (o := .cells #[.int .i64 t274, .int .i64 t275, .int .i64 t276] 40 (0, 0)) (by (with_reducible repeat (first | refine blk_drewN ?_ _ | refine blk_drew ?_ | refine blk_alloc ?_ _)); exact BK277.out) hb); have n3_ := Aside0.mk (below_step (by repeat (first | (with_reducible first | exact HB.out | apply below_alloc | apply pw_below_drewN | apply below_drew1 | refine below_set ?_ GE252.out | refine below_set ?_ GE257.out | refine below_set ?_ GE277.out) | exact HB.out)) hb); clear BK252; clear BK257; clear BK277; clear HB; have BK252 := n0_; have BK257 := n1_; have BK277 := n2_; have HB := n3_; clear n0_ n1_ n2_ n3_; (try clear hb); (try clear hb2); (try clear hk); (try clear hi)))
                                go_ret
                                exact ⟨by first | rfl | (simp [errW_none, errW_some] <;> rfl) | (simp [*, errW_none, errW_some] <;> rfl), by repeat (first | (with_reducible first | exact HB.out | apply below_alloc | apply pw_below_drewN | apply below_drew1 | refine below_set ?_ GE252.out | refine below_set ?_ GE257.out | refine below_set ?_ GE277.out) | exact HB.out)⟩
                            · replace c71 := Bool.eq_false_iff.mpr c71
                              subst c71
                              have H1 : (some false) = some r := by rw [if_neg (show ¬ (false = true) by decide)] at H; exact H
                              clear H
                              have H := H1
                              clear H1
                              obtain rfl := Option.some.inj H
                              go_wp2_with (first | ((with_reducible refine gate_callee (f := 15) rfl ?_); refine goesL_ (some 143) rfl rfl Try.func15 (by kernel_rfl) rfl #[.int .i64 t260, .int .i64 t261] rfl (by (try simp only [List.map_toArray, List.map_cons, List.map_nil]); first | done | rfl | (simp only [List.length_drop, List.length_take]; rfl)) ?_; (with_reducible refine (spec_BoundsOk.calls t260 t261 true _ A66.out).mono ?_); rintro e w' ⟨rfl, ⟨nd, rfl⟩⟩; refine ⟨_, rfl, ?_⟩) | (go_at_call 38; (with_reducible refine (impl_Exact.calls kj52 t262 t263 false _ A70.out).mono ?_); rintro e w75 ⟨rfl, hb⟩; have n0_ := Aside0.mk (blk_below (g := gb252) (o := .cells #[.int .i64 t248, .int .i64 t249, .int .i64 t250] 40 (0, 0)) (by (with_reducible repeat (first | refine blk_drewN ?_ _ | refine blk_drew ?_ | refine blk_alloc ?_ _)); exact BK252.out) hb); have n1_ := Aside0.mk (blk_below (g := gb257) (o := .cells #[.int .i64 t253, .int .i64 t254, .int .i64 t255] 40 (0, 0)) (by (with_reducible repeat (first | refine blk_drewN ?_ _ | refine blk_drew ?_ | refine blk_alloc ?_ _)); exact BK257.out) hb); have n2_ := Aside0.mk (blk_below (g := gb277) (o := .cells #[.int .i64 t274, .int .i64 t275, .int .i64 t276] 40 (0, 0)) (by (with_reducible repeat (first | refine blk_drewN ?_ _ | refine blk_drew ?_ | refine blk_alloc ?_ _)); exact BK277.out) hb); have n3_ := Aside0.mk (below_step (by repeat (first | (with_reducible first | exact HB.out | apply below_alloc | apply pw_below_drewN | apply below_drew1 | refine below_set ?_ GE252.out | refine below_set ?_ GE257.out | refine below_set ?_ GE277.out) | exact HB.out)) hb); clear BK252; clear BK257; clear BK277; clear HB; have BK252 := n0_; have BK257 := n1_; have BK277 := n2_; have HB := n3_; clear n0_ n1_ n2_ n3_; (try clear hb); (try clear hb2); (try clear hk); (try clear hi)))
                              go_ret
                              exact ⟨by first | rfl | (simp [errW_none, errW_some] <;> rfl) | (simp [*, errW_none, errW_some] <;> rfl), by repeat (first | (with_reducible first | exact HB.out | apply below_alloc | apply pw_below_drewN | apply below_drew1 | refine below_set ?_ GE252.out | refine below_set ?_ GE257.out | refine below_set ?_ GE277.out) | exact HB.out)⟩
                          · rw [if_neg c69] at H
                            have c69b0 : decide (t261 ≤ t263) = false := decide_eq_false c69
                            clear c69
                            obtain rfl := Option.some.inj H
                            go_wp2_with (first | ((with_reducible refine gate_callee (f := 15) rfl ?_); refine goesL_ (some 143) rfl rfl Try.func15 (by kernel_rfl) rfl #[.int .i64 t260, .int .i64 t261] rfl (by (try simp only [List.map_toArray, List.map_cons, List.map_nil]); first | done | rfl | (simp only [List.length_drop, List.length_take]; rfl)) ?_; (with_reducible refine (spec_BoundsOk.calls t260 t261 true _ A66.out).mono ?_); rintro e w' ⟨rfl, ⟨nd, rfl⟩⟩; refine ⟨_, rfl, ?_⟩))
                            go_ret
                            exact ⟨by first | rfl | (simp [errW_none, errW_some] <;> rfl) | (simp [*, errW_none, errW_some] <;> rfl), by repeat (first | (with_reducible first | exact HB.out | apply below_alloc | apply pw_below_drewN | apply below_drew1 | refine below_set ?_ GE252.out | refine below_set ?_ GE257.out | refine below_set ?_ GE277.out) | exact HB.out)⟩
                        · rw [if_neg c68] at H
                          have c68b0 : decide (t262 ≤ t260) = false := decide_eq_false c68
                          clear c68
                          obtain rfl := Option.some.inj H
                          go_wp2_with (first | ((with_reducible refine gate_callee (f := 15) rfl ?_); refine goesL_ (some 143) rfl rfl Try.func15 (by kernel_rfl) rfl #[.int .i64 t260, .int .i64 t261] rfl (by (try simp only [List.map_toArray, List.map_cons, List.map_nil]); first | done | rfl | (simp only [List.length_drop, List.length_take]; rfl)) ?_; (with_reducible refine (spec_BoundsOk.calls t260 t261 true _ A66.out).mono ?_); rintro e w' ⟨rfl, ⟨nd, rfl⟩⟩; refine ⟨_, rfl, ?_⟩))
                          go_ret
                          exact ⟨by first | rfl | (simp [errW_none, errW_some] <;> rfl) | (simp [*, errW_none, errW_some] <;> rfl), by repeat (first | (with_reducible first | exact HB.out | apply below_alloc | apply pw_below_drewN | apply below_drew1 | refine below_set ?_ GE252.out | refine below_set ?_ GE257.out | refine below_set ?_ GE277.out) | exact HB.out)⟩
                      · replace c67 := Bool.eq_false_iff.mpr c67
                        subst c67
                        have H1 : (if t262 = 0 then (some (t263 == 0)) else (some false)) = some r := by rw [if_neg (show ¬ (false = true) by decide)] at H; exact H
                        clear H
                        have H := H1
                        clear H1
                        by_cases c76 : t262 = 0
                        · rw [if_pos c76] at H
                          have c76b0 : (t262 == 0) = true := beq_iff_eq.mpr c76
                          have c76b1 : (t262 != 0) = false := bne_eq_false_iff_eq.mpr c76
                          clear c76
                          obtain rfl := Option.some.inj H
                          go_wp2_with (first | ((with_reducible refine gate_callee (f := 15) rfl ?_); refine goesL_ (some 143) rfl rfl Try.func15 (by kernel_rfl) rfl #[.int .i64 t260, .int .i64 t261] rfl (by (try simp only [List.map_toArray, List.map_cons, List.map_nil]); first | done | rfl | (simp only [List.length_drop, List.length_take]; rfl)) ?_; (with_reducible refine (spec_BoundsOk.calls t260 t261 false _ A66.out).mono ?_); rintro e w' ⟨rfl, ⟨nd, rfl⟩⟩; refine ⟨_, rfl, ?_⟩))
                          go_ret
                          exact ⟨by first | rfl | (simp [errW_none, errW_some] <;> rfl) | (simp [*, errW_none, errW_some] <;> rfl), by repeat (first | (with_reducible first | exact HB.out | apply below_alloc | apply pw_below_drewN | apply below_drew1 | refine below_set ?_ GE252.out | refine below_set ?_ GE257.out | refine below_set ?_ GE277.out) | exact HB.out)⟩
                        · rw [if_neg c76] at H
                          have c76b0 : (t262 == 0) = false := beq_eq_false_iff_ne.mpr c76
                          have c76b1 : (t262 != 0) = true := bne_iff_ne.mpr c76
                          obtain rfl := Option.some.inj H
                          go_wp2_with (first | ((with_reducible refine gate_callee (f := 15) rfl ?_); refine goesL_ (some 143) rfl rfl Try.func15 (by kernel_rfl) rfl #[.int .i64 t260, .int .i64 t261] rfl (by (try simp only [List.map_toArray, List.map_cons, List.map_nil]); first | done | rfl | (simp only [List.length_drop, List.length_take]; rfl)) ?_; (with_reducible refine (spec_BoundsOk.calls t260 t261 false _ A66.out).mono ?_); rintro e w' ⟨rfl, ⟨nd, rfl⟩⟩; refine ⟨_, rfl, ?_⟩))
                          go_ret
                          exact ⟨by first | rfl | (simp [errW_none, errW_some] <;> rfl) | (simp [*, errW_none, errW_some] <;> rfl), by repeat (first | (with_reducible first | exact HB.out | apply below_alloc | apply pw_below_drewN | apply below_drew1 | refine below_set ?_ GE252.out | refine below_set ?_ GE257.out | refine below_set ?_ GE277.out) | exact HB.out)⟩

/-- THE ONE PURE STATEMENT of laws_FnBounds: yours. -/
def laws_FnBounds.Pure : Prop := ∀ (l0 : List Int), l0.length ≤ maxLen → l0.length * 1 ≤ 140737488351232 → (∀ x ∈ l0, (Lit.int .u8 x).wf = true) → ∃ k, laws_FnBounds.f k l0 = some true
theorem laws_FnBounds.walk (P : laws_FnBounds.Pure) (a0 : Option Addr) (len0 cap0 : Nat) (z0 : List Int) (w : World) (w0 : (a0 = none ∧ len0 = 0 ∧ cap0 = 0 ∧ z0 = []) ∨ ∃ x, a0 = some x ∧ len0 ≤ cap0 ∧ cap0 ≤ maxLen ∧ z0.length = cap0 ∧ (∀ i, i < z0.length → w.cell? (x.add i) = some (.int .u8 (z0.getD i 0))) ∧ ∀ n ∈ z0, (Lit.int .u8 n).wf = true) (y0 : len0 * 1 ≤ 140737488351232) :
    Calls Try.prog 9 #[.slice a0 len0 cap0] w fun e w' => e = .returned (.bool true) ∧ Below w.heap.size w w' := by
  obtain ⟨l0, rfl, hr0, hm0, hw0, hc0⟩ := ReadsInt.ofRowC w0
  obtain ⟨k, h⟩ := P l0 hm0 y0 hw0
  refine (laws_FnBounds.calls k _ _ l0 true w (Kd.C_of_reads (d := (0 : Int)) (h1 := fun _ => rfl) hr0) hc0 h).mono ?_
  rintro e w' ⟨rfl, hd⟩
  exact ⟨rfl, hd⟩

end Go.Proofs.Ytoiffjimmjehnaa.PFnBounds
