-- Written by a program of this project (xprint.py) out of the translation; Lean checks it.
import Derived.Test.YtcmlledlhknbpaaPFnExactTouchLrux0
import Derived.Test.YtcmlledlhknbpaaPFnExactTouchLrux1
import Derived.Test.YtcmlledlhknbpaaPFnExactTouchLrux2
import Derived.Test.YtcmlledlhknbpaaPFnExactTouchLrux3
namespace Go.Proofs.Ytcmlledlhknbpaa.PFnExactTouchLru
open Go.RowKit Go.Proofs.YtcmlledlhknbpaaW.PrintWords Go.Proofs.YtcmlledlhknbpaaW.PrintLast Go.Proofs.YtcmlledlhknbpaaW.PrintMore
attribute [local go_sem] max2_int min2_int max_two min_two max_three min_three max_four min_four   -- for this text's walks alone
set_option linter.unusedVariables false
set_option linter.unusedSimpArgs false

/-! ### laws_FnExactTouchLru: function 7 -/
mutual
def laws_FnExactTouchLru.j0 : Nat → List Int → Int → Int → List Int → Bool → Bool → List Int → List Int → Bool → Bool → Bool → Option (Bool)
  | 0, _, _, _, _, _, _, _, _, _, _, _ => none
  | k + 1, x0, x1, x2, x7, x8, x9, x10, x11, x12, x13, x55 => if x55 = true then (some false) else ((laws_toIntS.f k x0).bind fun t168 => ((laws_eqIntS.f k x10 t168).bind fun t171 => (if t171 = true then ((laws_markIntS.f k x10 1).bind fun bt172 => (if bt172.1 < 0 then (laws_FnExactTouchLru.j1 k x0 x1 x2 x7 x8 x9 x11 true) else ((laws_eqIntS.f k x11 x7).bind fun t174 => (if t174 = true then (if (x12 != x8) = true then (laws_FnExactTouchLru.j1 k x0 x1 x2 x7 x8 x9 x11 true) else (laws_FnExactTouchLru.j1 k x0 x1 x2 x7 x8 x9 x11 (x13 != x9))) else (laws_FnExactTouchLru.j1 k x0 x1 x2 x7 x8 x9 x11 true))))) else (some false))))
def laws_FnExactTouchLru.j1 : Nat → List Int → Int → Int → List Int → Bool → Bool → List Int → Bool → Option (Bool)
  | 0, _, _, _, _, _, _, _, _ => none
  | k + 1, x0, x1, x2, x7, x8, x9, x11, x81 => if x81 = true then (some false) else ((laws_markIntS.f k x11 1).bind fun bt175 => ((laws_heldIntS.f k bt175.2 1).bind fun t177 => (if t177 < 0 then (some false) else (if t177 = bt175.1 then ((laws_toIntS.f k x0).bind fun t178 => ((impl_TouchLru.f k t178 x1 x2).bind fun bt181 => ((laws_eqIntS.f k bt181.1 x7).bind fun t186 => (if t186 = true then (if (bt181.2.1 != x8) = true then (laws_FnExactTouchLru.j2 k bt175.2 bt175.1 true) else (laws_FnExactTouchLru.j2 k bt175.2 bt175.1 (bt181.2.2 != x9))) else (laws_FnExactTouchLru.j2 k bt175.2 bt175.1 true))))) else (some false)))))
def laws_FnExactTouchLru.j2 : Nat → List Int → Int → Bool → Option (Bool)
  | 0, _, _, _ => none
  | k + 1, x11, x15, x115 => if x115 = true then (some false) else ((laws_heldIntS.f k x11 1).bind fun t187 => (if t187 < 0 then (some false) else (if t187 = x15 then (some true) else (some false))))
end
def laws_FnExactTouchLru.f (k : Nat) (l0 : List Int) (a1 : Int) (a2 : Int) : Option (Bool) := if (l0.length : Int) > 1048576 then (some true) else ((laws_toIntS.f k l0).bind fun t151 => ((spec_TouchLru.f k t151 a1 a2).bind fun bt154 => ((laws_toIntS.f k l0).bind fun t159 => ((impl_TouchLru.f k t159 a1 a2).bind fun bt162 => ((laws_eqIntS.f k bt162.1 bt154.1).bind fun t167 => (if t167 = true then (if (bt162.2.1 != bt154.2.1) = true then (laws_FnExactTouchLru.j0 k l0 a1 a2 bt154.1 bt154.2.1 bt154.2.2 t159 bt162.1 bt162.2.1 bt162.2.2 true) else (laws_FnExactTouchLru.j0 k l0 a1 a2 bt154.1 bt154.2.1 bt154.2.2 t159 bt162.1 bt162.2.1 bt162.2.2 (bt162.2.2 != bt154.2.2))) else (laws_FnExactTouchLru.j0 k l0 a1 a2 bt154.1 bt154.2.1 bt154.2.2 t159 bt162.1 bt162.2.1 bt162.2.2 true)))))))
theorem laws_FnExactTouchLru.mono_l : ∀ k, (∀ y0 y1 y2 y3 y4 y5 y6 y7 y8 y9 y10, LeO (laws_FnExactTouchLru.j0 k y0 y1 y2 y3 y4 y5 y6 y7 y8 y9 y10) (laws_FnExactTouchLru.j0 (k + 1) y0 y1 y2 y3 y4 y5 y6 y7 y8 y9 y10)) ∧ (∀ y0 y1 y2 y3 y4 y5 y6 y7, LeO (laws_FnExactTouchLru.j1 k y0 y1 y2 y3 y4 y5 y6 y7) (laws_FnExactTouchLru.j1 (k + 1) y0 y1 y2 y3 y4 y5 y6 y7)) ∧ (∀ y0 y1 y2, LeO (laws_FnExactTouchLru.j2 k y0 y1 y2) (laws_FnExactTouchLru.j2 (k + 1) y0 y1 y2))
  | 0 => ⟨fun _ _ _ _ _ _ _ _ _ _ _ r h => by simp [laws_FnExactTouchLru.j0] at h, fun _ _ _ _ _ _ _ _ r h => by simp [laws_FnExactTouchLru.j1] at h, fun _ _ _ r h => by simp [laws_FnExactTouchLru.j2] at h⟩
  | k + 1 => by
    obtain ⟨ih0, ih1, ih2⟩ := laws_FnExactTouchLru.mono_l k
    refine ⟨?_, ?_, ?_⟩
    · intro y0 y1 y2 y3 y4 y5 y6 y7 y8 y9 y10
      unfold laws_FnExactTouchLru.j0
      repeat' first
      | (with_reducible exact ih0 _ _ _ _ _ _ _ _ _ _ _)
      | (with_reducible exact ih1 _ _ _ _ _ _ _ _)
      | (with_reducible exact ih2 _ _ _)
      | (with_reducible exact impl_TouchLru.mono _ _ _ _)
      | (with_reducible exact laws_eqIntS.mono _ _ _)
      | (with_reducible exact laws_heldIntS.mono _ _ _)
      | (with_reducible exact laws_markIntS.mono _ _ _)
      | (with_reducible exact laws_toIntS.mono _ _)
      | (with_reducible exact spec_TouchLru.mono _ _ _ _)
      | (with_reducible exact LeO.refl _)
      | (with_reducible exact LeO.none _)
      | (with_reducible refine LeO.ite ?_ ?_)
      | (with_reducible refine LeO.bind ?_ (fun _ => ?_))
      | exact ih0 _ _ _ _ _ _ _ _ _ _ _
      | exact ih1 _ _ _ _ _ _ _ _
      | exact ih2 _ _ _
      | exact impl_TouchLru.mono _ _ _ _
      | exact laws_eqIntS.mono _ _ _
      | exact laws_heldIntS.mono _ _ _
      | exact laws_markIntS.mono _ _ _
      | exact laws_toIntS.mono _ _
      | exact spec_TouchLru.mono _ _ _ _
      | exact LeO.none _
      | refine LeO.ite ?_ ?_
      | refine LeO.bind ?_ (fun _ => ?_)
    · intro y0 y1 y2 y3 y4 y5 y6 y7
      unfold laws_FnExactTouchLru.j1
      repeat' first
      | (with_reducible exact ih0 _ _ _ _ _ _ _ _ _ _ _)
      | (with_reducible exact ih1 _ _ _ _ _ _ _ _)
      | (with_reducible exact ih2 _ _ _)
      | (with_reducible exact impl_TouchLru.mono _ _ _ _)
      | (with_reducible exact laws_eqIntS.mono _ _ _)
      | (with_reducible exact laws_heldIntS.mono _ _ _)
      | (with_reducible exact laws_markIntS.mono _ _ _)
      | (with_reducible exact laws_toIntS.mono _ _)
      | (with_reducible exact spec_TouchLru.mono _ _ _ _)
      | (with_reducible exact LeO.refl _)
      | (with_reducible exact LeO.none _)
      | (with_reducible refine LeO.ite ?_ ?_)
      | (with_reducible refine LeO.bind ?_ (fun _ => ?_))
      | exact ih0 _ _ _ _ _ _ _ _ _ _ _
      | exact ih1 _ _ _ _ _ _ _ _
      | exact ih2 _ _ _
      | exact impl_TouchLru.mono _ _ _ _
      | exact laws_eqIntS.mono _ _ _
      | exact laws_heldIntS.mono _ _ _
      | exact laws_markIntS.mono _ _ _
      | exact laws_toIntS.mono _ _
      | exact spec_TouchLru.mono _ _ _ _
      | exact LeO.none _
      | refine LeO.ite ?_ ?_
      | refine LeO.bind ?_ (fun _ => ?_)
    · intro y0 y1 y2
      unfold laws_FnExactTouchLru.j2
      repeat' first
      | (with_reducible exact ih0 _ _ _ _ _ _ _ _ _ _ _)
      | (with_reducible exact ih1 _ _ _ _ _ _ _ _)
      | (with_reducible exact ih2 _ _ _)
      | (with_reducible exact impl_TouchLru.mono _ _ _ _)
      | (with_reducible exact laws_eqIntS.mono _ _ _)
      | (with_reducible exact laws_heldIntS.mono _ _ _)
      | (with_reducible exact laws_markIntS.mono _ _ _)
      | (with_reducible exact laws_toIntS.mono _ _)
      | (with_reducible exact spec_TouchLru.mono _ _ _ _)
      | (with_reducible exact LeO.refl _)
      | (with_reducible exact LeO.none _)
      | (with_reducible refine LeO.ite ?_ ?_)
      | (with_reducible refine LeO.bind ?_ (fun _ => ?_))
      | exact ih0 _ _ _ _ _ _ _ _ _ _ _
      | exact ih1 _ _ _ _ _ _ _ _
      | exact ih2 _ _ _
      | exact impl_TouchLru.mono _ _ _ _
      | exact laws_eqIntS.mono _ _ _
      | exact laws_heldIntS.mono _ _ _
      | exact laws_markIntS.mono _ _ _
      | exact laws_toIntS.mono _ _
      | exact spec_TouchLru.mono _ _ _ _
      | exact LeO.none _
      | refine LeO.ite ?_ ?_
      | refine LeO.bind ?_ (fun _ => ?_)
theorem laws_FnExactTouchLru.mono : ∀ a0 a1 a2 k, LeO (laws_FnExactTouchLru.f k a0 a1 a2) (laws_FnExactTouchLru.f (k + 1) a0 a1 a2) := by
  intro a0 a1 a2 k
  obtain ⟨ih0, ih1, ih2⟩ := laws_FnExactTouchLru.mono_l k
  unfold laws_FnExactTouchLru.f
  repeat' first
      | (with_reducible exact ih0 _ _ _ _ _ _ _ _ _ _ _)
      | (with_reducible exact ih1 _ _ _ _ _ _ _ _)
      | (with_reducible exact ih2 _ _ _)
      | (with_reducible exact impl_TouchLru.mono _ _ _ _)
      | (with_reducible exact laws_eqIntS.mono _ _ _)
      | (with_reducible exact laws_heldIntS.mono _ _ _)
      | (with_reducible exact laws_markIntS.mono _ _ _)
      | (with_reducible exact laws_toIntS.mono _ _)
      | (with_reducible exact spec_TouchLru.mono _ _ _ _)
      | (with_reducible exact LeO.refl _)
      | (with_reducible exact LeO.none _)
      | (with_reducible refine LeO.ite ?_ ?_)
      | (with_reducible refine LeO.bind ?_ (fun _ => ?_))
      | exact ih0 _ _ _ _ _ _ _ _ _ _ _
      | exact ih1 _ _ _ _ _ _ _ _
      | exact ih2 _ _ _
      | exact impl_TouchLru.mono _ _ _ _
      | exact laws_eqIntS.mono _ _ _
      | exact laws_heldIntS.mono _ _ _
      | exact laws_markIntS.mono _ _ _
      | exact laws_toIntS.mono _ _
      | exact spec_TouchLru.mono _ _ _ _
      | exact LeO.none _
      | refine LeO.ite ?_ ?_
      | refine LeO.bind ?_ (fun _ => ?_)
set_option maxHeartbeats 8000000 in
set_option maxRecDepth 100000 in
theorem laws_FnExactTouchLru.calls (k : Nat) (A0 : Option Addr) (c0 : Nat) (l0 : List Int) (a1 : Int) (a2 : Int) (r : Bool) (w : World) (hr0 : Kd.C (Kd.int .i64) w A0 l0.length l0) (hc0 : l0.length ≤ c0) (h : laws_FnExactTouchLru.f k l0 a1 a2 = some r) :
    Calls Try.prog 7 #[.slice A0 l0.length c0, .int .i64 a1, .int .i64 a2] w fun e w' => e = .returned (.bool r) ∧ Below w.heap.size w w' := by
  have HR0 := Aside0.mk hr0
  have HC0 := Aside0.mk hc0
  clear hr0 hc0
  have HB := Aside0.mk (Below.refl w.heap.size w)
  have H : (if (l0.length : Int) > 1048576 then (some true) else ((laws_toIntS.f k l0).bind fun t151 => ((spec_TouchLru.f k t151 a1 a2).bind fun bt154 => ((laws_toIntS.f k l0).bind fun t159 => ((impl_TouchLru.f k t159 a1 a2).bind fun bt162 => ((laws_eqIntS.f k bt162.1 bt154.1).bind fun t167 => (if t167 = true then (if (bt162.2.1 != bt154.2.1) = true then (laws_FnExactTouchLru.j0 k l0 a1 a2 bt154.1 bt154.2.1 bt154.2.2 t159 bt162.1 bt162.2.1 bt162.2.2 true) else (laws_FnExactTouchLru.j0 k l0 a1 a2 bt154.1 bt154.2.1 bt154.2.2 t159 bt162.1 bt162.2.1 bt162.2.2 (bt162.2.2 != bt154.2.2))) else (laws_FnExactTouchLru.j0 k l0 a1 a2 bt154.1 bt154.2.1 bt154.2.2 t159 bt162.1 bt162.2.1 bt162.2.2 true)))))))) = some r := h
  clear h
  by_cases c4 : (l0.length : Int) > 1048576
  · rw [if_pos c4] at H
    have c4b0 : decide (1048576 < (l0.length : Int)) = true := decide_eq_true c4
    have c4b1 : decide (1048576 < l0.length) = true := decide_eq_true (by omega)
    clear c4
    obtain rfl := Option.some.inj H
    go_enter Try.func7, Try.ntmps7
    go_wp2
    go_ret
    exact ⟨by first | rfl | (simp [errW_none, errW_some] <;> rfl) | (simp [*, errW_none, errW_some] <;> rfl), by repeat (first | (with_reducible first | exact HB.out | apply below_alloc | apply pw_below_drewN | apply below_drew1) | exact HB.out)⟩
  · rw [if_neg c4] at H
    have c4b0 : decide (1048576 < (l0.length : Int)) = false := decide_eq_false c4
    have c4b1 : decide (1048576 < l0.length) = false := decide_eq_false (by omega)
    clear c4
    replace H := Option.bind_eq_some_iff.mp H
    obtain ⟨t151, A50, H⟩ := H
    replace H : ((spec_TouchLru.f k t151 a1 a2).bind fun bt154 => ((laws_toIntS.f k l0).bind fun t159 => ((impl_TouchLru.f k t159 a1 a2).bind fun bt162 => ((laws_eqIntS.f k bt162.1 bt154.1).bind fun t167 => (if t167 = true then (if (bt162.2.1 != bt154.2.1) = true then (laws_FnExactTouchLru.j0 k l0 a1 a2 bt154.1 bt154.2.1 bt154.2.2 t159 bt162.1 bt162.2.1 bt162.2.2 true) else (laws_FnExactTouchLru.j0 k l0 a1 a2 bt154.1 bt154.2.1 bt154.2.2 t159 bt162.1 bt162.2.1 bt162.2.2 (bt162.2.2 != bt154.2.2))) else (laws_FnExactTouchLru.j0 k l0 a1 a2 bt154.1 bt154.2.1 bt154.2.2 t159 bt162.1 bt162.2.1 bt162.2.2 true)))))) = some r := H
    have A5 := Aside0.mk A50
    clear A50
    replace H := Option.bind_eq_some_iff.mp H
    obtain ⟨⟨t154, t155, t156⟩, A60, H⟩ := H
    replace H : ((laws_toIntS.f k l0).bind fun t159 => ((impl_TouchLru.f k t159 a1 a2).bind fun bt162 => ((laws_eqIntS.f k bt162.1 t154).bind fun t167 => (if t167 = true then (if (bt162.2.1 != t155) = true then (laws_FnExactTouchLru.j0 k l0 a1 a2 t154 t155 t156 t159 bt162.1 bt162.2.1 bt162.2.2 true) else (laws_FnExactTouchLru.j0 k l0 a1 a2 t154 t155 t156 t159 bt162.1 bt162.2.1 bt162.2.2 (bt162.2.2 != t156))) else (laws_FnExactTouchLru.j0 k l0 a1 a2 t154 t155 t156 t159 bt162.1 bt162.2.1 bt162.2.2 true))))) = some r := H
    have A6 := Aside0.mk A60
    clear A60
    replace H := Option.bind_eq_some_iff.mp H
    obtain ⟨t159, A70, H⟩ := H
    replace H : ((impl_TouchLru.f k t159 a1 a2).bind fun bt162 => ((laws_eqIntS.f k bt162.1 t154).bind fun t167 => (if t167 = true then (if (bt162.2.1 != t155) = true then (laws_FnExactTouchLru.j0 k l0 a1 a2 t154 t155 t156 t159 bt162.1 bt162.2.1 bt162.2.2 true) else (laws_FnExactTouchLru.j0 k l0 a1 a2 t154 t155 t156 t159 bt162.1 bt162.2.1 bt162.2.2 (bt162.2.2 != t156))) else (laws_FnExactTouchLru.j0 k l0 a1 a2 t154 t155 t156 t159 bt162.1 bt162.2.1 bt162.2.2 true)))) = some r := H
    have A7 := Aside0.mk A70
    clear A70
    replace H := Option.bind_eq_some_iff.mp H
    obtain ⟨⟨t162, t163, t164⟩, A80, H⟩ := H
    replace H : ((laws_eqIntS.f k t162 t154).bind fun t167 => (if t167 = true then (if (t163 != t155) = true then (laws_FnExactTouchLru.j0 k l0 a1 a2 t154 t155 t156 t159 t162 t163 t164 true) else (laws_FnExactTouchLru.j0 k l0 a1 a2 t154 t155 t156 t159 t162 t163 t164 (t164 != t156))) else (laws_FnExactTouchLru.j0 k l0 a1 a2 t154 t155 t156 t159 t162 t163 t164 true))) = some r := H
    have A8 := Aside0.mk A80
    clear A80
    have HC9 := Aside0.mk H
    clear H
    go_enter Try.func7, Try.ntmps7
    go_upto_region 6 with (first | ((with_reducible refine gate_callee (f := 9) rfl ?_); refine goesL_ (some 25) rfl rfl Try.func9 (by kernel_rfl) rfl #[.slice A0 l0.length c0] rfl (by (try simp only [List.map_toArray, List.map_cons, List.map_nil]); first | done | rfl | (simp only [List.length_drop, List.length_take]; rfl)) ?_; (with_reducible refine (laws_toIntS.calls k _ _ l0 t151 _ ?side1 ?side2 A5.out).mono ?_); (case side1 => repeat (first | exact HR0.out | (with_reducible refine Kd.C_alloc ?_ _) | (with_reducible refine Kd.C_drewN ?_ _) | (with_reducible refine Kd.C_drew ?_))); (case side2 => exact HC0.out); rintro e w10 ⟨v152, rfl, ho0, hb⟩; (try (with_reducible replace ho0 := KdC.R_of ho0)); refine ⟨_, rfl, ?_⟩; have n0_ := Aside0.mk (KdC.R_lower ho0 (below_size (by repeat (first | (with_reducible first | exact HB.out | apply below_alloc | apply pw_below_drewN | apply below_drew1) | exact HB.out)))); have n1_ := Aside0.mk (below_step (by repeat (first | (with_reducible first | exact HB.out | apply below_alloc | apply pw_below_drewN | apply below_drew1) | exact HB.out)) hb); clear HB; have HO153 := n0_; have HB := n1_; clear n0_ n1_; (try clear hb); (try clear hb2); (try clear hk); (try clear hi); (try clear ho0); obtain ⟨Ao11, co11, eo11⟩ := KdC.R_slice HO153.out; subst eo11) | ((with_reducible refine gate_callee (f := 20) rfl ?_); refine goesL_ (some 28) rfl rfl Try.func20 (by kernel_rfl) rfl #[.slice Ao11 t151.length co11, .int .i64 a1, .int .i64 a2] rfl (by (try simp only [List.map_toArray, List.map_cons, List.map_nil]); first | done | rfl | (simp only [List.length_drop, List.length_take]; rfl)) ?_; (with_reducible refine (spec_TouchLru.calls k _ _ t151 a1 a2 t154 t155 t156 _ ?side1 ?side2 A6.out).mono ?_); (case side1 => repeat (first | exact (KdC.R_reads' HO153.out).2.2 | (with_reducible refine Kd.C_alloc ?_ _) | (with_reducible refine Kd.C_drewN ?_ _) | (with_reducible refine Kd.C_drew ?_))); (case side2 => exact (KdC.R_reads' HO153.out).2.1); rintro e w12 ⟨v157, rfl, ho0, hb⟩; (try (with_reducible replace ho0 := KdC.R_of ho0)); refine ⟨_, rfl, ?_⟩; have n0_ := Aside0.mk (KdC.R_elder' (by (with_reducible repeat (first | apply KdC.R_alloc | apply KdC.R_drewN | apply KdC.R_drew)); exact HO153.out) (KdC.R_base ho0) hb); have n1_ := Aside0.mk (KdC.R_lower (KdC.R_new' ho0 (KdC.R_lt (by (with_reducible repeat (first | apply KdC.R_alloc | apply KdC.R_drewN | apply KdC.R_drew)); exact HO153.out))) (below_size (by repeat (first | (with_reducible first | exact HB.out | apply below_alloc | apply pw_below_drewN | apply below_drew1) | exact HB.out)))); have n2_ := Aside0.mk (below_step (by repeat (first | (with_reducible first | exact HB.out | apply below_alloc | apply pw_below_drewN | apply below_drew1) | exact HB.out)) hb); clear HO153; clear HB; have HO153 := n0_; have HO158 := n1_; have HB := n2_; clear n0_ n1_ n2_; (try clear hb); (try clear hb2); (try clear hk); (try clear hi); (try clear ho0)) | ((with_reducible refine gate_callee (f := 9) rfl ?_); refine goesL_ (some 33) rfl rfl Try.func9 (by kernel_rfl) rfl #[.slice A0 l0.length c0] rfl (by (try simp only [List.map_toArray, List.map_cons, List.map_nil]); first | done | rfl | (simp only [List.length_drop, List.length_take]; rfl)) ?_; (with_reducible refine (laws_toIntS.calls k _ _ l0 t159 _ ?side1 ?side2 A7.out).mono ?_); (case side1 => repeat (first | exact (Kd.C_below HR0.out HB.out) | (with_reducible refine Kd.C_alloc ?_ _) | (with_reducible refine Kd.C_drewN ?_ _) | (with_reducible refine Kd.C_drew ?_))); (case side2 => exact HC0.out); rintro e w13 ⟨v160, rfl, ho0, hb⟩; (try (with_reducible replace ho0 := KdC.R_of ho0)); refine ⟨_, rfl, ?_⟩; have n0_ := Aside0.mk (KdC.R_elder' (by (with_reducible repeat (first | apply KdC.R_alloc | apply KdC.R_drewN | apply KdC.R_drew)); exact HO153.out) (KdC.R_base ho0) hb); have n1_ := Aside0.mk (KdC.R_elder' (by (with_reducible repeat (first | apply KdC.R_alloc | apply KdC.R_drewN | apply KdC.R_drew)); exact HO158.out) (KdC.R_base ho0) hb); have n2_ := Aside0.mk (KdC.R_lower (KdC.R_new' (KdC.R_new' ho0 (KdC.R_lt (by (with_reducible repeat (first | apply KdC.R_alloc | apply KdC.R_drewN | apply KdC.R_drew)); exact HO153.out))) (KdC.R_lt (by (with_reducible repeat (first | apply KdC.R_alloc | apply KdC.R_drewN | apply KdC.R_drew)); exact HO158.out))) (below_size (by repeat (first | (with_reducible first | exact HB.out | apply below_alloc | apply pw_below_drewN | apply below_drew1) | exact HB.out)))); have n3_ := Aside0.mk (below_step (by repeat (first | (with_reducible first | exact HB.out | apply below_alloc | apply pw_below_drewN | apply below_drew1) | exact HB.out)) hb); clear HO153; clear HO158; clear HB; have HO153 := n0_; have HO158 := n1_; have HO161 := n2_; have HB := n3_; clear n0_ n1_ n2_ n3_; (try clear hb); (try clear hb2); (try clear hk); (try clear hi); (try clear ho0); obtain ⟨Ao14, co14, eo14⟩ := KdC.R_slice HO161.out; subst eo14) | ((with_reducible refine gate_callee (f := 21) rfl ?_); refine goesL_ (some 38) rfl rfl Try.func21 (by kernel_rfl) rfl #[.slice Ao14 t159.length co14, .int .i64 a1, .int .i64 a2] rfl (by (try simp only [List.map_toArray, List.map_cons, List.map_nil]); first | done | rfl | (simp only [List.length_drop, List.length_take]; rfl)) ?_; (with_reducible refine (impl_TouchLru.calls k _ _ t159 a1 a2 t162 t163 t164 _ ?side1 ?side2 A8.out).mono ?_); (case side1 => repeat (first | exact (KdC.R_reads' HO161.out).2.2 | (with_reducible refine Kd.C_alloc ?_ _) | (with_reducible refine Kd.C_drewN ?_ _) | (with_reducible refine Kd.C_drew ?_))); (case side2 => exact (KdC.R_reads' HO161.out).2.1); rintro e w15 ⟨v165, rfl, ho0, hb⟩; (try (with_reducible replace ho0 := KdC.R_of ho0)); refine ⟨_, rfl, ?_⟩; have n0_ := Aside0.mk (KdC.R_elder' (by (with_reducible repeat (first | apply KdC.R_alloc | apply KdC.R_drewN | apply KdC.R_drew)); exact HO153.out) (KdC.R_base ho0) hb); have n1_ := Aside0.mk (KdC.R_elder' (by (with_reducible repeat (first | apply KdC.R_alloc | apply KdC.R_drewN | apply KdC.R_drew)); exact HO158.out) (KdC.R_base ho0) hb); have n2_ := Aside0.mk (KdC.R_elder' (by (with_reducible repeat (first | apply KdC.R_alloc | apply KdC.R_drewN | apply KdC.R_drew)); exact HO161.out) (KdC.R_base ho0) hb); have n3_ := Aside0.mk (KdC.R_lower (KdC.R_new' (KdC.R_new' (KdC.R_new' ho0 (KdC.R_lt (by (with_reducible repeat (first | apply KdC.R_alloc | apply KdC.R_drewN | apply KdC.R_drew)); exact HO153.out))) (KdC.R_lt (by (with_reducible repeat (first | apply KdC.R_alloc | apply KdC.R_drewN | apply KdC.R_drew)); exact HO158.out))) (KdC.R_lt (by (with_reducible repeat (first | apply KdC.R_alloc | apply KdC.R_drewN | apply KdC.R_drew)); exact HO161.out))) (below_size (by repeat (first | (with_reducible first | exact HB.out | apply below_alloc | apply pw_below_drewN | apply below_drew1) | exact HB.out)))); have n4_ := Aside0.mk (below_step (by repeat (first | (with_reducible first | exact HB.out | apply below_alloc | apply pw_below_drewN | apply below_drew1) | exact HB.out)) hb); clear HO153; clear HO158; clear HO161; clear HB; have HO153 := n0_; have HO158 := n1_; have HO161 := n2_; have HO166 := n3_; have HB := n4_; clear n0_ n1_ n2_ n3_ n4_; (try clear hb); (try clear hb2); (try clear hk); (try clear hi); (try clear ho0)))
    (try simp only [Act.put, List.setIfInBounds_toArray, List.set_cons_zero, List.set_cons_succ])
    go_cut [55] (fun v55 wc => ∃ (kq : Nat) (x55_8 : Bool), v55 = .bool x55_8 ∧ Aside0 (laws_FnExactTouchLru.j0 kq l0 a1 a2 t154 t155 t156 t159 t162 t163 t164 x55_8 = some r) ∧ Aside0 (kq ≤ k) ∧ Aside0 (KdC.R (Kd.int .i64) 3 wc w.heap.size (fun k_ => some k_ ≠ ((.slice Ao14 t159.length co14) : Value).ownBlock ∧ some k_ ≠ (v165 : Value).ownBlock) v157 t154) ∧ Aside0 (KdC.R (Kd.int .i64) 3 wc w.heap.size (fun k_ => some k_ ≠ (v157 : Value).ownBlock ∧ some k_ ≠ (v165 : Value).ownBlock) (.slice Ao14 t159.length co14) t159) ∧ Aside0 (KdC.R (Kd.int .i64) 3 wc w.heap.size (fun k_ => some k_ ≠ (v157 : Value).ownBlock ∧ some k_ ≠ ((.slice Ao14 t159.length co14) : Value).ownBlock) v165 t162) ∧ Aside0 (Below w.heap.size w wc))
    case first =>
      have H := HC9.out
      clear HC9
      replace H := Option.bind_eq_some_iff.mp H
      obtain ⟨t167, A160, H⟩ := H
      replace H : (if t167 = true then (if (t163 != t155) = true then (laws_FnExactTouchLru.j0 k l0 a1 a2 t154 t155 t156 t159 t162 t163 t164 true) else (laws_FnExactTouchLru.j0 k l0 a1 a2 t154 t155 t156 t159 t162 t163 t164 (t164 != t156))) else (laws_FnExactTouchLru.j0 k l0 a1 a2 t154 t155 t156 t159 t162 t163 t164 true)) = some r := H
      have A16 := Aside0.mk A160
      clear A160
      by_cases c17 : t167 = true
      · subst c17
        have H1 : (if (t163 != t155) = true then (laws_FnExactTouchLru.j0 k l0 a1 a2 t154 t155 t156 t159 t162 t163 t164 true) else (laws_FnExactTouchLru.j0 k l0 a1 a2 t154 t155 t156 t159 t162 t163 t164 (t164 != t156))) = some r := by rw [if_pos rfl] at H; exact H
        clear H
        have H := H1
        clear H1
        by_cases c18 : (t163 != t155) = true
        · rw [if_pos c18] at H
          have c18b0 : (t163 != t155) = true := c18
          (try (have c18b1 : decide (t163 = t155) = false := by simpa using c18))
          (try (have c18b2 : (t163 == t155) = false := by simpa using c18))
          (try (have c18b3 : ¬ (t163 = t155) := by simpa using c18))
          clear c18
          (first | rw [c18b0] | (simp only [i64_w, i32_w]; rw [c18b0]) | skip)
          have H' := Aside0.mk H
          clear H
          obtain ⟨Ao19, co19, eo19⟩ := KdC.R_slice HO166.out
          subst eo19
          obtain ⟨Ao20, co20, eo20⟩ := KdC.R_slice HO158.out
          subst eo20
          go_wp2_with (first | ((with_reducible refine gate_callee (f := 11) rfl ?_); refine goesL_ (some 44) rfl rfl Try.func11 (by kernel_rfl) rfl #[.slice Ao19 t162.length co19, .slice Ao20 t154.length co20] rfl (by (try simp only [List.map_toArray, List.map_cons, List.map_nil]); first | done | rfl | (simp only [List.length_drop, List.length_take]; rfl)) ?_; (with_reducible refine (laws_eqIntS.calls k _ _ t162 _ _ t154 true _ ?side1 ?side2 ?side3 ?side4 A16.out).mono ?_); (case side1 => repeat (first | exact (KdC.R_reads' HO166.out).2.2 | (with_reducible refine Kd.C_alloc ?_ _) | (with_reducible refine Kd.C_drewN ?_ _) | (with_reducible refine Kd.C_drew ?_))); (case side2 => exact (KdC.R_reads' HO166.out).2.1); (case side3 => repeat (first | exact (KdC.R_reads' HO158.out).2.2 | (with_reducible refine Kd.C_alloc ?_ _) | (with_reducible refine Kd.C_drewN ?_ _) | (with_reducible refine Kd.C_drew ?_))); (case side4 => exact (KdC.R_reads' HO158.out).2.1); rintro e w' ⟨rfl, ⟨nd, rfl⟩⟩; refine ⟨_, rfl, ?_⟩))
          go_meet
          case rel => exact ⟨_, (true), (by first | rfl | (simp; done) | (simp [*]; done)), H', ⟨by first | omega | exact Nat.le_refl _⟩, ⟨by (with_reducible repeat (first | apply KdC.R_alloc | apply KdC.R_drewN | apply KdC.R_drew)); exact KdC.R_mono HO158.out (fun _ hk => ⟨hk.1.2, hk.2⟩)⟩, ⟨by (with_reducible repeat (first | apply KdC.R_alloc | apply KdC.R_drewN | apply KdC.R_drew)); exact KdC.R_mono HO161.out (fun _ hk => ⟨hk.1.2, hk.2⟩)⟩, ⟨by (with_reducible repeat (first | apply KdC.R_alloc | apply KdC.R_drewN | apply KdC.R_drew)); exact KdC.R_mono HO166.out (fun _ hk => ⟨hk.1.2, hk.2⟩)⟩, ⟨by repeat (first | (with_reducible first | exact HB.out | apply below_alloc | apply pw_below_drewN | apply below_drew1) | exact HB.out)⟩⟩
        · rw [if_neg c18] at H
          have c18b0 : (t163 != t155) = false := by simpa using c18
          (try (have c18b1 : decide (t163 = t155) = true := by simpa using c18))
          (try (have c18b2 : (t163 == t155) = true := by simpa using c18))
          clear c18
          (first | rw [c18b0] | (simp only [i64_w, i32_w]; rw [c18b0]) | skip)
          have H' := Aside0.mk H
          clear H
          obtain ⟨Ao21, co21, eo21⟩ := KdC.R_slice HO166.out
          subst eo21
          obtain ⟨Ao22, co22, eo22⟩ := KdC.R_slice HO158.out
          subst eo22
          go_wp2_with (first | ((with_reducible refine gate_callee (f := 11) rfl ?_); refine goesL_ (some 44) rfl rfl Try.func11 (by kernel_rfl) rfl #[.slice Ao21 t162.length co21, .slice Ao22 t154.length co22] rfl (by (try simp only [List.map_toArray, List.map_cons, List.map_nil]); first | done | rfl | (simp only [List.length_drop, List.length_take]; rfl)) ?_; (with_reducible refine (laws_eqIntS.calls k _ _ t162 _ _ t154 true _ ?side1 ?side2 ?side3 ?side4 A16.out).mono ?_); (case side1 => repeat (first | exact (KdC.R_reads' HO166.out).2.2 | (with_reducible refine Kd.C_alloc ?_ _) | (with_reducible refine Kd.C_drewN ?_ _) | (with_reducible refine Kd.C_drew ?_))); (case side2 => exact (KdC.R_reads' HO166.out).2.1); (case side3 => repeat (first | exact (KdC.R_reads' HO158.out).2.2 | (with_reducible refine Kd.C_alloc ?_ _) | (with_reducible refine Kd.C_drewN ?_ _) | (with_reducible refine Kd.C_drew ?_))); (case side4 => exact (KdC.R_reads' HO158.out).2.1); rintro e w' ⟨rfl, ⟨nd, rfl⟩⟩; refine ⟨_, rfl, ?_⟩))
          go_meet
          case rel => exact ⟨_, ((t164 != t156)), (by first | rfl | (simp; done) | (simp [*]; done)), H', ⟨by first | omega | exact Nat.le_refl _⟩, ⟨by (with_reducible repeat (first | apply KdC.R_alloc | apply KdC.R_drewN | apply KdC.R_drew)); exact KdC.R_mono HO158.out (fun _ hk => ⟨hk.1.2, hk.2⟩)⟩, ⟨by (with_reducible repeat (first | apply KdC.R_alloc | apply KdC.R_drewN | apply KdC.R_drew)); exact KdC.R_mono HO161.out (fun _ hk => ⟨hk.1.2, hk.2⟩)⟩, ⟨by (with_reducible repeat (first | apply KdC.R_alloc | apply KdC.R_drewN | apply KdC.R_drew)); exact KdC.R_mono HO166.out (fun _ hk => ⟨hk.1.2, hk.2⟩)⟩, ⟨by repeat (first | (with_reducible first | exact HB.out | apply below_alloc | apply pw_below_drewN | apply below_drew1) | exact HB.out)⟩⟩
      · replace c17 := Bool.eq_false_iff.mpr c17
        subst c17
        have H1 : (laws_FnExactTouchLru.j0 k l0 a1 a2 t154 t155 t156 t159 t162 t163 t164 true) = some r := by rw [if_neg (show ¬ (false = true) by decide)] at H; exact H
        clear H
        have H := H1
        clear H1
        have H' := Aside0.mk H
        clear H
        obtain ⟨Ao23, co23, eo23⟩ := KdC.R_slice HO166.out
        subst eo23
        obtain ⟨Ao24, co24, eo24⟩ := KdC.R_slice HO158.out
        subst eo24
        go_wp2_with (first | ((with_reducible refine gate_callee (f := 11) rfl ?_); refine goesL_ (some 44) rfl rfl Try.func11 (by kernel_rfl) rfl #[.slice Ao23 t162.length co23, .slice Ao24 t154.length co24] rfl (by (try simp only [List.map_toArray, List.map_cons, List.map_nil]); first | done | rfl | (simp only [List.length_drop, List.length_take]; rfl)) ?_; (with_reducible refine (laws_eqIntS.calls k _ _ t162 _ _ t154 false _ ?side1 ?side2 ?side3 ?side4 A16.out).mono ?_); (case side1 => repeat (first | exact (KdC.R_reads' HO166.out).2.2 | (with_reducible refine Kd.C_alloc ?_ _) | (with_reducible refine Kd.C_drewN ?_ _) | (with_reducible refine Kd.C_drew ?_))); (case side2 => exact (KdC.R_reads' HO166.out).2.1); (case side3 => repeat (first | exact (KdC.R_reads' HO158.out).2.2 | (with_reducible refine Kd.C_alloc ?_ _) | (with_reducible refine Kd.C_drewN ?_ _) | (with_reducible refine Kd.C_drew ?_))); (case side4 => exact (KdC.R_reads' HO158.out).2.1); rintro e w' ⟨rfl, ⟨nd, rfl⟩⟩; refine ⟨_, rfl, ?_⟩))
        go_meet
        case rel => exact ⟨_, (true), (by first | rfl | (simp; done) | (simp [*]; done)), H', ⟨by first | omega | exact Nat.le_refl _⟩, ⟨by (with_reducible repeat (first | apply KdC.R_alloc | apply KdC.R_drewN | apply KdC.R_drew)); exact KdC.R_mono HO158.out (fun _ hk => ⟨hk.1.2, hk.2⟩)⟩, ⟨by (with_reducible repeat (first | apply KdC.R_alloc | apply KdC.R_drewN | apply KdC.R_drew)); exact KdC.R_mono HO161.out (fun _ hk => ⟨hk.1.2, hk.2⟩)⟩, ⟨by (with_reducible repeat (first | apply KdC.R_alloc | apply KdC.R_drewN | apply KdC.R_drew)); exact KdC.R_mono HO166.out (fun _ hk => ⟨hk.1.2, hk.2⟩)⟩, ⟨by repeat (first | (with_reducible first | exact HB.out | apply below_alloc | apply pw_below_drewN | apply below_drew1) | exact HB.out)⟩⟩
    case rest =>
      clear HC9
      try clear c1
      try clear c2
      try clear p2
      try clear c4
      try clear c4b0
      try clear c4b1
      try clear c7
      try clear c9
      try clear c11
      try clear c17
      try clear c18
      try clear c18b0
      try clear c18b1
      try clear c18b2
      try clear c20
      try clear c21
      obtain ⟨kq, x55_8, rfl, HA, HJ8, HO_7, HO_10, HO_11, HB⟩ := hcut
      cases kq with
      | zero => exact absurd HA.out (by simp [laws_FnExactTouchLru.j0])
      | succ kj8 =>
        have H := HA.out
        clear HA
        simp only [laws_FnExactTouchLru.j0] at H
        by_cases c25 : x55_8 = true
        · subst c25
          have H1 : (some false) = some r := by rw [if_pos rfl] at H; exact H
          clear H
          have H := H1
          clear H1
          obtain rfl := Option.some.inj H
          go_wp2
          go_ret
          exact ⟨by first | rfl | (simp [errW_none, errW_some] <;> rfl) | (simp [*, errW_none, errW_some] <;> rfl), by repeat (first | (with_reducible first | exact HB.out | apply below_alloc | apply pw_below_drewN | apply below_drew1) | exact HB.out)⟩
        · replace c25 := Bool.eq_false_iff.mpr c25
          subst c25
          have H1 : ((laws_toIntS.f kj8 l0).bind fun t168 => ((laws_eqIntS.f kj8 t159 t168).bind fun t171 => (if t171 = true then ((laws_markIntS.f kj8 t159 1).bind fun bt172 => (if bt172.1 < 0 then (laws_FnExactTouchLru.j1 kj8 l0 a1 a2 t154 t155 t156 t162 true) else ((laws_eqIntS.f kj8 t162 t154).bind fun t174 => (if t174 = true then (if (t163 != t155) = true then (laws_FnExactTouchLru.j1 kj8 l0 a1 a2 t154 t155 t156 t162 true) else (laws_FnExactTouchLru.j1 kj8 l0 a1 a2 t154 t155 t156 t162 (t164 != t156))) else (laws_FnExactTouchLru.j1 kj8 l0 a1 a2 t154 t155 t156 t162 true))))) else (some false)))) = some r := by rw [if_neg (show ¬ (false = true) by decide)] at H; exact H
          clear H
          have H := H1
          clear H1
          replace H := Option.bind_eq_some_iff.mp H
          obtain ⟨t168, A260, H⟩ := H
          replace H : ((laws_eqIntS.f kj8 t159 t168).bind fun t171 => (if t171 = true then ((laws_markIntS.f kj8 t159 1).bind fun bt172 => (if bt172.1 < 0 then (laws_FnExactTouchLru.j1 kj8 l0 a1 a2 t154 t155 t156 t162 true) else ((laws_eqIntS.f kj8 t162 t154).bind fun t174 => (if t174 = true then (if (t163 != t155) = true then (laws_FnExactTouchLru.j1 kj8 l0 a1 a2 t154 t155 t156 t162 true) else (laws_FnExactTouchLru.j1 kj8 l0 a1 a2 t154 t155 t156 t162 (t164 != t156))) else (laws_FnExactTouchLru.j1 kj8 l0 a1 a2 t154 t155 t156 t162 true))))) else (some false))) = some r := H
          have A26 := Aside0.mk A260
          clear A260
          replace H := Option.bind_eq_some_iff.mp H
          obtain ⟨t171, A270, H⟩ := H
          replace H : (if t171 = true then ((laws_markIntS.f kj8 t159 1).bind fun bt172 => (if bt172.1 < 0 then (laws_FnExactTouchLru.j1 kj8 l0 a1 a2 t154 t155 t156 t162 true) else ((laws_eqIntS.f kj8 t162 t154).bind fun t174 => (if t174 = true then (if (t163 != t155) = true then (laws_FnExactTouchLru.j1 kj8 l0 a1 a2 t154 t155 t156 t162 true) else (laws_FnExactTouchLru.j1 kj8 l0 a1 a2 t154 t155 t156 t162 (t164 != t156))) else (laws_FnExactTouchLru.j1 kj8 l0 a1 a2 t154 t155 t156 t162 true))))) else (some false)) = some r := H
          have A27 := Aside0.mk A270
          clear A270
          by_cases c28 : t171 = true
          · subst c28
            have H1 : ((laws_markIntS.f kj8 t159 1).bind fun bt172 => (if bt172.1 < 0 then (laws_FnExactTouchLru.j1 kj8 l0 a1 a2 t154 t155 t156 t162 true) else ((laws_eqIntS.f kj8 t162 t154).bind fun t174 => (if t174 = true then (if (t163 != t155) = true then (laws_FnExactTouchLru.j1 kj8 l0 a1 a2 t154 t155 t156 t162 true) else (laws_FnExactTouchLru.j1 kj8 l0 a1 a2 t154 t155 t156 t162 (t164 != t156))) else (laws_FnExactTouchLru.j1 kj8 l0 a1 a2 t154 t155 t156 t162 true))))) = some r := by rw [if_pos rfl] at H; exact H
            clear H
            have H := H1
            clear H1
            replace H := Option.bind_eq_some_iff.mp H
            obtain ⟨⟨t172, t173⟩, A290, H⟩ := H
            replace H : (if t172 < 0 then (laws_FnExactTouchLru.j1 kj8 l0 a1 a2 t154 t155 t156 t162 true) else ((laws_eqIntS.f kj8 t162 t154).bind fun t174 => (if t174 = true then (if (t163 != t155) = true then (laws_FnExactTouchLru.j1 kj8 l0 a1 a2 t154 t155 t156 t162 true) else (laws_FnExactTouchLru.j1 kj8 l0 a1 a2 t154 t155 t156 t162 (t164 != t156))) else (laws_FnExactTouchLru.j1 kj8 l0 a1 a2 t154 t155 t156 t162 true)))) = some r := H
            have A29 := Aside0.mk A290
            clear A290
            have HC30 := Aside0.mk H
            clear H
            go_upto_region 12 with (first | ((with_reducible refine gate_callee (f := 9) rfl ?_); refine goesL_ (some 58) rfl rfl Try.func9 (by kernel_rfl) rfl #[.slice A0 l0.length c0] rfl (by (try simp only [List.map_toArray, List.map_cons, List.map_nil]); first | done | rfl | (simp only [List.length_drop, List.length_take]; rfl)) ?_; (with_reducible refine (laws_toIntS.calls kj8 _ _ l0 t168 _ ?side1 ?side2 A26.out).mono ?_); (case side1 => repeat (first | exact (Kd.C_below HR0.out HB.out) | (with_reducible refine Kd.C_alloc ?_ _) | (with_reducible refine Kd.C_drewN ?_ _) | (with_reducible refine Kd.C_drew ?_))); (case side2 => exact HC0.out); rintro e w31 ⟨v169, rfl, ho0, hb⟩; (try (with_reducible replace ho0 := KdC.R_of ho0)); refine ⟨_, rfl, ?_⟩; have n0_ := Aside0.mk (KdC.R_elder' (by (with_reducible repeat (first | apply KdC.R_alloc | apply KdC.R_drewN | apply KdC.R_drew)); exact HO_7.out) (KdC.R_base ho0) hb); have n1_ := Aside0.mk (KdC.R_elder' (by (with_reducible repeat (first | apply KdC.R_alloc | apply KdC.R_drewN | apply KdC.R_drew)); exact HO_10.out) (KdC.R_base ho0) hb); have n2_ := Aside0.mk (KdC.R_elder' (by (with_reducible repeat (first | apply KdC.R_alloc | apply KdC.R_drewN | apply KdC.R_drew)); exact HO_11.out) (KdC.R_base ho0) hb); have n3_ := Aside0.mk (KdC.R_lower (KdC.R_new' (KdC.R_new' (KdC.R_new' ho0 (KdC.R_lt (by (with_reducible repeat (first | apply KdC.R_alloc | apply KdC.R_drewN | apply KdC.R_drew)); exact HO_7.out))) (KdC.R_lt (by (with_reducible repeat (first | apply KdC.R_alloc | apply KdC.R_drewN | apply KdC.R_drew)); exact HO_10.out))) (KdC.R_lt (by (with_reducible repeat (first | apply KdC.R_alloc | apply KdC.R_drewN | apply KdC.R_drew)); exact HO_11.out))) (below_size (by repeat (first | (with_reducible first | exact HB.out | apply below_alloc | apply pw_below_drewN | apply below_drew1) | exact HB.out)))); have n4_ := Aside0.mk (below_step (by repeat (first | (with_reducible first | exact HB.out | apply below_alloc | apply pw_below_drewN | apply below_drew1) | exact HB.out)) hb); clear HO_7; clear HO_10; clear HO_11; clear HB; have HO_7 := n0_; have HO_10 := n1_; have HO_11 := n2_; have HO170 := n3_; have HB := n4_; clear n0_ n1_ n2_ n3_ n4_; (try clear hb); (try clear hb2); (try clear hk); (try clear hi); (try clear ho0); obtain ⟨Ao32, co32, eo32⟩ := KdC.R_slice HO170.out; subst eo32) | ((with_reducible refine gate_callee (f := 11) rfl ?_); refine goesL_ (some 59) rfl rfl Try.func11 (by kernel_rfl) rfl #[.slice Ao14 t159.length co14, .slice Ao32 t168.length co32] rfl (by (try simp only [List.map_toArray, List.map_cons, List.map_nil]); first | done | rfl | (simp only [List.length_drop, List.length_take]; rfl)) ?_; (with_reducible refine (laws_eqIntS.calls kj8 _ _ t159 _ _ t168 true _ ?side1 ?side2 ?side3 ?side4 A27.out).mono ?_); (case side1 => repeat (first | exact (KdC.R_reads' HO_10.out).2.2 | (with_reducible refine Kd.C_alloc ?_ _) | (with_reducible refine Kd.C_drewN ?_ _) | (with_reducible refine Kd.C_drew ?_))); (case side2 => exact (KdC.R_reads' HO_10.out).2.1); (case side3 => repeat (first | exact (KdC.R_reads' HO170.out).2.2 | (with_reducible refine Kd.C_alloc ?_ _) | (with_reducible refine Kd.C_drewN ?_ _) | (with_reducible refine Kd.C_drew ?_))); (case side4 => exact (KdC.R_reads' HO170.out).2.1); rintro e w' ⟨rfl, ⟨nd, rfl⟩⟩; refine ⟨_, rfl, ?_⟩) | ((with_reducible refine gate_callee (f := 12) rfl ?_); refine goesL_ (some 63) rfl rfl Try.func12 (by kernel_rfl) rfl #[.slice Ao14 t159.length co14, .int .i64 1] rfl (by (try simp only [List.map_toArray, List.map_cons, List.map_nil]); first | done | rfl | (simp only [List.length_drop, List.length_take]; rfl)) ?_; (with_reducible refine (laws_markIntS.calls kj8 (fun k_ => some k_ = (.slice Ao14 t159.length co14 : Value).ownBlock) (.slice Ao14 t159.length co14) t159 1 t172 t173 w _ ?side1 ?side2 A29.out).mono ?_); (case side1 => repeat (first | (with_reducible first | exact HB.out | apply below_alloc | apply pw_below_drewN | apply below_drew1) | exact HB.out)); (case side2 => exact KdC.R_tight rfl HO_10.out); rintro e w33 ⟨rfl, hy0, hb, hkp⟩; refine ⟨_, rfl, ?_⟩; have n0_ := Aside0.mk (KdC.R_mono (ok' := fun k_ => some k_ ≠ (.slice Ao14 t159.length co14 : Value).ownBlock ∧ some k_ ≠ (v165 : Value).ownBlock ∧ some k_ ≠ (.slice Ao32 t168.length co32 : Value).ownBlock) (KdC.R_keptB (HO_7.out) hkp (fun k_ hk_ hs_ => (hk_.1.1) hs_)) (fun k_ hk_ => ⟨hk_.1.1.1, hk_.1.1.2, hk_.1.2⟩)); have n1_ := Aside0.mk (KdC.R_reok rfl hy0 (fun k_ e_ => HO_10.out.1 k_ e_)); have n2_ := Aside0.mk (KdC.R_mono (ok' := fun k_ => some k_ ≠ (v157 : Value).ownBlock ∧ some k_ ≠ (.slice Ao14 t159.length co14 : Value).ownBlock ∧ some k_ ≠ (.slice Ao32 t168.length co32 : Value).ownBlock) (KdC.R_keptB (HO_11.out) hkp (fun k_ hk_ hs_ => (hk_.1.2) hs_)) (fun k_ hk_ => ⟨hk_.1.1.1, hk_.1.1.2, hk_.1.2⟩)); have n3_ := Aside0.mk (KdC.R_mono (ok' := fun k_ => some k_ ≠ (v157 : Value).ownBlock ∧ some k_ ≠ (.slice Ao14 t159.length co14 : Value).ownBlock ∧ some k_ ≠ (v165 : Value).ownBlock) (KdC.R_keptB (HO170.out) hkp (fun k_ hk_ hs_ => (hk_.1.2) hs_)) (fun k_ hk_ => ⟨hk_.1.1.1.2, hk_.1.1.2, hk_.1.2⟩)); have n4_ := Aside0.mk (hb); clear HO_7; clear HO_10; clear HO_11; clear HO170; clear HB; have HO_7 := n0_; have HO_10 := n1_; have HO_11 := n2_; have HO170 := n3_; have HB := n4_; clear n0_ n1_ n2_ n3_ n4_; (try clear hb); (try clear hkp); (try clear hy0)))
            (try simp only [Act.put, List.setIfInBounds_toArray, List.set_cons_zero, List.set_cons_succ])
            go_cut [81] (fun v81 wc => ∃ (kq : Nat) (x81_29 : Bool), v81 = .bool x81_29 ∧ Aside0 (laws_FnExactTouchLru.j1 kq l0 a1 a2 t154 t155 t156 t162 x81_29 = some r) ∧ Aside0 (kq ≤ kj8) ∧ Aside0 (KdC.R (Kd.int .i64) 3 wc w.heap.size (fun k_ => some k_ ≠ (v165 : Value).ownBlock) v157 t154) ∧ Aside0 (KdC.R (Kd.int .i64) 3 wc w.heap.size (fun k_ => some k_ ≠ (v157 : Value).ownBlock) v165 t162) ∧ Aside0 (Below w.heap.size w wc))
            case first =>
              have H := HC30.out
              clear HC30
              by_cases c34 : t172 < 0
              · rw [if_pos c34] at H
                have c34b0 : decide (t172 < 0) = true := decide_eq_true c34
                clear c34
                (first | rw [c34b0] | (simp only [i64_w, i32_w]; rw [c34b0]) | skip)
                have H' := Aside0.mk H
                clear H
                go_wp2
                go_meet
                case rel => exact ⟨_, (true), (by first | rfl | (simp; done) | (simp [*]; done)), H', ⟨by have := HJ8.out; first | omega | exact Nat.le_refl _⟩, ⟨by (with_reducible repeat (first | apply KdC.R_alloc | apply KdC.R_drewN | apply KdC.R_drew)); exact KdC.R_mono HO_7.out (fun _ hk => hk.2.1)⟩, ⟨by (with_reducible repeat (first | apply KdC.R_alloc | apply KdC.R_drewN | apply KdC.R_drew)); exact KdC.R_mono HO_11.out (fun _ hk => hk.1)⟩, ⟨by repeat (first | (with_reducible first | exact HB.out | apply below_alloc | apply pw_below_drewN | apply below_drew1) | exact HB.out)⟩⟩
              · rw [if_neg c34] at H
                have c34b0 : decide (t172 < 0) = false := decide_eq_false c34
                clear c34
                (first | rw [c34b0] | (simp only [i64_w, i32_w]; rw [c34b0]) | skip)
                replace H := Option.bind_eq_some_iff.mp H
                obtain ⟨t174, A350, H⟩ := H
                replace H : (if t174 = true then (if (t163 != t155) = true then (laws_FnExactTouchLru.j1 kj8 l0 a1 a2 t154 t155 t156 t162 true) else (laws_FnExactTouchLru.j1 kj8 l0 a1 a2 t154 t155 t156 t162 (t164 != t156))) else (laws_FnExactTouchLru.j1 kj8 l0 a1 a2 t154 t155 t156 t162 true)) = some r := H
                have A35 := Aside0.mk A350
                clear A350
                by_cases c36 : t174 = true
                · subst c36
                  have H1 : (if (t163 != t155) = true then (laws_FnExactTouchLru.j1 kj8 l0 a1 a2 t154 t155 t156 t162 true) else (laws_FnExactTouchLru.j1 kj8 l0 a1 a2 t154 t155 t156 t162 (t164 != t156))) = some r := by rw [if_pos rfl] at H; exact H
                  clear H
                  have H := H1
                  clear H1
                  by_cases c37 : (t163 != t155) = true
                  · rw [if_pos c37] at H
                    have c37b0 : (t163 != t155) = true := c37
                    (try (have c37b1 : decide (t163 = t155) = false := by simpa using c37))
                    (try (have c37b2 : (t163 == t155) = false := by simpa using c37))
                    (try (have c37b3 : ¬ (t163 = t155) := by simpa using c37))
                    clear c37
                    have H' := Aside0.mk H
                    clear H
                    obtain ⟨Ao38, co38, eo38⟩ := KdC.R_slice HO_11.out
                    subst eo38
                    obtain ⟨Ao39, co39, eo39⟩ := KdC.R_slice HO_7.out
                    subst eo39
                    go_wp2_with (first | (go_at_call 11; (with_reducible refine (laws_eqIntS.calls kj8 _ _ t162 _ _ t154 true _ ?side1 ?side2 ?side3 ?side4 A35.out).mono ?_); (case side1 => repeat (first | exact (KdC.R_reads' HO_11.out).2.2 | (with_reducible refine Kd.C_alloc ?_ _) | (with_reducible refine Kd.C_drewN ?_ _) | (with_reducible refine Kd.C_drew ?_))); (case side2 => exact (KdC.R_reads' HO_11.out).2.1); (case side3 => repeat (first | exact (KdC.R_reads' HO_7.out).2.2 | (with_reducible refine Kd.C_alloc ?_ _) | (with_reducible refine Kd.C_drewN ?_ _) | (with_reducible refine Kd.C_drew ?_))); (case side4 => exact (KdC.R_reads' HO_7.out).2.1); rintro e w' ⟨rfl, ⟨nd, rfl⟩⟩))
                    go_meet
                    case rel => exact ⟨_, (true), (by first | rfl | (simp; done) | (simp [*]; done)), H', ⟨by have := HJ8.out; first | omega | exact Nat.le_refl _⟩, ⟨by (with_reducible repeat (first | apply KdC.R_alloc | apply KdC.R_drewN | apply KdC.R_drew)); exact KdC.R_mono HO_7.out (fun _ hk => hk.2.1)⟩, ⟨by (with_reducible repeat (first | apply KdC.R_alloc | apply KdC.R_drewN | apply KdC.R_drew)); exact KdC.R_mono HO_11.out (fun _ hk => hk.1)⟩, ⟨by repeat (first | (with_reducible first | exact HB.out | apply below_alloc | apply pw_below_drewN | apply below_drew1) | exact HB.out)⟩⟩
                  · rw [if_neg c37] at H
                    have c37b0 : (t163 != t155) = false := by simpa using c37
                    (try (have c37b1 : decide (t163 = t155) = true := by simpa using c37))
                    (try (have c37b2 : (t163 == t155) = true := by simpa using c37))
                    clear c37
                    have H' := Aside0.mk H
                    clear H
                    obtain ⟨Ao40, co40, eo40⟩ := KdC.R_slice HO_11.out
                    subst eo40
                    obtain ⟨Ao41, co41, eo41⟩ := KdC.R_slice HO_7.out
                    subst eo41
                    go_wp2_with (first | (go_at_call 11; (with_reducible refine (laws_eqIntS.calls kj8 _ _ t162 _ _ t154 true _ ?side1 ?side2 ?side3 ?side4 A35.out).mono ?_); (case side1 => repeat (first | exact (KdC.R_reads' HO_11.out).2.2 | (with_reducible refine Kd.C_alloc ?_ _) | (with_reducible refine Kd.C_drewN ?_ _) | (with_reducible refine Kd.C_drew ?_))); (case side2 => exact (KdC.R_reads' HO_11.out).2.1); (case side3 => repeat (first | exact (KdC.R_reads' HO_7.out).2.2 | (with_reducible refine Kd.C_alloc ?_ _) | (with_reducible refine Kd.C_drewN ?_ _) | (with_reducible refine Kd.C_drew ?_))); (case side4 => exact (KdC.R_reads' HO_7.out).2.1); rintro e w' ⟨rfl, ⟨nd, rfl⟩⟩))
                    go_meet
                    case rel => exact ⟨_, ((t164 != t156)), (by first | rfl | (simp; done) | (simp [*]; done)), H', ⟨by have := HJ8.out; first | omega | exact Nat.le_refl _⟩, ⟨by (with_reducible repeat (first | apply KdC.R_alloc | apply KdC.R_drewN | apply KdC.R_drew)); exact KdC.R_mono HO_7.out (fun _ hk => hk.2.1)⟩, ⟨by (with_reducible repeat (first | apply KdC.R_alloc | apply KdC.R_drewN | apply KdC.R_drew)); exact KdC.R_mono HO_11.out (fun _ hk => hk.1)⟩, ⟨by repeat (first | (with_reducible first | exact HB.out | apply below_alloc | apply pw_below_drewN | apply below_drew1) | exact HB.out)⟩⟩
                · replace c36 := Bool.eq_false_iff.mpr c36
                  subst c36
                  have H1 : (laws_FnExactTouchLru.j1 kj8 l0 a1 a2 t154 t155 t156 t162 true) = some r := by rw [if_neg (show ¬ (false = true) by decide)] at H; exact H
                  clear H
                  have H := H1
                  clear H1
                  have H' := Aside0.mk H
                  clear H
                  obtain ⟨Ao42, co42, eo42⟩ := KdC.R_slice HO_11.out
                  subst eo42
                  obtain ⟨Ao43, co43, eo43⟩ := KdC.R_slice HO_7.out
                  subst eo43
                  go_wp2_with (first | (go_at_call 11; (with_reducible refine (laws_eqIntS.calls kj8 _ _ t162 _ _ t154 false _ ?side1 ?side2 ?side3 ?side4 A35.out).mono ?_); (case side1 => repeat (first | exact (KdC.R_reads' HO_11.out).2.2 | (with_reducible refine Kd.C_alloc ?_ _) | (with_reducible refine Kd.C_drewN ?_ _) | (with_reducible refine Kd.C_drew ?_))); (case side2 => exact (KdC.R_reads' HO_11.out).2.1); (case side3 => repeat (first | exact (KdC.R_reads' HO_7.out).2.2 | (with_reducible refine Kd.C_alloc ?_ _) | (with_reducible refine Kd.C_drewN ?_ _) | (with_reducible refine Kd.C_drew ?_))); (case side4 => exact (KdC.R_reads' HO_7.out).2.1); rintro e w' ⟨rfl, ⟨nd, rfl⟩⟩))
                  go_meet
                  case rel => exact ⟨_, (true), (by first | rfl | (simp; done) | (simp [*]; done)), H', ⟨by have := HJ8.out; first | omega | exact Nat.le_refl _⟩, ⟨by (with_reducible repeat (first | apply KdC.R_alloc | apply KdC.R_drewN | apply KdC.R_drew)); exact KdC.R_mono HO_7.out (fun _ hk => hk.2.1)⟩, ⟨by (with_reducible repeat (first | apply KdC.R_alloc | apply KdC.R_drewN | apply KdC.R_drew)); exact KdC.R_mono HO_11.out (fun _ hk => hk.1)⟩, ⟨by repeat (first | (with_reducible first | exact HB.out | apply below_alloc | apply pw_below_drewN | apply below_drew1) | exact HB.out)⟩⟩
            case rest =>
              clear HC30
              try clear c1
              try clear c2
              try clear p2
              try clear c3
              try clear c4
              try clear c4b0
              try clear c4b1
              try clear c7
              try clear c9
              try clear c11
              try clear c12
              try clear c17
              try clear c18
              try clear c18b0
              try clear c18b1
              try clear c18b2
              try clear c20
              try clear c21
              try clear c25
              try clear c28
              try clear c34
              try clear c34b0
              try clear c36
              try clear c37
              try clear c37b0
              try clear c37b1
              try clear c37b2
              try clear p2
              obtain ⟨kq, x81_29, rfl, HA, HJ29, HO_7, HO_11, HB⟩ := hcut
              cases kq with
              | zero => exact absurd HA.out (by simp [laws_FnExactTouchLru.j1])
              | succ kj29 =>
                have H := HA.out
                clear HA
                simp only [laws_FnExactTouchLru.j1] at H
                by_cases c44 : x81_29 = true
                · subst c44
                  have H1 : (some false) = some r := by rw [if_pos rfl] at H; exact H
                  clear H
                  have H := H1
                  clear H1
                  obtain rfl := Option.some.inj H
                  go_wp2
                  go_ret
                  exact ⟨by first | rfl | (simp [errW_none, errW_some] <;> rfl) | (simp [*, errW_none, errW_some] <;> rfl), by repeat (first | (with_reducible first | exact HB.out | apply below_alloc | apply pw_below_drewN | apply below_drew1) | exact HB.out)⟩
                · replace c44 := Bool.eq_false_iff.mpr c44
                  subst c44
                  have H1 : ((laws_markIntS.f kj29 t162 1).bind fun bt175 => ((laws_heldIntS.f kj29 bt175.2 1).bind fun t177 => (if t177 < 0 then (some false) else (if t177 = bt175.1 then ((laws_toIntS.f kj29 l0).bind fun t178 => ((impl_TouchLru.f kj29 t178 a1 a2).bind fun bt181 => ((laws_eqIntS.f kj29 bt181.1 t154).bind fun t186 => (if t186 = true then (if (bt181.2.1 != t155) = true then (laws_FnExactTouchLru.j2 kj29 bt175.2 bt175.1 true) else (laws_FnExactTouchLru.j2 kj29 bt175.2 bt175.1 (bt181.2.2 != t156))) else (laws_FnExactTouchLru.j2 kj29 bt175.2 bt175.1 true))))) else (some false))))) = some r := by rw [if_neg (show ¬ (false = true) by decide)] at H; exact H
                  clear H
                  have H := H1
                  clear H1
                  replace H := Option.bind_eq_some_iff.mp H
                  obtain ⟨⟨t175, t176⟩, A450, H⟩ := H
                  replace H : ((laws_heldIntS.f kj29 t176 1).bind fun t177 => (if t177 < 0 then (some false) else (if t177 = t175 then ((laws_toIntS.f kj29 l0).bind fun t178 => ((impl_TouchLru.f kj29 t178 a1 a2).bind fun bt181 => ((laws_eqIntS.f kj29 bt181.1 t154).bind fun t186 => (if t186 = true then (if (bt181.2.1 != t155) = true then (laws_FnExactTouchLru.j2 kj29 t176 t175 true) else (laws_FnExactTouchLru.j2 kj29 t176 t175 (bt181.2.2 != t156))) else (laws_FnExactTouchLru.j2 kj29 t176 t175 true))))) else (some false)))) = some r := H
                  have A45 := Aside0.mk A450
                  clear A450
                  replace H := Option.bind_eq_some_iff.mp H
                  obtain ⟨t177, A460, H⟩ := H
                  replace H : (if t177 < 0 then (some false) else (if t177 = t175 then ((laws_toIntS.f kj29 l0).bind fun t178 => ((impl_TouchLru.f kj29 t178 a1 a2).bind fun bt181 => ((laws_eqIntS.f kj29 bt181.1 t154).bind fun t186 => (if t186 = true then (if (bt181.2.1 != t155) = true then (laws_FnExactTouchLru.j2 kj29 t176 t175 true) else (laws_FnExactTouchLru.j2 kj29 t176 t175 (bt181.2.2 != t156))) else (laws_FnExactTouchLru.j2 kj29 t176 t175 true))))) else (some false))) = some r := H
                  have A46 := Aside0.mk A460
                  clear A460
                  by_cases c47 : t177 < 0
                  · rw [if_pos c47] at H
                    have c47b0 : decide (t177 < 0) = true := decide_eq_true c47
                    clear c47
                    obtain rfl := Option.some.inj H
                    obtain ⟨Ao48, co48, eo48⟩ := KdC.R_slice HO_11.out
                    subst eo48
                    go_wp2_with (first | ((with_reducible refine gate_callee (f := 12) rfl ?_); refine goesL_ (some 84) rfl rfl Try.func12 (by kernel_rfl) rfl #[.slice Ao48 t162.length co48, .int .i64 1] rfl (by (try simp only [List.map_toArray, List.map_cons, List.map_nil]); first | done | rfl | (simp only [List.length_drop, List.length_take]; rfl)) ?_; (with_reducible refine (laws_markIntS.calls kj29 (fun k_ => some k_ = (.slice Ao48 t162.length co48 : Value).ownBlock) (.slice Ao48 t162.length co48) t162 1 t175 t176 w _ ?side1 ?side2 A45.out).mono ?_); (case side1 => repeat (first | (with_reducible first | exact HB.out | apply below_alloc | apply pw_below_drewN | apply below_drew1) | exact HB.out)); (case side2 => exact KdC.R_tight rfl HO_11.out); rintro e w49 ⟨rfl, hy0, hb, hkp⟩; refine ⟨_, rfl, ?_⟩; have n0_ := Aside0.mk (KdC.R_mono (ok' := fun k_ => some k_ ≠ (.slice Ao48 t162.length co48 : Value).ownBlock) (KdC.R_keptB (HO_7.out) hkp (fun k_ hk_ hs_ => (hk_) hs_)) (fun k_ hk_ => hk_.1)); have n1_ := Aside0.mk (KdC.R_reok rfl hy0 (fun k_ e_ => HO_11.out.1 k_ e_)); have n2_ := Aside0.mk (hb); clear HO_7; clear HO_11; clear HB; have HO_7 := n0_; have HO_11 := n1_; have HB := n2_; clear n0_ n1_ n2_; (try clear hb); (try clear hkp); (try clear hy0)) | ((with_reducible refine gate_callee (f := 13) rfl ?_); refine goesL_ (some 87) rfl rfl Try.func13 (by kernel_rfl) rfl #[.slice Ao48 t176.length co48, .int .i64 1] rfl (by (try simp only [List.map_toArray, List.map_cons, List.map_nil]); first | done | (rw [show t176.length = t162.length from (KdC.R_reads' HO_11.out).1.symm] <;> rfl) | rfl | (simp only [List.length_drop, List.length_take]; rfl)) ?_; (with_reducible refine (laws_heldIntS.calls kj29 _ _ t176 1 t177 _ ?side1 ?side2 A46.out).mono ?_); (case side1 => repeat (first | exact (KdC.R_reads' HO_11.out).2.2 | (with_reducible refine Kd.C_alloc ?_ _) | (with_reducible refine Kd.C_drewN ?_ _) | (with_reducible refine Kd.C_drew ?_))); (case side2 => rw [show t176.length = t162.length from (KdC.R_reads' HO_11.out).1.symm]; exact (KdC.R_reads' HO_11.out).2.1); rintro e w' ⟨rfl, ⟨nd, rfl⟩⟩; refine ⟨_, rfl, ?_⟩))
                    go_ret
                    exact ⟨by first | rfl | (simp [errW_none, errW_some] <;> rfl) | (simp [*, errW_none, errW_some] <;> rfl), by repeat (first | (with_reducible first | exact HB.out | apply below_alloc | apply pw_below_drewN | apply below_drew1) | exact HB.out)⟩
                  · rw [if_neg c47] at H
                    have c47b0 : decide (t177 < 0) = false := decide_eq_false c47
                    clear c47
                    by_cases c50 : t177 = t175
                    · rw [if_pos c50] at H
                      have c50b0 : (t177 == t175) = true := beq_iff_eq.mpr c50
                      have c50b1 : (t177 != t175) = false := bne_eq_false_iff_eq.mpr c50
                      clear c50
                      replace H := Option.bind_eq_some_iff.mp H
                      obtain ⟨t178, A510, H⟩ := H
                      replace H : ((impl_TouchLru.f kj29 t178 a1 a2).bind fun bt181 => ((laws_eqIntS.f kj29 bt181.1 t154).bind fun t186 => (if t186 = true then (if (bt181.2.1 != t155) = true then (laws_FnExactTouchLru.j2 kj29 t176 t175 true) else (laws_FnExactTouchLru.j2 kj29 t176 t175 (bt181.2.2 != t156))) else (laws_FnExactTouchLru.j2 kj29 t176 t175 true)))) = some r := H
                      have A51 := Aside0.mk A510
                      clear A510
                      replace H := Option.bind_eq_some_iff.mp H
                      obtain ⟨⟨t181, t182, t183⟩, A520, H⟩ := H
                      replace H : ((laws_eqIntS.f kj29 t181 t154).bind fun t186 => (if t186 = true then (if (t182 != t155) = true then (laws_FnExactTouchLru.j2 kj29 t176 t175 true) else (laws_FnExactTouchLru.j2 kj29 t176 t175 (t183 != t156))) else (laws_FnExactTouchLru.j2 kj29 t176 t175 true))) = some r := H
                      have A52 := Aside0.mk A520
                      clear A520
                      have HC53 := Aside0.mk H
                      clear H
                      obtain ⟨Ao54, co54, eo54⟩ := KdC.R_slice HO_11.out
                      subst eo54
                      go_upto_region 23 with (first | ((with_reducible refine gate_callee (f := 12) rfl ?_); refine goesL_ (some 84) rfl rfl Try.func12 (by kernel_rfl) rfl #[.slice Ao54 t162.length co54, .int .i64 1] rfl (by (try simp only [List.map_toArray, List.map_cons, List.map_nil]); first | done | rfl | (simp only [List.length_drop, List.length_take]; rfl)) ?_; (with_reducible refine (laws_markIntS.calls kj29 (fun k_ => some k_ = (.slice Ao54 t162.length co54 : Value).ownBlock) (.slice Ao54 t162.length co54) t162 1 t175 t176 w _ ?side1 ?side2 A45.out).mono ?_); (case side1 => repeat (first | (with_reducible first | exact HB.out | apply below_alloc | apply pw_below_drewN | apply below_drew1) | exact HB.out)); (case side2 => exact KdC.R_tight rfl HO_11.out); rintro e w55 ⟨rfl, hy0, hb, hkp⟩; refine ⟨_, rfl, ?_⟩; have n0_ := Aside0.mk (KdC.R_mono (ok' := fun k_ => some k_ ≠ (.slice Ao54 t162.length co54 : Value).ownBlock) (KdC.R_keptB (HO_7.out) hkp (fun k_ hk_ hs_ => (hk_) hs_)) (fun k_ hk_ => hk_.1)); have n1_ := Aside0.mk (KdC.R_reok rfl hy0 (fun k_ e_ => HO_11.out.1 k_ e_)); have n2_ := Aside0.mk (hb); clear HO_7; clear HO_11; clear HB; have HO_7 := n0_; have HO_11 := n1_; have HB := n2_; clear n0_ n1_ n2_; (try clear hb); (try clear hkp); (try clear hy0)) | ((with_reducible refine gate_callee (f := 13) rfl ?_); refine goesL_ (some 87) rfl rfl Try.func13 (by kernel_rfl) rfl #[.slice Ao54 t176.length co54, .int .i64 1] rfl (by (try simp only [List.map_toArray, List.map_cons, List.map_nil]); first | done | (rw [show t176.length = t162.length from (KdC.R_reads' HO_11.out).1.symm] <;> rfl) | rfl | (simp only [List.length_drop, List.length_take]; rfl)) ?_; (with_reducible refine (laws_heldIntS.calls kj29 _ _ t176 1 t177 _ ?side1 ?side2 A46.out).mono ?_); (case side1 => repeat (first | exact (KdC.R_reads' HO_11.out).2.2 | (with_reducible refine Kd.C_alloc ?_ _) | (with_reducible refine Kd.C_drewN ?_ _) | (with_reducible refine Kd.C_drew ?_))); (case side2 => rw [show t176.length = t162.length from (KdC.R_reads' HO_11.out).1.symm]; exact (KdC.R_reads' HO_11.out).2.1); rintro e w' ⟨rfl, ⟨nd, rfl⟩⟩; refine ⟨_, rfl, ?_⟩) | ((with_reducible refine gate_callee (f := 9) rfl ?_); refine goesL_ (some 95) rfl rfl Try.func9 (by kernel_rfl) rfl #[.slice A0 l0.length c0] rfl (by (try simp only [List.map_toArray, List.map_cons, List.map_nil]); first | done | rfl | (simp only [List.length_drop, List.length_take]; rfl)) ?_; (with_reducible refine (laws_toIntS.calls kj29 _ _ l0 t178 _ ?side1 ?side2 A51.out).mono ?_); (case side1 => repeat (first | exact (Kd.C_below HR0.out (by repeat (first | (with_reducible first | exact HB.out | apply below_alloc | apply pw_below_drewN | apply below_drew1) | exact HB.out))) | (with_reducible refine Kd.C_alloc ?_ _) | (with_reducible refine Kd.C_drewN ?_ _) | (with_reducible refine Kd.C_drew ?_))); (case side2 => exact HC0.out); rintro e w56 ⟨v179, rfl, ho0, hb⟩; (try (with_reducible replace ho0 := KdC.R_of ho0)); refine ⟨_, rfl, ?_⟩; have n0_ := Aside0.mk (KdC.R_elder' (by (with_reducible repeat (first | apply KdC.R_alloc | apply KdC.R_drewN | apply KdC.R_drew)); exact HO_7.out) (KdC.R_base ho0) hb); have n1_ := Aside0.mk (KdC.R_elder' (by (with_reducible repeat (first | apply KdC.R_alloc | apply KdC.R_drewN | apply KdC.R_drew)); exact HO_11.out) (KdC.R_base ho0) hb); have n2_ := Aside0.mk (KdC.R_lower (KdC.R_new' (KdC.R_new' ho0 (KdC.R_lt (by (with_reducible repeat (first | apply KdC.R_alloc | apply KdC.R_drewN | apply KdC.R_drew)); exact HO_7.out))) (KdC.R_lt (by (with_reducible repeat (first | apply KdC.R_alloc | apply KdC.R_drewN | apply KdC.R_drew)); exact HO_11.out))) (below_size (by repeat (first | (with_reducible first | exact HB.out | apply below_alloc | apply pw_below_drewN | apply below_drew1) | exact HB.out)))); have n3_ := Aside0.mk (below_step (by repeat (first | (with_reducible first | exact HB.out | apply below_alloc | apply pw_below_drewN | apply below_drew1) | exact HB.out)) hb); clear HO_7; clear HO_11; clear HB; have HO_7 := n0_; have HO_11 := n1_; have HO180 := n2_; have HB := n3_; clear n0_ n1_ n2_ n3_; (try clear hb); (try clear hb2); (try clear hk); (try clear hi); (try clear ho0); obtain ⟨Ao57, co57, eo57⟩ := KdC.R_slice HO180.out; subst eo57) | ((with_reducible refine gate_callee (f := 21) rfl ?_); refine goesL_ (some 98) rfl rfl Try.func21 (by kernel_rfl) rfl #[.slice Ao57 t178.length co57, .int .i64 a1, .int .i64 a2] rfl (by (try simp only [List.map_toArray, List.map_cons, List.map_nil]); first | done | rfl | (simp only [List.length_drop, List.length_take]; rfl)) ?_; (with_reducible refine (impl_TouchLru.calls kj29 _ _ t178 a1 a2 t181 t182 t183 _ ?side1 ?side2 A52.out).mono ?_); (case side1 => repeat (first | exact (KdC.R_reads' HO180.out).2.2 | (with_reducible refine Kd.C_alloc ?_ _) | (with_reducible refine Kd.C_drewN ?_ _) | (with_reducible refine Kd.C_drew ?_))); (case side2 => exact (KdC.R_reads' HO180.out).2.1); rintro e w58 ⟨v184, rfl, ho0, hb⟩; (try (with_reducible replace ho0 := KdC.R_of ho0)); refine ⟨_, rfl, ?_⟩; have n0_ := Aside0.mk (KdC.R_elder' (by (with_reducible repeat (first | apply KdC.R_alloc | apply KdC.R_drewN | apply KdC.R_drew)); exact HO_7.out) (KdC.R_base ho0) hb); have n1_ := Aside0.mk (KdC.R_elder' (by (with_reducible repeat (first | apply KdC.R_alloc | apply KdC.R_drewN | apply KdC.R_drew)); exact HO_11.out) (KdC.R_base ho0) hb); have n2_ := Aside0.mk (KdC.R_elder' (by (with_reducible repeat (first | apply KdC.R_alloc | apply KdC.R_drewN | apply KdC.R_drew)); exact HO180.out) (KdC.R_base ho0) hb); have n3_ := Aside0.mk (KdC.R_lower (KdC.R_new' (KdC.R_new' (KdC.R_new' ho0 (KdC.R_lt (by (with_reducible repeat (first | apply KdC.R_alloc | apply KdC.R_drewN | apply KdC.R_drew)); exact HO_7.out))) (KdC.R_lt (by (with_reducible repeat (first | apply KdC.R_alloc | apply KdC.R_drewN | apply KdC.R_drew)); exact HO_11.out))) (KdC.R_lt (by (with_reducible repeat (first | apply KdC.R_alloc | apply KdC.R_drewN | apply KdC.R_drew)); exact HO180.out))) (below_size (by repeat (first | (with_reducible first | exact HB.out | apply below_alloc | apply pw_below_drewN | apply below_drew1) | exact HB.out)))); have n4_ := Aside0.mk (below_step (by repeat (first | (with_reducible first | exact HB.out | apply below_alloc | apply pw_below_drewN | apply below_drew1) | exact HB.out)) hb); clear HO_7; clear HO_11; clear HO180; clear HB; have HO_7 := n0_; have HO_11 := n1_; have HO180 := n2_; have HO185 := n3_; have HB := n4_; clear n0_ n1_ n2_ n3_ n4_; (try clear hb); (try clear hb2); (try clear hk); (try clear hi); (try clear ho0)))
                      (try simp only [Act.put, List.setIfInBounds_toArray, List.set_cons_zero, List.set_cons_succ])
                      go_cut [115] (fun v115 wc => ∃ (kq : Nat) (x115_52 : Bool), v115 = .bool x115_52 ∧ Aside0 (laws_FnExactTouchLru.j2 kq t176 t175 x115_52 = some r) ∧ Aside0 (kq ≤ kj29) ∧ Aside0 (KdC.R (Kd.int .i64) 3 wc w.heap.size (fun _ => True) (.slice Ao54 t162.length co54) t176) ∧ Aside0 (Below w.heap.size w wc))
                      case first =>
                        have H := HC53.out
                        clear HC53
                        replace H := Option.bind_eq_some_iff.mp H
                        obtain ⟨t186, A590, H⟩ := H
                        replace H : (if t186 = true then (if (t182 != t155) = true then (laws_FnExactTouchLru.j2 kj29 t176 t175 true) else (laws_FnExactTouchLru.j2 kj29 t176 t175 (t183 != t156))) else (laws_FnExactTouchLru.j2 kj29 t176 t175 true)) = some r := H
                        have A59 := Aside0.mk A590
                        clear A590
                        by_cases c60 : t186 = true
                        · subst c60
                          have H1 : (if (t182 != t155) = true then (laws_FnExactTouchLru.j2 kj29 t176 t175 true) else (laws_FnExactTouchLru.j2 kj29 t176 t175 (t183 != t156))) = some r := by rw [if_pos rfl] at H; exact H
                          clear H
                          have H := H1
                          clear H1
                          by_cases c61 : (t182 != t155) = true
                          · rw [if_pos c61] at H
                            have c61b0 : (t182 != t155) = true := c61
                            (try (have c61b1 : decide (t182 = t155) = false := by simpa using c61))
                            (try (have c61b2 : (t182 == t155) = false := by simpa using c61))
                            (try (have c61b3 : ¬ (t182 = t155) := by simpa using c61))
                            clear c61
                            (first | rw [c61b0] | (simp only [i64_w, i32_w]; rw [c61b0]) | skip)
                            have H' := Aside0.mk H
                            clear H
                            obtain ⟨Ao62, co62, eo62⟩ := KdC.R_slice HO185.out
                            subst eo62
                            obtain ⟨Ao63, co63, eo63⟩ := KdC.R_slice HO_7.out
                            subst eo63
                            go_wp2_with (first | ((with_reducible refine gate_callee (f := 11) rfl ?_); refine goesL_ (some 104) rfl rfl Try.func11 (by kernel_rfl) rfl #[.slice Ao62 t181.length co62, .slice Ao63 t154.length co63] rfl (by (try simp only [List.map_toArray, List.map_cons, List.map_nil]); first | done | rfl | (simp only [List.length_drop, List.length_take]; rfl)) ?_; (with_reducible refine (laws_eqIntS.calls kj29 _ _ t181 _ _ t154 true _ ?side1 ?side2 ?side3 ?side4 A59.out).mono ?_); (case side1 => repeat (first | exact (KdC.R_reads' HO185.out).2.2 | (with_reducible refine Kd.C_alloc ?_ _) | (with_reducible refine Kd.C_drewN ?_ _) | (with_reducible refine Kd.C_drew ?_))); (case side2 => exact (KdC.R_reads' HO185.out).2.1); (case side3 => repeat (first | exact (KdC.R_reads' HO_7.out).2.2 | (with_reducible refine Kd.C_alloc ?_ _) | (with_reducible refine Kd.C_drewN ?_ _) | (with_reducible refine Kd.C_drew ?_))); (case side4 => exact (KdC.R_reads' HO_7.out).2.1); rintro e w' ⟨rfl, ⟨nd, rfl⟩⟩; refine ⟨_, rfl, ?_⟩))
                            go_meet
                            case rel => exact ⟨_, (true), (by first | rfl | (simp; done) | (simp [*]; done)), H', ⟨by have := HJ8.out; have := HJ29.out; first | omega | exact Nat.le_refl _⟩, ⟨by (with_reducible repeat (first | apply KdC.R_alloc | apply KdC.R_drewN | apply KdC.R_drew)); exact KdC.R_mono HO_11.out (fun _ hk => trivial)⟩, ⟨by repeat (first | (with_reducible first | exact HB.out | apply below_alloc | apply pw_below_drewN | apply below_drew1) | exact HB.out)⟩⟩
                          · rw [if_neg c61] at H
                            have c61b0 : (t182 != t155) = false := by simpa using c61
                            (try (have c61b1 : decide (t182 = t155) = true := by simpa using c61))
                            (try (have c61b2 : (t182 == t155) = true := by simpa using c61))
                            clear c61
                            (first | rw [c61b0] | (simp only [i64_w, i32_w]; rw [c61b0]) | skip)
                            have H' := Aside0.mk H
                            clear H
                            obtain ⟨Ao64, co64, eo64⟩ := KdC.R_slice HO185.out
                            subst eo64
                            obtain ⟨Ao65, co65, eo65⟩ := KdC.R_slice HO_7.out
                            subst eo65
                            go_wp2_with (first | ((with_reducible refine gate_callee (f := 11) rfl ?_); refine goesL_ (some 104) rfl rfl Try.func11 (by kernel_rfl) rfl #[.slice Ao64 t181.length co64, .slice Ao65 t154.length co65] rfl (by (try simp only [List.map_toArray, List.map_cons, List.map_nil]); first | done | rfl | (simp only [List.length_drop, List.length_take]; rfl)) ?_; (with_reducible refine (laws_eqIntS.calls kj29 _ _ t181 _ _ t154 true _ ?side1 ?side2 ?side3 ?side4 A59.out).mono ?_); (case side1 => repeat (first | exact (KdC.R_reads' HO185.out).2.2 | (with_reducible refine Kd.C_alloc ?_ _) | (with_reducible refine Kd.C_drewN ?_ _) | (with_reducible refine Kd.C_drew ?_))); (case side2 => exact (KdC.R_reads' HO185.out).2.1); (case side3 => repeat (first | exact (KdC.R_reads' HO_7.out).2.2 | (with_reducible refine Kd.C_alloc ?_ _) | (with_reducible refine Kd.C_drewN ?_ _) | (with_reducible refine Kd.C_drew ?_))); (case side4 => exact (KdC.R_reads' HO_7.out).2.1); rintro e w' ⟨rfl, ⟨nd, rfl⟩⟩; refine ⟨_, rfl, ?_⟩))
                            go_meet
                            case rel => exact ⟨_, ((t183 != t156)), (by first | rfl | (simp; done) | (simp [*]; done)), H', ⟨by have := HJ8.out; have := HJ29.out; first | omega | exact Nat.le_refl _⟩, ⟨by (with_reducible repeat (first | apply KdC.R_alloc | apply KdC.R_drewN | apply KdC.R_drew)); exact KdC.R_mono HO_11.out (fun _ hk => trivial)⟩, ⟨by repeat (first | (with_reducible first | exact HB.out | apply below_alloc | apply pw_below_drewN | apply below_drew1) | exact HB.out)⟩⟩
                        · replace c60 := Bool.eq_false_iff.mpr c60
                          subst c60
                          have H1 : (laws_FnExactTouchLru.j2 kj29 t176 t175 true) = some r := by rw [if_neg (show ¬ (false = true) by decide)] at H; exact H
                          clear H
                          have H := H1
                          clear H1
                          have H' := Aside0.mk H
                          clear H
                          obtain ⟨Ao66, co66, eo66⟩ := KdC.R_slice HO185.out
                          subst eo66
                          obtain ⟨Ao67, co67, eo67⟩ := KdC.R_slice HO_7.out
                          subst eo67
                          go_wp2_with (first | ((with_reducible refine gate_callee (f := 11) rfl ?_); refine goesL_ (some 104) rfl rfl Try.func11 (by kernel_rfl) rfl #[.slice Ao66 t181.length co66, .slice Ao67 t154.length co67] rfl (by (try simp only [List.map_toArray, List.map_cons, List.map_nil]); first | done | rfl | (simp only [List.length_drop, List.length_take]; rfl)) ?_; (with_reducible refine (laws_eqIntS.calls kj29 _ _ t181 _ _ t154 false _ ?side1 ?side2 ?side3 ?side4 A59.out).mono ?_); (case side1 => repeat (first | exact (KdC.R_reads' HO185.out).2.2 | (with_reducible refine Kd.C_alloc ?_ _) | (with_reducible refine Kd.C_drewN ?_ _) | (with_reducible refine Kd.C_drew ?_))); (case side2 => exact (KdC.R_reads' HO185.out).2.1); (case side3 => repeat (first | exact (KdC.R_reads' HO_7.out).2.2 | (with_reducible refine Kd.C_alloc ?_ _) | (with_reducible refine Kd.C_drewN ?_ _) | (with_reducible refine Kd.C_drew ?_))); (case side4 => exact (KdC.R_reads' HO_7.out).2.1); rintro e w' ⟨rfl, ⟨nd, rfl⟩⟩; refine ⟨_, rfl, ?_⟩))
                          go_meet
                          case rel => exact ⟨_, (true), (by first | rfl | (simp; done) | (simp [*]; done)), H', ⟨by have := HJ8.out; have := HJ29.out; first | omega | exact Nat.le_refl _⟩, ⟨by (with_reducible repeat (first | apply KdC.R_alloc | apply KdC.R_drewN | apply KdC.R_drew)); exact KdC.R_mono HO_11.out (fun _ hk => trivial)⟩, ⟨by repeat (first | (with_reducible first | exact HB.out | apply below_alloc | apply pw_below_drewN | apply below_drew1) | exact HB.out)⟩⟩
                      case rest =>
                        clear HC53
                        try clear c1
                        try clear c2
                        try clear p2
                        try clear c3
                        try clear c4
                        try clear c4b0
                        try clear c4b1
                        try clear c5
                        try clear c6
                        try clear c7
                        try clear c9
                        try clear c11
                        try clear c12
                        try clear c13
                        try clear c17
                        try clear c18
                        try clear c18b0
                        try clear c18b1
                        try clear c18b2
                        try clear c20
                        try clear c21
                        try clear c25
                        try clear c28
                        try clear c34
                        try clear c34b0
                        try clear c36
                        try clear c37
                        try clear c37b0
                        try clear c37b1
                        try clear c37b2
                        try clear c44
                        try clear c47
                        try clear c47b0
                        try clear c50
                        try clear c50b0
                        try clear c50b1
                        try clear c60
                        try clear c61
                        try clear c61b0
                        try clear c61b1
                        try clear c61b2
                        try clear p2
                        obtain ⟨kq, x115_52, rfl, HA, HJ52, HO_11, HB⟩ := hcut
                        have hl11_52 := (KdC.R_reads' HO_11.out).1
                        rw [hl11_52] at HO_11
                        (try simp only [hl11_52])
                        cases kq with
                        | zero => exact absurd HA.out (by simp [laws_FnExactTouchLru.j2])
                        | succ kj52 =>
                          have H := HA.out
                          clear HA
                          simp only [laws_FnExactTouchLru.j2] at H
                          by_cases c68 : x115_52 = true
                          · subst c68
                            have H1 : (some false) = some r := by rw [if_pos rfl] at H; exact H
                            clear H
                            have H := H1
                            clear H1
                            obtain rfl := Option.some.inj H
                            go_wp2
                            go_ret
                            exact ⟨by first | rfl | (simp [errW_none, errW_some] <;> rfl) | (simp [*, errW_none, errW_some] <;> rfl), by repeat (first | (with_reducible first | exact HB.out | apply below_alloc | apply pw_below_drewN | apply below_drew1) | exact HB.out)⟩
                          · replace c68 := Bool.eq_false_iff.mpr c68
                            subst c68
                            have H1 : ((laws_heldIntS.f kj52 t176 1).bind fun t187 => (if t187 < 0 then (some false) else (if t187 = t175 then (some true) else (some false)))) = some r := by rw [if_neg (show ¬ (false = true) by decide)] at H; exact H
                            clear H
                            have H := H1
                            clear H1
                            replace H := Option.bind_eq_some_iff.mp H
                            obtain ⟨t187, A690, H⟩ := H
                            replace H : (if t187 < 0 then (some false) else (if t187 = t175 then (some true) else (some false))) = some r := H
                            have A69 := Aside0.mk A690
                            clear A690
                            by_cases c70 : t187 < 0
                            · rw [if_pos c70] at H
                              have c70b0 : decide (t187 < 0) = true := decide_eq_true c70
                              clear c70
                              obtain rfl := Option.some.inj H
                              go_wp2_with (first | ((with_reducible refine gate_callee (f := 13) rfl ?_); refine goesL_ (some 118) rfl rfl Try.func13 (by kernel_rfl) rfl #[.slice Ao54 t176.length co54, .int .i64 1] rfl (by (try simp only [List.map_toArray, List.map_cons, List.map_nil]); first | done | rfl | (simp only [List.length_drop, List.length_take]; rfl)) ?_; (with_reducible refine (laws_heldIntS.calls kj52 _ _ t176 1 t187 _ ?side1 ?side2 A69.out).mono ?_); (case side1 => repeat (first | exact (KdC.R_reads' HO_11.out).2.2 | (with_reducible refine Kd.C_alloc ?_ _) | (with_reducible refine Kd.C_drewN ?_ _) | (with_reducible refine Kd.C_drew ?_))); (case side2 => exact (KdC.R_reads' HO_11.out).2.1); rintro e w' ⟨rfl, ⟨nd, rfl⟩⟩; refine ⟨_, rfl, ?_⟩))
                              go_ret
                              exact ⟨by first | rfl | (simp [errW_none, errW_some] <;> rfl) | (simp [*, errW_none, errW_some] <;> rfl), by repeat (first | (with_reducible first | exact HB.out | apply below_alloc | apply pw_below_drewN | apply below_drew1) | exact HB.out)⟩
                            · rw [if_neg c70] at H
                              have c70b0 : decide (t187 < 0) = false := decide_eq_false c70
                              clear c70
                              by_cases c71 : t187 = t175
                              · rw [if_pos c71] at H
                                have c71b0 : (t187 == t175) = true := beq_iff_eq.mpr c71
                                have c71b1 : (t187 != t175) = false := bne_eq_false_iff_eq.mpr c71
                                clear c71
                                obtain rfl := Option.some.inj H
                                go_wp2_with (first | ((with_reducible refine gate_callee (f := 13) rfl ?_); refine goesL_ (some 118) rfl rfl Try.func13 (by kernel_rfl) rfl #[.slice Ao54 t176.length co54, .int .i64 1] rfl (by (try simp only [List.map_toArray, List.map_cons, List.map_nil]); first | done | rfl | (simp only [List.length_drop, List.length_take]; rfl)) ?_; (with_reducible refine (laws_heldIntS.calls kj52 _ _ t176 1 t187 _ ?side1 ?side2 A69.out).mono ?_); (case side1 => repeat (first | exact (KdC.R_reads' HO_11.out).2.2 | (with_reducible refine Kd.C_alloc ?_ _) | (with_reducible refine Kd.C_drewN ?_ _) | (with_reducible refine Kd.C_drew ?_))); (case side2 => exact (KdC.R_reads' HO_11.out).2.1); rintro e w' ⟨rfl, ⟨nd, rfl⟩⟩; refine ⟨_, rfl, ?_⟩))
                                go_ret
                                exact ⟨by first | rfl | (simp [errW_none, errW_some] <;> rfl) | (simp [*, errW_none, errW_some] <;> rfl), by repeat (first | (with_reducible first | exact HB.out | apply below_alloc | apply pw_below_drewN | apply below_drew1) | exact HB.out)⟩
                              · rw [if_neg c71] at H
                                have c71b0 : (t187 == t175) = false := beq_eq_false_iff_ne.mpr c71
                                have c71b1 : (t187 != t175) = true := bne_iff_ne.mpr c71
                                obtain rfl := Option.some.inj H
                                go_wp2_with (first | ((with_reducible refine gate_callee (f := 13) rfl ?_); refine goesL_ (some 118) rfl rfl Try.func13 (by kernel_rfl) rfl #[.slice Ao54 t176.length co54, .int .i64 1] rfl (by (try simp only [List.map_toArray, List.map_cons, List.map_nil]); first | done | rfl | (simp only [List.length_drop, List.length_take]; rfl)) ?_; (with_reducible refine (laws_heldIntS.calls kj52 _ _ t176 1 t187 _ ?side1 ?side2 A69.out).mono ?_); (case side1 => repeat (first | exact (KdC.R_reads' HO_11.out).2.2 | (with_reducible refine Kd.C_alloc ?_ _) | (with_reducible refine Kd.C_drewN ?_ _) | (with_reducible refine Kd.C_drew ?_))); (case side2 => exact (KdC.R_reads' HO_11.out).2.1); rintro e w' ⟨rfl, ⟨nd, rfl⟩⟩; refine ⟨_, rfl, ?_⟩))
                                go_ret
                                exact ⟨by first | rfl | (simp [errW_none, errW_some] <;> rfl) | (simp [*, errW_none, errW_some] <;> rfl), by repeat (first | (with_reducible first | exact HB.out | apply below_alloc | apply pw_below_drewN | apply below_drew1) | exact HB.out)⟩
                    · rw [if_neg c50] at H
                      have c50b0 : (t177 == t175) = false := beq_eq_false_iff_ne.mpr c50
                      have c50b1 : (t177 != t175) = true := bne_iff_ne.mpr c50
                      obtain rfl := Option.some.inj H
                      obtain ⟨Ao72, co72, eo72⟩ := KdC.R_slice HO_11.out
                      subst eo72
                      go_wp2_with (first | ((with_reducible refine gate_callee (f := 12) rfl ?_); refine goesL_ (some 84) rfl rfl Try.func12 (by kernel_rfl) rfl #[.slice Ao72 t162.length co72, .int .i64 1] rfl (by (try simp only [List.map_toArray, List.map_cons, List.map_nil]); first | done | rfl | (simp only [List.length_drop, List.length_take]; rfl)) ?_; (with_reducible refine (laws_markIntS.calls kj29 (fun k_ => some k_ = (.slice Ao72 t162.length co72 : Value).ownBlock) (.slice Ao72 t162.length co72) t162 1 t175 t176 w _ ?side1 ?side2 A45.out).mono ?_); (case side1 => repeat (first | (with_reducible first | exact HB.out | apply below_alloc | apply pw_below_drewN | apply below_drew1) | exact HB.out)); (case side2 => exact KdC.R_tight rfl HO_11.out); rintro e w73 ⟨rfl, hy0, hb, hkp⟩; refine ⟨_, rfl, ?_⟩; have n0_ := Aside0.mk (KdC.R_mono (ok' := fun k_ => some k_ ≠ (.slice Ao72 t162.length co72 : Value).ownBlock) (KdC.R_keptB (HO_7.out) hkp (fun k_ hk_ hs_ => (hk_) hs_)) (fun k_ hk_ => hk_.1)); have n1_ := Aside0.mk (KdC.R_reok rfl hy0 (fun k_ e_ => HO_11.out.1 k_ e_)); have n2_ := Aside0.mk (hb); clear HO_7; clear HO_11; clear HB; have HO_7 := n0_; have HO_11 := n1_; have HB := n2_; clear n0_ n1_ n2_; (try clear hb); (try clear hkp); (try clear hy0)) | ((with_reducible refine gate_callee (f := 13) rfl ?_); refine goesL_ (some 87) rfl rfl Try.func13 (by kernel_rfl) rfl #[.slice Ao72 t176.length co72, .int .i64 1] rfl (by (try simp only [List.map_toArray, List.map_cons, List.map_nil]); first | done | (rw [show t176.length = t162.length from (KdC.R_reads' HO_11.out).1.symm] <;> rfl) | rfl | (simp only [List.length_drop, List.length_take]; rfl)) ?_; (with_reducible refine (laws_heldIntS.calls kj29 _ _ t176 1 t177 _ ?side1 ?side2 A46.out).mono ?_); (case side1 => repeat (first | exact (KdC.R_reads' HO_11.out).2.2 | (with_reducible refine Kd.C_alloc ?_ _) | (with_reducible refine Kd.C_drewN ?_ _) | (with_reducible refine Kd.C_drew ?_))); (case side2 => rw [show t176.length = t162.length from (KdC.R_reads' HO_11.out).1.symm]; exact (KdC.R_reads' HO_11.out).2.1); rintro e w' ⟨rfl, ⟨nd, rfl⟩⟩; refine ⟨_, rfl, ?_⟩))
                      go_ret
                      exact ⟨by first | rfl | (simp [errW_none, errW_some] <;> rfl) | (simp [*, errW_none, errW_some] <;> rfl), by repeat (first | (with_reducible first | exact HB.out | apply below_alloc | apply pw_below_drewN | apply below_drew1) | exact HB.out)⟩
          · replace c28 := Bool.eq_false_iff.mpr c28
            subst c28
            have H1 : (some false) = some r := by rw [if_neg (show ¬ (false = true) by decide)] at H; exact H
            clear H
            have H := H1
            clear H1
            obtain rfl := Option.some.inj H
            go_wp2_with (first | ((with_reducible refine gate_callee (f := 9) rfl ?_); refine goesL_ (some 58) rfl rfl Try.func9 (by kernel_rfl) rfl #[.slice A0 l0.length c0] rfl (by (try simp only [List.map_toArray, List.map_cons, List.map_nil]); first | done | rfl | (simp only [List.length_drop, List.length_take]; rfl)) ?_; (with_reducible refine (laws_toIntS.calls kj8 _ _ l0 t168 _ ?side1 ?side2 A26.out).mono ?_); (case side1 => repeat (first | exact (Kd.C_below HR0.out HB.out) | (with_reducible refine Kd.C_alloc ?_ _) | (with_reducible refine Kd.C_drewN ?_ _) | (with_reducible refine Kd.C_drew ?_))); (case side2 => exact HC0.out); rintro e w74 ⟨v169, rfl, ho0, hb⟩; (try (with_reducible replace ho0 := KdC.R_of ho0)); refine ⟨_, rfl, ?_⟩; have n0_ := Aside0.mk (KdC.R_elder' (by (with_reducible repeat (first | apply KdC.R_alloc | apply KdC.R_drewN | apply KdC.R_drew)); exact HO_7.out) (KdC.R_base ho0) hb); have n1_ := Aside0.mk (KdC.R_elder' (by (with_reducible repeat (first | apply KdC.R_alloc | apply KdC.R_drewN | apply KdC.R_drew)); exact HO_10.out) (KdC.R_base ho0) hb); have n2_ := Aside0.mk (KdC.R_elder' (by (with_reducible repeat (first | apply KdC.R_alloc | apply KdC.R_drewN | apply KdC.R_drew)); exact HO_11.out) (KdC.R_base ho0) hb); have n3_ := Aside0.mk (KdC.R_lower (KdC.R_new' (KdC.R_new' (KdC.R_new' ho0 (KdC.R_lt (by (with_reducible repeat (first | apply KdC.R_alloc | apply KdC.R_drewN | apply KdC.R_drew)); exact HO_7.out))) (KdC.R_lt (by (with_reducible repeat (first | apply KdC.R_alloc | apply KdC.R_drewN | apply KdC.R_drew)); exact HO_10.out))) (KdC.R_lt (by (with_reducible repeat (first | apply KdC.R_alloc | apply KdC.R_drewN | apply KdC.R_drew)); exact HO_11.out))) (below_size (by repeat (first | (with_reducible first | exact HB.out | apply below_alloc | apply pw_below_drewN | apply below_drew1) | exact HB.out)))); have n4_ := Aside0.mk (below_step (by repeat (first | (with_reducible first | exact HB.out | apply below_alloc | apply pw_below_drewN | apply below_drew1) | exact HB.out)) hb); clear HO_7; clear HO_10; clear HO_11; clear HB; have HO_7 := n0_; have HO_10 := n1_; have HO_11 := n2_; have HO170 := n3_; have HB := n4_; clear n0_ n1_ n2_ n3_ n4_; (try clear hb); (try clear hb2); (try clear hk); (try clear hi); (try clear ho0); obtain ⟨Ao75, co75, eo75⟩ := KdC.R_slice HO170.out; subst eo75) | ((with_reducible refine gate_callee (f := 11) rfl ?_); refine goesL_ (some 59) rfl rfl Try.func11 (by kernel_rfl) rfl #[.slice Ao14 t159.length co14, .slice Ao75 t168.length co75] rfl (by (try simp only [List.map_toArray, List.map_cons, List.map_nil]); first | done | rfl | (simp only [List.length_drop, List.length_take]; rfl)) ?_; (with_reducible refine (laws_eqIntS.calls kj8 _ _ t159 _ _ t168 false _ ?side1 ?side2 ?side3 ?side4 A27.out).mono ?_); (case side1 => repeat (first | exact (KdC.R_reads' HO_10.out).2.2 | (with_reducible refine Kd.C_alloc ?_ _) | (with_reducible refine Kd.C_drewN ?_ _) | (with_reducible refine Kd.C_drew ?_))); (case side2 => exact (KdC.R_reads' HO_10.out).2.1); (case side3 => repeat (first | exact (KdC.R_reads' HO170.out).2.2 | (with_reducible refine Kd.C_alloc ?_ _) | (with_reducible refine Kd.C_drewN ?_ _) | (with_reducible refine Kd.C_drew ?_))); (case side4 => exact (KdC.R_reads' HO170.out).2.1); rintro e w' ⟨rfl, ⟨nd, rfl⟩⟩; refine ⟨_, rfl, ?_⟩))
            go_ret
            exact ⟨by first | rfl | (simp [errW_none, errW_some] <;> rfl) | (simp [*, errW_none, errW_some] <;> rfl), by repeat (first | (with_reducible first | exact HB.out | apply below_alloc | apply pw_below_drewN | apply below_drew1) | exact HB.out)⟩

/-- THE ONE PURE STATEMENT of laws_FnExactTouchLru: yours. -/
def laws_FnExactTouchLru.Pure : Prop := ∀ (l0 : List Int) (a1 : Int) (a2 : Int), l0.length ≤ maxLen → l0.length * 8 ≤ 140737488351232 → (∀ x ∈ l0, (Lit.int .i64 x).wf = true) → (Lit.int .i64 a1).wf = true → (Lit.int .i64 a2).wf = true → ∃ k, laws_FnExactTouchLru.f k l0 a1 a2 = some true
theorem laws_FnExactTouchLru.walk (P : laws_FnExactTouchLru.Pure) (a0 : Option Addr) (len0 cap0 : Nat) (z0 : List Int) (a1 : Int) (a2 : Int) (w : World) (w0 : (a0 = none ∧ len0 = 0 ∧ cap0 = 0 ∧ z0 = []) ∨ ∃ x, a0 = some x ∧ len0 ≤ cap0 ∧ cap0 ≤ maxLen ∧ z0.length = cap0 ∧ (∀ i, i < z0.length → w.cell? (x.add i) = some (.int .i64 (z0.getD i 0))) ∧ ∀ n ∈ z0, (Lit.int .i64 n).wf = true) (y0 : len0 * 8 ≤ 140737488351232) (w1 : (Lit.int .i64 a1).wf = true) (w2 : (Lit.int .i64 a2).wf = true) :
    Calls Try.prog 7 #[.slice a0 len0 cap0, .int .i64 a1, .int .i64 a2] w fun e w' => e = .returned (.bool true) ∧ Below w.heap.size w w' := by
  obtain ⟨l0, rfl, hr0, hm0, hw0, hc0⟩ := ReadsInt.ofRowC w0
  obtain ⟨k, h⟩ := P l0 a1 a2 hm0 y0 hw0 w1 w2
  refine (laws_FnExactTouchLru.calls k _ _ l0 a1 a2 true w (Kd.C_of_reads (d := (0 : Int)) (h1 := fun _ => rfl) hr0) hc0 h).mono ?_
  rintro e w' ⟨rfl, hd⟩
  exact ⟨rfl, hd⟩

end Go.Proofs.Ytcmlledlhknbpaa.PFnExactTouchLru
