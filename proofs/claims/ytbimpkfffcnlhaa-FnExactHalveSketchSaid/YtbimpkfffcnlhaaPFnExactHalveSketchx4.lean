-- Written by a program of this project (xprint.py) out of the translation; Lean checks it.
import Derived.Test.YtbimpkfffcnlhaaPFnExactHalveSketchx0
import Derived.Test.YtbimpkfffcnlhaaPFnExactHalveSketchx1
import Derived.Test.YtbimpkfffcnlhaaPFnExactHalveSketchx2
import Derived.Test.YtbimpkfffcnlhaaPFnExactHalveSketchx3
namespace Go.Proofs.Ytbimpkfffcnlhaa.PFnExactHalveSketch
open Go.RowKit Go.Proofs.YtbimpkfffcnlhaaW.PrintWords Go.Proofs.YtbimpkfffcnlhaaW.PrintLast Go.Proofs.YtbimpkfffcnlhaaW.PrintMore
attribute [local go_sem] max2_int min2_int max_two min_two max_three min_three max_four min_four   -- for this text's walks alone
set_option linter.unusedVariables false
set_option linter.unusedSimpArgs false

/-! ### laws_FnExactHalveSketch: function 9 -/
mutual
def laws_FnExactHalveSketch.j0 : Nat → Bool → Bool → Bool → List Int → Int → List Int → Int → List Int → Int → List Int → Int → Option (Bool)
  | 0, _, _, _, _, _, _, _, _, _, _, _ => none
  | k + 1, x5, x8, x40, x157000, x157001, x168000, x168001, x173000, x173001, x179000, x179001 => if x40 = true then (some false) else ((laws_toSketch.f k x157000 x157001).bind fun bt180 => ((laws_eqSketch.f k x173000 x173001 bt180.1 bt180.2).bind fun t184 => (if t184 = true then ((laws_markSketch.f k x173000 x173001 1).bind fun bt185 => (if bt185.1 < 0 then (laws_FnExactHalveSketch.j1 k x5 true x157000 x157001 x168000 x168001 x179000 x179001) else ((laws_eqSketch.f k x179000 x179001 x168000 x168001).bind fun t187 => (if t187 = true then (laws_FnExactHalveSketch.j1 k x5 (x8 != x5) x157000 x157001 x168000 x168001 x179000 x179001) else (laws_FnExactHalveSketch.j1 k x5 true x157000 x157001 x168000 x168001 x179000 x179001))))) else (some false))))
def laws_FnExactHalveSketch.j1 : Nat → Bool → Bool → List Int → Int → List Int → Int → List Int → Int → Option (Bool)
  | 0, _, _, _, _, _, _, _, _ => none
  | k + 1, x5, x61, x157000, x157001, x168000, x168001, x179000, x179001 => if x61 = true then (some false) else ((laws_markSketch.f k x179000 x179001 1).bind fun bt188 => ((laws_heldSketch.f k bt188.2 x179001 1).bind fun t190 => (if t190 < 0 then (some false) else (if t190 = bt188.1 then ((laws_toSketch.f k x157000 x157001).bind fun bt191 => ((impl_HalveSketch.f k bt191.1 bt191.2).bind fun bt195 => ((laws_eqSketch.f k bt195.1 bt195.2.1 x168000 x168001).bind fun t201 => (if t201 = true then (laws_FnExactHalveSketch.j2 k bt188.1 (bt195.2.2 != x5) bt188.2 x179001) else (laws_FnExactHalveSketch.j2 k bt188.1 true bt188.2 x179001))))) else (some false)))))
def laws_FnExactHalveSketch.j2 : Nat → Int → Bool → List Int → Int → Option (Bool)
  | 0, _, _, _, _ => none
  | k + 1, x10, x87, x179000, x179001 => if x87 = true then (some false) else ((laws_heldSketch.f k x179000 x179001 1).bind fun t202 => (if t202 < 0 then (some false) else (if t202 = x10 then (some true) else (some false))))
end
def laws_FnExactHalveSketch.f (k : Nat) (l0_0 : List Int) (a0_1 : Int) : Option (Bool) := (laws_szSketch.f l0_0 a0_1 1048576).bind fun t157 => (if t157 < 0 then (some true) else ((laws_toSketch.f k l0_0 a0_1).bind fun bt158 => ((spec_HalveSketch.f k bt158.1 bt158.2).bind fun bt162 => ((laws_toSketch.f k l0_0 a0_1).bind fun bt168 => ((impl_HalveSketch.f k bt168.1 bt168.2).bind fun bt173 => ((laws_eqSketch.f k bt173.1 bt173.2.1 bt162.1 bt162.2.1).bind fun t179 => (if t179 = true then (laws_FnExactHalveSketch.j0 k bt162.2.2 bt173.2.2 (bt173.2.2 != bt162.2.2) l0_0 a0_1 bt162.1 bt162.2.1 bt168.1 bt168.2 bt173.1 bt173.2.1) else (laws_FnExactHalveSketch.j0 k bt162.2.2 bt173.2.2 true l0_0 a0_1 bt162.1 bt162.2.1 bt168.1 bt168.2 bt173.1 bt173.2.1))))))))
theorem laws_FnExactHalveSketch.mono_l : ∀ k, (∀ y0 y1 y2 y3 y4 y5 y6 y7 y8 y9 y10, LeO (laws_FnExactHalveSketch.j0 k y0 y1 y2 y3 y4 y5 y6 y7 y8 y9 y10) (laws_FnExactHalveSketch.j0 (k + 1) y0 y1 y2 y3 y4 y5 y6 y7 y8 y9 y10)) ∧ (∀ y0 y1 y2 y3 y4 y5 y6 y7, LeO (laws_FnExactHalveSketch.j1 k y0 y1 y2 y3 y4 y5 y6 y7) (laws_FnExactHalveSketch.j1 (k + 1) y0 y1 y2 y3 y4 y5 y6 y7)) ∧ (∀ y0 y1 y2 y3, LeO (laws_FnExactHalveSketch.j2 k y0 y1 y2 y3) (laws_FnExactHalveSketch.j2 (k + 1) y0 y1 y2 y3))
  | 0 => ⟨fun _ _ _ _ _ _ _ _ _ _ _ r h => by simp [laws_FnExactHalveSketch.j0] at h, fun _ _ _ _ _ _ _ _ r h => by simp [laws_FnExactHalveSketch.j1] at h, fun _ _ _ _ r h => by simp [laws_FnExactHalveSketch.j2] at h⟩
  | k + 1 => by
    obtain ⟨ih0, ih1, ih2⟩ := laws_FnExactHalveSketch.mono_l k
    refine ⟨?_, ?_, ?_⟩
    · intro y0 y1 y2 y3 y4 y5 y6 y7 y8 y9 y10
      unfold laws_FnExactHalveSketch.j0
      repeat' first
      | (with_reducible exact ih0 _ _ _ _ _ _ _ _ _ _ _)
      | (with_reducible exact ih1 _ _ _ _ _ _ _ _)
      | (with_reducible exact ih2 _ _ _ _)
      | (with_reducible exact impl_HalveSketch.mono _ _ _)
      | (with_reducible exact laws_eqSketch.mono _ _ _ _ _)
      | (with_reducible exact laws_heldSketch.mono _ _ _ _)
      | (with_reducible exact laws_markSketch.mono _ _ _ _)
      | (with_reducible exact laws_toSketch.mono _ _ _)
      | (with_reducible exact spec_HalveSketch.mono _ _ _)
      | (with_reducible exact LeO.refl _)
      | (with_reducible exact LeO.none _)
      | (with_reducible refine LeO.ite ?_ ?_)
      | (with_reducible refine LeO.bind ?_ (fun _ => ?_))
      | exact ih0 _ _ _ _ _ _ _ _ _ _ _
      | exact ih1 _ _ _ _ _ _ _ _
      | exact ih2 _ _ _ _
      | exact impl_HalveSketch.mono _ _ _
      | exact laws_eqSketch.mono _ _ _ _ _
      | exact laws_heldSketch.mono _ _ _ _
      | exact laws_markSketch.mono _ _ _ _
      | exact laws_toSketch.mono _ _ _
      | exact spec_HalveSketch.mono _ _ _
      | exact LeO.none _
      | refine LeO.ite ?_ ?_
      | refine LeO.bind ?_ (fun _ => ?_)
    · intro y0 y1 y2 y3 y4 y5 y6 y7
      unfold laws_FnExactHalveSketch.j1
      repeat' first
      | (with_reducible exact ih0 _ _ _ _ _ _ _ _ _ _ _)
      | (with_reducible exact ih1 _ _ _ _ _ _ _ _)
      | (with_reducible exact ih2 _ _ _ _)
      | (with_reducible exact impl_HalveSketch.mono _ _ _)
      | (with_reducible exact laws_eqSketch.mono _ _ _ _ _)
      | (with_reducible exact laws_heldSketch.mono _ _ _ _)
      | (with_reducible exact laws_markSketch.mono _ _ _ _)
      | (with_reducible exact laws_toSketch.mono _ _ _)
      | (with_reducible exact spec_HalveSketch.mono _ _ _)
      | (with_reducible exact LeO.refl _)
      | (with_reducible exact LeO.none _)
      | (with_reducible refine LeO.ite ?_ ?_)
      | (with_reducible refine LeO.bind ?_ (fun _ => ?_))
      | exact ih0 _ _ _ _ _ _ _ _ _ _ _
      | exact ih1 _ _ _ _ _ _ _ _
      | exact ih2 _ _ _ _
      | exact impl_HalveSketch.mono _ _ _
      | exact laws_eqSketch.mono _ _ _ _ _
      | exact laws_heldSketch.mono _ _ _ _
      | exact laws_markSketch.mono _ _ _ _
      | exact laws_toSketch.mono _ _ _
      | exact spec_HalveSketch.mono _ _ _
      | exact LeO.none _
      | refine LeO.ite ?_ ?_
      | refine LeO.bind ?_ (fun _ => ?_)
    · intro y0 y1 y2 y3
      unfold laws_FnExactHalveSketch.j2
      repeat' first
      | (with_reducible exact ih0 _ _ _ _ _ _ _ _ _ _ _)
      | (with_reducible exact ih1 _ _ _ _ _ _ _ _)
      | (with_reducible exact ih2 _ _ _ _)
      | (with_reducible exact impl_HalveSketch.mono _ _ _)
      | (with_reducible exact laws_eqSketch.mono _ _ _ _ _)
      | (with_reducible exact laws_heldSketch.mono _ _ _ _)
      | (with_reducible exact laws_markSketch.mono _ _ _ _)
      | (with_reducible exact laws_toSketch.mono _ _ _)
      | (with_reducible exact spec_HalveSketch.mono _ _ _)
      | (with_reducible exact LeO.refl _)
      | (with_reducible exact LeO.none _)
      | (with_reducible refine LeO.ite ?_ ?_)
      | (with_reducible refine LeO.bind ?_ (fun _ => ?_))
      | exact ih0 _ _ _ _ _ _ _ _ _ _ _
      | exact ih1 _ _ _ _ _ _ _ _
      | exact ih2 _ _ _ _
      | exact impl_HalveSketch.mono _ _ _
      | exact laws_eqSketch.mono _ _ _ _ _
      | exact laws_heldSketch.mono _ _ _ _
      | exact laws_markSketch.mono _ _ _ _
      | exact laws_toSketch.mono _ _ _
      | exact spec_HalveSketch.mono _ _ _
      | exact LeO.none _
      | refine LeO.ite ?_ ?_
      | refine LeO.bind ?_ (fun _ => ?_)
theorem laws_FnExactHalveSketch.mono : ∀ a0 a1 k, LeO (laws_FnExactHalveSketch.f k a0 a1) (laws_FnExactHalveSketch.f (k + 1) a0 a1) := by
  intro a0 a1 k
  obtain ⟨ih0, ih1, ih2⟩ := laws_FnExactHalveSketch.mono_l k
  unfold laws_FnExactHalveSketch.f
  repeat' first
      | (with_reducible exact ih0 _ _ _ _ _ _ _ _ _ _ _)
      | (with_reducible exact ih1 _ _ _ _ _ _ _ _)
      | (with_reducible exact ih2 _ _ _ _)
      | (with_reducible exact impl_HalveSketch.mono _ _ _)
      | (with_reducible exact laws_eqSketch.mono _ _ _ _ _)
      | (with_reducible exact laws_heldSketch.mono _ _ _ _)
      | (with_reducible exact laws_markSketch.mono _ _ _ _)
      | (with_reducible exact laws_toSketch.mono _ _ _)
      | (with_reducible exact spec_HalveSketch.mono _ _ _)
      | (with_reducible exact LeO.refl _)
      | (with_reducible exact LeO.none _)
      | (with_reducible refine LeO.ite ?_ ?_)
      | (with_reducible refine LeO.bind ?_ (fun _ => ?_))
      | exact ih0 _ _ _ _ _ _ _ _ _ _ _
      | exact ih1 _ _ _ _ _ _ _ _
      | exact ih2 _ _ _ _
      | exact impl_HalveSketch.mono _ _ _
      | exact laws_eqSketch.mono _ _ _ _ _
      | exact laws_heldSketch.mono _ _ _ _
      | exact laws_markSketch.mono _ _ _ _
      | exact laws_toSketch.mono _ _ _
      | exact spec_HalveSketch.mono _ _ _
      | exact LeO.none _
      | refine LeO.ite ?_ ?_
      | refine LeO.bind ?_ (fun _ => ?_)
set_option maxHeartbeats 8000000 in
set_option maxRecDepth 100000 in
theorem laws_FnExactHalveSketch.calls (k : Nat) (A0_0 : Option Addr) (c0_0 : Nat) (l0_0 : List Int) (a0_1 : Int) (r : Bool) (w : World) (hr0_0 : Kd.C (Kd.int .i64) w A0_0 l0_0.length l0_0) (hc0_0 : l0_0.length ≤ c0_0) (h : laws_FnExactHalveSketch.f k l0_0 a0_1 = some r) :
    Calls Try.prog 9 #[.agg #[.slice A0_0 l0_0.length c0_0, .int .i64 a0_1]] w fun e w' => e = .returned (.bool r) ∧ Below w.heap.size w w' := by
  have hu34 := Try.underlying34
  have hu24 := Try.underlying24
  have HR0_0 := Aside0.mk hr0_0
  have HC0_0 := Aside0.mk hc0_0
  clear hr0_0 hc0_0
  have HB := Aside0.mk (Below.refl w.heap.size w)
  have H : ((laws_szSketch.f l0_0 a0_1 1048576).bind fun t157 => (if t157 < 0 then (some true) else ((laws_toSketch.f k l0_0 a0_1).bind fun bt158 => ((spec_HalveSketch.f k bt158.1 bt158.2).bind fun bt162 => ((laws_toSketch.f k l0_0 a0_1).bind fun bt168 => ((impl_HalveSketch.f k bt168.1 bt168.2).bind fun bt173 => ((laws_eqSketch.f k bt173.1 bt173.2.1 bt162.1 bt162.2.1).bind fun t179 => (if t179 = true then (laws_FnExactHalveSketch.j0 k bt162.2.2 bt173.2.2 (bt173.2.2 != bt162.2.2) l0_0 a0_1 bt162.1 bt162.2.1 bt168.1 bt168.2 bt173.1 bt173.2.1) else (laws_FnExactHalveSketch.j0 k bt162.2.2 bt173.2.2 true l0_0 a0_1 bt162.1 bt162.2.1 bt168.1 bt168.2 bt173.1 bt173.2.1))))))))) = some r := h
  clear h
  replace H := Option.bind_eq_some_iff.mp H
  obtain ⟨t157, A20, H⟩ := H
  replace H : (if t157 < 0 then (some true) else ((laws_toSketch.f k l0_0 a0_1).bind fun bt158 => ((spec_HalveSketch.f k bt158.1 bt158.2).bind fun bt162 => ((laws_toSketch.f k l0_0 a0_1).bind fun bt168 => ((impl_HalveSketch.f k bt168.1 bt168.2).bind fun bt173 => ((laws_eqSketch.f k bt173.1 bt173.2.1 bt162.1 bt162.2.1).bind fun t179 => (if t179 = true then (laws_FnExactHalveSketch.j0 k bt162.2.2 bt173.2.2 (bt173.2.2 != bt162.2.2) l0_0 a0_1 bt162.1 bt162.2.1 bt168.1 bt168.2 bt173.1 bt173.2.1) else (laws_FnExactHalveSketch.j0 k bt162.2.2 bt173.2.2 true l0_0 a0_1 bt162.1 bt162.2.1 bt168.1 bt168.2 bt173.1 bt173.2.1)))))))) = some r := H
  have A2 := Aside0.mk A20
  clear A20
  by_cases c3 : t157 < 0
  · rw [if_pos c3] at H
    have c3b0 : decide (t157 < 0) = true := decide_eq_true c3
    clear c3
    obtain rfl := Option.some.inj H
    go_enter Try.func9, Try.ntmps9
    go_wp2_with (first | ((with_reducible refine gate_dst (N := 1) rfl ?_); refine box_event ?hg (N := 1) ?hd (cs := #[.slice A0_0 l0_0.length c0_0, .int .i64 a0_1]) (t := 34) ?hr ?_; (case hd => rfl); (case hg => rfl); (case hr => first | (go_simp; done) | (go_simp; rfl)); intro gb156 hg w4 hbox hb; have n0_ := Aside0.mk (below_step (by repeat (first | (with_reducible first | exact HB.out | apply below_alloc | apply pw_below_drewN | apply below_drew1) | exact HB.out)) hb); have n1_ := Aside0.mk (hbox); have n2_ := Aside0.mk ((by rw [hg]; exact (below_size (by repeat (first | (with_reducible first | exact HB.out | apply below_alloc | apply pw_below_drewN | apply below_drew1) | exact HB.out))) : w.heap.size ≤ gb156)); have n3_ := Aside0.mk ((by rw [hg]; exact (below_size (by repeat (first | (with_reducible first | exact HB.out | apply below_alloc | apply pw_below_drewN | apply below_drew1) | exact HB.out))) : w.heap.size ≤ gb156)); clear HB; have HB := n0_; have BK156 := n1_; have GW156 := n2_; have GE156 := n3_; clear n0_ n1_ n2_ n3_; clear hb hbox hg; have hcz5_0 : w4.cell? ⟨gb156, 0, none⟩ = some (.slice A0_0 l0_0.length c0_0) := (blk_cell BK156.out 0).trans rfl; have hcz5_1 : w4.cell? ⟨gb156, 1, none⟩ = some (.int .i64 a0_1) := (blk_cell BK156.out 1).trans rfl; have hfz5_0 := blk_frozen BK156.out 0; have hfz5_1 := blk_frozen BK156.out 1) | ((with_reducible refine gate_callee (f := 21) rfl ?_); refine goesL_ (some 16) rfl rfl Try.func21 (by kernel_rfl) rfl #[.agg #[.slice A0_0 l0_0.length c0_0, .int .i64 a0_1], .int .i64 1048576] rfl (by (try simp only [List.map_toArray, List.map_cons, List.map_nil]); first | done | rfl | (simp only [List.length_drop, List.length_take]; rfl)) ?_; (with_reducible refine (laws_szSketch.calls _ _ l0_0 a0_1 1048576 t157 _ ?side1 ?side2 A2.out).mono ?_); (case side1 => repeat (first | exact (Kd.C_below HR0_0.out HB.out) | (with_reducible refine Kd.C_alloc ?_ _) | (with_reducible refine Kd.C_drewN ?_ _) | (with_reducible refine Kd.C_drew ?_))); (case side2 => exact HC0_0.out); rintro e w6 ⟨rfl, hb⟩; refine ⟨_, rfl, ?_⟩; have n0_ := Aside0.mk (blk_below (g := gb156) (o := .cells #[.slice A0_0 l0_0.length c0_0, .int .i64 a0_1] 34 (0, 0)) (by (with_reducible repeat (first | refine blk_drewN ?_ _ | refine blk_drew ?_ | refine blk_alloc ?_ _)); exact BK156.out) hb); have n1_ := Aside0.mk (below_step (by repeat (first | (with_reducible first | exact HB.out | apply below_alloc | apply pw_below_drewN | apply below_drew1 | refine below_set ?_ GE156.out) | exact HB.out)) hb); clear BK156; clear HB; have BK156 := n0_; have HB := n1_; clear n0_ n1_; (try clear hb); (try clear hb2); (try clear hk); (try clear hi)))
    go_ret
    exact ⟨by first | rfl | (simp [errW_none, errW_some] <;> rfl) | (simp [*, errW_none, errW_some] <;> rfl), by repeat (first | (with_reducible first | exact HB.out | apply below_alloc | apply pw_below_drewN | apply below_drew1 | refine below_set ?_ GE156.out) | exact HB.out)⟩
  · rw [if_neg c3] at H
    have c3b0 : decide (t157 < 0) = false := decide_eq_false c3
    clear c3
    replace H := Option.bind_eq_some_iff.mp H
    obtain ⟨⟨t158, t161⟩, A70, H⟩ := H
    replace H : ((spec_HalveSketch.f k t158 t161).bind fun bt162 => ((laws_toSketch.f k l0_0 a0_1).bind fun bt168 => ((impl_HalveSketch.f k bt168.1 bt168.2).bind fun bt173 => ((laws_eqSketch.f k bt173.1 bt173.2.1 bt162.1 bt162.2.1).bind fun t179 => (if t179 = true then (laws_FnExactHalveSketch.j0 k bt162.2.2 bt173.2.2 (bt173.2.2 != bt162.2.2) l0_0 a0_1 bt162.1 bt162.2.1 bt168.1 bt168.2 bt173.1 bt173.2.1) else (laws_FnExactHalveSketch.j0 k bt162.2.2 bt173.2.2 true l0_0 a0_1 bt162.1 bt162.2.1 bt168.1 bt168.2 bt173.1 bt173.2.1)))))) = some r := H
    have A7 := Aside0.mk A70
    clear A70
    replace H := Option.bind_eq_some_iff.mp H
    obtain ⟨⟨t162, t165, t166⟩, A80, H⟩ := H
    replace H : ((laws_toSketch.f k l0_0 a0_1).bind fun bt168 => ((impl_HalveSketch.f k bt168.1 bt168.2).bind fun bt173 => ((laws_eqSketch.f k bt173.1 bt173.2.1 t162 t165).bind fun t179 => (if t179 = true then (laws_FnExactHalveSketch.j0 k t166 bt173.2.2 (bt173.2.2 != t166) l0_0 a0_1 t162 t165 bt168.1 bt168.2 bt173.1 bt173.2.1) else (laws_FnExactHalveSketch.j0 k t166 bt173.2.2 true l0_0 a0_1 t162 t165 bt168.1 bt168.2 bt173.1 bt173.2.1))))) = some r := H
    have A8 := Aside0.mk A80
    clear A80
    replace H := Option.bind_eq_some_iff.mp H
    obtain ⟨⟨t168, t171⟩, A90, H⟩ := H
    replace H : ((impl_HalveSketch.f k t168 t171).bind fun bt173 => ((laws_eqSketch.f k bt173.1 bt173.2.1 t162 t165).bind fun t179 => (if t179 = true then (laws_FnExactHalveSketch.j0 k t166 bt173.2.2 (bt173.2.2 != t166) l0_0 a0_1 t162 t165 t168 t171 bt173.1 bt173.2.1) else (laws_FnExactHalveSketch.j0 k t166 bt173.2.2 true l0_0 a0_1 t162 t165 t168 t171 bt173.1 bt173.2.1)))) = some r := H
    have A9 := Aside0.mk A90
    clear A90
    replace H := Option.bind_eq_some_iff.mp H
    obtain ⟨⟨t173, t176, t177⟩, A100, H⟩ := H
    replace H : ((laws_eqSketch.f k t173 t176 t162 t165).bind fun t179 => (if t179 = true then (laws_FnExactHalveSketch.j0 k t166 t177 (t177 != t166) l0_0 a0_1 t162 t165 t168 t171 t173 t176) else (laws_FnExactHalveSketch.j0 k t166 t177 true l0_0 a0_1 t162 t165 t168 t171 t173 t176))) = some r := H
    have A10 := Aside0.mk A100
    clear A100
    have HC11 := Aside0.mk H
    clear H
    go_enter Try.func9, Try.ntmps9
    go_upto_region 8 with (first | ((with_reducible refine gate_dst (N := 1) rfl ?_); refine box_event ?hg (N := 1) ?hd (cs := #[.slice A0_0 l0_0.length c0_0, .int .i64 a0_1]) (t := 34) ?hr ?_; (case hd => rfl); (case hg => rfl); (case hr => first | (go_simp; done) | (go_simp; rfl)); intro gb156 hg w12 hbox hb; have n0_ := Aside0.mk (below_step (by repeat (first | (with_reducible first | exact HB.out | apply below_alloc | apply pw_below_drewN | apply below_drew1) | exact HB.out)) hb); have n1_ := Aside0.mk (hbox); have n2_ := Aside0.mk ((by rw [hg]; exact (below_size (by repeat (first | (with_reducible first | exact HB.out | apply below_alloc | apply pw_below_drewN | apply below_drew1) | exact HB.out))) : w.heap.size ≤ gb156)); have n3_ := Aside0.mk ((by rw [hg]; exact (below_size (by repeat (first | (with_reducible first | exact HB.out | apply below_alloc | apply pw_below_drewN | apply below_drew1) | exact HB.out))) : w.heap.size ≤ gb156)); clear HB; have HB := n0_; have BK156 := n1_; have GW156 := n2_; have GE156 := n3_; clear n0_ n1_ n2_ n3_; clear hb hbox hg; have hcz13_0 : w12.cell? ⟨gb156, 0, none⟩ = some (.slice A0_0 l0_0.length c0_0) := (blk_cell BK156.out 0).trans rfl; have hcz13_1 : w12.cell? ⟨gb156, 1, none⟩ = some (.int .i64 a0_1) := (blk_cell BK156.out 1).trans rfl; have hfz13_0 := blk_frozen BK156.out 0; have hfz13_1 := blk_frozen BK156.out 1) | ((with_reducible refine gate_callee (f := 21) rfl ?_); refine goesL_ (some 16) rfl rfl Try.func21 (by kernel_rfl) rfl #[.agg #[.slice A0_0 l0_0.length c0_0, .int .i64 a0_1], .int .i64 1048576] rfl (by (try simp only [List.map_toArray, List.map_cons, List.map_nil]); first | done | rfl | (simp only [List.length_drop, List.length_take]; rfl)) ?_; (with_reducible refine (laws_szSketch.calls _ _ l0_0 a0_1 1048576 t157 _ ?side1 ?side2 A2.out).mono ?_); (case side1 => repeat (first | exact (Kd.C_below HR0_0.out HB.out) | (with_reducible refine Kd.C_alloc ?_ _) | (with_reducible refine Kd.C_drewN ?_ _) | (with_reducible refine Kd.C_drew ?_))); (case side2 => exact HC0_0.out); rintro e w14 ⟨rfl, hb⟩; refine ⟨_, rfl, ?_⟩; have n0_ := Aside0.mk (blk_below (g := gb156) (o := .cells #[.slice A0_0 l0_0.length c0_0, .int .i64 a0_1] 34 (0, 0)) (by (with_reducible repeat (first | refine blk_drewN ?_ _ | refine blk_drew ?_ | refine blk_alloc ?_ _)); exact BK156.out) hb); have n1_ := Aside0.mk (below_step (by repeat (first | (with_reducible first | exact HB.out | apply below_alloc | apply pw_below_drewN | apply below_drew1 | refine below_set ?_ GE156.out) | exact HB.out)) hb); clear BK156; clear HB; have BK156 := n0_; have HB := n1_; clear n0_ n1_; (try clear hb); (try clear hb2); (try clear hk); (try clear hi); have hcz15_0 : w14.cell? ⟨gb156, 0, none⟩ = some (.slice A0_0 l0_0.length c0_0) := (blk_cell BK156.out 0).trans rfl; have hcz15_1 : w14.cell? ⟨gb156, 1, none⟩ = some (.int .i64 a0_1) := (blk_cell BK156.out 1).trans rfl; have hfz15_0 := blk_frozen BK156.out 0; have hfz15_1 := blk_frozen BK156.out 1) | ((with_reducible refine gate_callee (f := 23) rfl ?_); refine goesL_ (some 21) rfl rfl Try.func23 (by kernel_rfl) rfl #[.agg #[.slice A0_0 l0_0.length c0_0, .int .i64 a0_1]] rfl (by (try simp only [List.map_toArray, List.map_cons, List.map_nil]); first | done | rfl | (simp only [List.length_drop, List.length_take]; rfl)) ?_; (with_reducible refine (laws_toSketch.calls k _ _ l0_0 a0_1 t158 t161 _ ?side1 ?side2 A7.out).mono ?_); (case side1 => repeat (first | exact (Kd.C_below HR0_0.out HB.out) | (with_reducible refine Kd.C_alloc ?_ _) | (with_reducible refine Kd.C_drewN ?_ _) | (with_reducible refine Kd.C_drew ?_))); (case side2 => exact HC0_0.out); rintro e w16 ⟨v159, rfl, ho0, hb⟩; refine ⟨_, rfl, ?_⟩; have n0_ := Aside0.mk (Kd.R_lower ho0 (below_size (by repeat (first | (with_reducible first | exact HB.out | apply below_alloc | apply pw_below_drewN | apply below_drew1 | refine below_set ?_ GE156.out) | exact HB.out)))); have n1_ := Aside0.mk (blk_below (g := gb156) (o := .cells #[.slice A0_0 l0_0.length c0_0, .int .i64 a0_1] 34 (0, 0)) (by (with_reducible repeat (first | refine blk_drewN ?_ _ | refine blk_drew ?_ | refine blk_alloc ?_ _)); exact BK156.out) hb); have n2_ := Aside0.mk (below_step (by repeat (first | (with_reducible first | exact HB.out | apply below_alloc | apply pw_below_drewN | apply below_drew1 | refine below_set ?_ GE156.out) | exact HB.out)) hb); clear BK156; clear HB; have HO160 := n0_; have BK156 := n1_; have HB := n2_; clear n0_ n1_ n2_; (try clear hb); (try clear hb2); (try clear hk); (try clear hi); (try clear ho0); obtain ⟨Ao17, co17, eo17⟩ := Kd.R_slice HO160.out; subst eo17) | ((with_reducible refine gate_callee (f := 31) rfl ?_); refine goesL_ (some 22) rfl rfl Try.func31 (by kernel_rfl) rfl #[.agg #[.slice Ao17 t158.length co17, .int .i64 t161]] rfl (by (try simp only [List.map_toArray, List.map_cons, List.map_nil]); first | done | rfl | (simp only [List.length_drop, List.length_take]; rfl)) ?_; (with_reducible refine (spec_HalveSketch.calls k _ _ t158 t161 t162 t165 t166 _ ?side1 ?side2 A8.out).mono ?_); (case side1 => repeat (first | exact (Kd.R_reads' HO160.out).2.2 | (with_reducible refine Kd.C_alloc ?_ _) | (with_reducible refine Kd.C_drewN ?_ _) | (with_reducible refine Kd.C_drew ?_))); (case side2 => exact (Kd.R_reads' HO160.out).2.1); rintro e w18 ⟨v163, rfl, ho0, hb⟩; refine ⟨_, rfl, ?_⟩; have n0_ := Aside0.mk (Kd.R_elder' (by (with_reducible repeat (first | apply Kd.R_alloc | apply Kd.R_drewN | apply Kd.R_drew)); exact HO160.out) (Kd.R_base ho0) hb); have n1_ := Aside0.mk (Kd.R_lower (Kd.R_new' ho0 (Kd.R_lt (by (with_reducible repeat (first | apply Kd.R_alloc | apply Kd.R_drewN | apply Kd.R_drew)); exact HO160.out))) (below_size (by repeat (first | (with_reducible first | exact HB.out | apply below_alloc | apply pw_below_drewN | apply below_drew1 | refine below_set ?_ GE156.out) | exact HB.out)))); have n2_ := Aside0.mk (blk_below (g := gb156) (o := .cells #[.slice A0_0 l0_0.length c0_0, .int .i64 a0_1] 34 (0, 0)) (by (with_reducible repeat (first | refine blk_drewN ?_ _ | refine blk_drew ?_ | refine blk_alloc ?_ _)); exact BK156.out) hb); have n3_ := Aside0.mk (below_step (by repeat (first | (with_reducible first | exact HB.out | apply below_alloc | apply pw_below_drewN | apply below_drew1 | refine below_set ?_ GE156.out) | exact HB.out)) hb); clear HO160; clear BK156; clear HB; have HO160 := n0_; have HO164 := n1_; have BK156 := n2_; have HB := n3_; clear n0_ n1_ n2_ n3_; (try clear hb); (try clear hb2); (try clear hk); (try clear hi); (try clear ho0)) | ((with_reducible refine gate_dst (N := 4) rfl ?_); refine box_event ?hg (N := 4) ?hd (cs := #[.slice none 0 0, .int .i64 0]) (t := 24) ?hr ?_; (case hd => rfl); (case hg => rfl); (case hr => first | (go_simp; done) | (go_simp; rfl)); intro gb167 hg w19 hbox hb; have n0_ := Aside0.mk (Kd.R_below (by (with_reducible repeat (first | apply Kd.R_alloc | apply Kd.R_drewN | apply Kd.R_drew)); exact HO160.out) hb); have n1_ := Aside0.mk (Kd.R_below (by (with_reducible repeat (first | apply Kd.R_alloc | apply Kd.R_drewN | apply Kd.R_drew)); exact HO164.out) hb); have n2_ := Aside0.mk (blk_below (g := gb156) (o := .cells #[.slice A0_0 l0_0.length c0_0, .int .i64 a0_1] 34 (0, 0)) (by (with_reducible repeat (first | refine blk_drewN ?_ _ | refine blk_drew ?_ | refine blk_alloc ?_ _)); exact BK156.out) hb); have n3_ := Aside0.mk (below_step (by repeat (first | (with_reducible first | exact HB.out | apply below_alloc | apply pw_below_drewN | apply below_drew1 | refine below_set ?_ GE156.out) | exact HB.out)) hb); have n4_ := Aside0.mk (hbox); have n5_ := Aside0.mk ((by rw [hg]; exact (below_size (by repeat (first | (with_reducible first | exact HB.out | apply below_alloc | apply pw_below_drewN | apply below_drew1 | refine below_set ?_ GE156.out) | exact HB.out))) : w.heap.size ≤ gb167)); have n6_ := Aside0.mk ((by rw [hg]; exact (below_size (by repeat (first | (with_reducible first | exact HB.out | apply below_alloc | apply pw_below_drewN | apply below_drew1 | refine below_set ?_ GE156.out) | exact HB.out))) : w.heap.size ≤ gb167)); have n7_ := Aside0.mk ((by rw [hg]; exact Nat.ne_of_lt (blk_lt (g := gb156) (o := .cells #[.slice A0_0 l0_0.length c0_0, .int .i64 a0_1] 34 (0, 0)) (by (with_reducible repeat (first | refine blk_drewN ?_ _ | refine blk_drew ?_ | refine blk_alloc ?_ _)); exact BK156.out)) : gb156 ≠ gb167)); have n8_ := Aside0.mk ((by rw [hg]; exact Nat.ne_of_gt (blk_lt (g := gb156) (o := .cells #[.slice A0_0 l0_0.length c0_0, .int .i64 a0_1] 34 (0, 0)) (by (with_reducible repeat (first | refine blk_drewN ?_ _ | refine blk_drew ?_ | refine blk_alloc ?_ _)); exact BK156.out)) : gb167 ≠ gb156)); clear HO160; clear HO164; clear BK156; clear HB; have HO160 := n0_; have HO164 := n1_; have BK156 := n2_; have HB := n3_; have BK167 := n4_; have GW167 := n5_; have GE167 := n6_; have NB156_167 := n7_; have NB167_156 := n8_; clear n0_ n1_ n2_ n3_ n4_ n5_ n6_ n7_ n8_; clear hb hbox hg; obtain ⟨Ao20, co20, eo20⟩ := Kd.R_slice HO164.out; subst eo20; have hnb21 := NB167_156.out; have hnc21 := NB156_167.out; have hcz22_0 : w19.cell? ⟨gb167, 0, none⟩ = some (.slice none 0 0) := (blk_cell BK167.out 0).trans rfl; have hcz22_1 : w19.cell? ⟨gb167, 1, none⟩ = some (.int .i64 0) := (blk_cell BK167.out 1).trans rfl; have hfz22_0 := blk_frozen BK167.out 0; have hfz22_1 := blk_frozen BK167.out 1; have hcz23_0 : w19.cell? ⟨gb156, 0, none⟩ = some (.slice A0_0 l0_0.length c0_0) := (blk_cell BK156.out 0).trans rfl; have hcz23_1 : w19.cell? ⟨gb156, 1, none⟩ = some (.int .i64 a0_1) := (blk_cell BK156.out 1).trans rfl; have hfz23_0 := blk_frozen BK156.out 0; have hfz23_1 := blk_frozen BK156.out 1) | ((with_reducible refine gate_callee (f := 23) rfl ?_); refine goesL_ (some 26) rfl rfl Try.func23 (by kernel_rfl) rfl #[.agg #[.slice A0_0 l0_0.length c0_0, .int .i64 a0_1]] rfl (by (try simp only [List.map_toArray, List.map_cons, List.map_nil]); first | done | rfl | (simp only [List.length_drop, List.length_take]; rfl)) ?_; (with_reducible refine (laws_toSketch.calls k _ _ l0_0 a0_1 t168 t171 _ ?side1 ?side2 A9.out).mono ?_); (case side1 => exact Kd.C_below HR0_0.out (by repeat (first | (with_reducible first | exact HB.out | apply below_alloc | apply pw_below_drewN | apply below_drew1 | refine below_set ?_ GE156.out | refine below_set ?_ GE167.out) | exact HB.out))); (case side2 => exact HC0_0.out); rintro e w24 ⟨v169, rfl, ho0, hb⟩; refine ⟨_, rfl, ?_⟩; have n0_ := Aside0.mk (Kd.R_elder' (by (with_reducible repeat (first | apply Kd.R_alloc | apply Kd.R_drewN | apply Kd.R_drew)); exact (Kd.R_mono (Kd.R_far (p := ⟨gb167, 1, none⟩) (Kd.R_far (p := ⟨gb167, 0, none⟩) (Kd.R_types HO160.out BK167.out (by decide)) (fun _ hk => hk.2) (.slice Ao20 t162.length co20)) (fun _ hk => hk.2) (.int .i64 t165)) (fun _ h_ => h_.1))) (Kd.R_base ho0) hb); have n1_ := Aside0.mk (Kd.R_elder' (by (with_reducible repeat (first | apply Kd.R_alloc | apply Kd.R_drewN | apply Kd.R_drew)); exact (Kd.R_mono (Kd.R_far (p := ⟨gb167, 1, none⟩) (Kd.R_far (p := ⟨gb167, 0, none⟩) (Kd.R_types HO164.out BK167.out (by decide)) (fun _ hk => hk.2) (.slice Ao20 t162.length co20)) (fun _ hk => hk.2) (.int .i64 t165)) (fun _ h_ => h_.1))) (Kd.R_base ho0) hb); have n2_ := Aside0.mk (Kd.R_lower (Kd.R_new' (Kd.R_new' ho0 (Kd.R_lt (by (with_reducible repeat (first | apply Kd.R_alloc | apply Kd.R_drewN | apply Kd.R_drew)); exact (Kd.R_mono (Kd.R_far (p := ⟨gb167, 1, none⟩) (Kd.R_far (p := ⟨gb167, 0, none⟩) (Kd.R_types HO160.out BK167.out (by decide)) (fun _ hk => hk.2) (.slice Ao20 t162.length co20)) (fun _ hk => hk.2) (.int .i64 t165)) (fun _ h_ => h_.1))))) (Kd.R_lt (by (with_reducible repeat (first | apply Kd.R_alloc | apply Kd.R_drewN | apply Kd.R_drew)); exact (Kd.R_mono (Kd.R_far (p := ⟨gb167, 1, none⟩) (Kd.R_far (p := ⟨gb167, 0, none⟩) (Kd.R_types HO164.out BK167.out (by decide)) (fun _ hk => hk.2) (.slice Ao20 t162.length co20)) (fun _ hk => hk.2) (.int .i64 t165)) (fun _ h_ => h_.1))))) (below_size (by repeat (first | (with_reducible first | exact HB.out | apply below_alloc | apply pw_below_drewN | apply below_drew1 | refine below_set ?_ GE156.out | refine below_set ?_ GE167.out) | exact HB.out)))); have n3_ := Aside0.mk (blk_below (g := gb156) (o := .cells #[.slice A0_0 l0_0.length c0_0, .int .i64 a0_1] 34 (0, 0)) (by (with_reducible repeat (first | refine blk_drewN ?_ _ | refine blk_drew ?_ | refine blk_alloc ?_ _)); refine blk_far ?_ NB156_167.out _; (with_reducible repeat (first | refine blk_drewN ?_ _ | refine blk_drew ?_ | refine blk_alloc ?_ _)); refine blk_far ?_ NB156_167.out _; (with_reducible repeat (first | refine blk_drewN ?_ _ | refine blk_drew ?_ | refine blk_alloc ?_ _)); exact BK156.out) hb); have n4_ := Aside0.mk (blk_below (g := gb167) (o := .cells #[.slice Ao20 t162.length co20, .int .i64 t165] 24 (0, 0)) (by (with_reducible repeat (first | refine blk_drewN ?_ _ | refine blk_drew ?_ | refine blk_alloc ?_ _)); refine blk_put (cs := #[.slice Ao20 t162.length co20, .int .i64 0]) ?_ 1 _ rfl; (with_reducible repeat (first | refine blk_drewN ?_ _ | refine blk_drew ?_ | refine blk_alloc ?_ _)); refine blk_put (cs := #[.slice none 0 0, .int .i64 0]) ?_ 0 _ rfl; (with_reducible repeat (first | refine blk_drewN ?_ _ | refine blk_drew ?_ | refine blk_alloc ?_ _)); exact BK167.out) hb); have n5_ := Aside0.mk (below_step (by repeat (first | (with_reducible first | exact HB.out | apply below_alloc | apply pw_below_drewN | apply below_drew1 | refine below_set ?_ GE156.out | refine below_set ?_ GE167.out) | exact HB.out)) hb); clear HO160; clear HO164; clear BK156; clear BK167; clear HB; have HO160 := n0_; have HO164 := n1_; have HO170 := n2_; have BK156 := n3_; have BK167 := n4_; have HB := n5_; clear n0_ n1_ n2_ n3_ n4_ n5_; (try clear hb); (try clear hb2); (try clear hk); (try clear hi); (try clear ho0)) | ((with_reducible refine gate_dst (N := 6) rfl ?_); refine box_event ?hg (N := 6) ?hd (cs := #[.slice none 0 0, .int .i64 0]) (t := 24) ?hr ?_; (case hd => rfl); (case hg => rfl); (case hr => first | (go_simp; done) | (go_simp; rfl)); intro gb172 hg w25 hbox hb; have n0_ := Aside0.mk (Kd.R_below (by (with_reducible repeat (first | apply Kd.R_alloc | apply Kd.R_drewN | apply Kd.R_drew)); exact HO160.out) hb); have n1_ := Aside0.mk (Kd.R_below (by (with_reducible repeat (first | apply Kd.R_alloc | apply Kd.R_drewN | apply Kd.R_drew)); exact HO164.out) hb); have n2_ := Aside0.mk (Kd.R_below (by (with_reducible repeat (first | apply Kd.R_alloc | apply Kd.R_drewN | apply Kd.R_drew)); exact HO170.out) hb); have n3_ := Aside0.mk (blk_below (g := gb156) (o := .cells #[.slice A0_0 l0_0.length c0_0, .int .i64 a0_1] 34 (0, 0)) (by (with_reducible repeat (first | refine blk_drewN ?_ _ | refine blk_drew ?_ | refine blk_alloc ?_ _)); exact BK156.out) hb); have n4_ := Aside0.mk (blk_below (g := gb167) (o := .cells #[.slice Ao20 t162.length co20, .int .i64 t165] 24 (0, 0)) (by (with_reducible repeat (first | refine blk_drewN ?_ _ | refine blk_drew ?_ | refine blk_alloc ?_ _)); exact BK167.out) hb); have n5_ := Aside0.mk (below_step (by repeat (first | (with_reducible first | exact HB.out | apply below_alloc | apply pw_below_drewN | apply below_drew1 | refine below_set ?_ GE156.out | refine below_set ?_ GE167.out) | exact HB.out)) hb); have n6_ := Aside0.mk (hbox); have n7_ := Aside0.mk ((by rw [hg]; exact (below_size (by repeat (first | (with_reducible first | exact HB.out | apply below_alloc | apply pw_below_drewN | apply below_drew1 | refine below_set ?_ GE156.out | refine below_set ?_ GE167.out) | exact HB.out))) : w.heap.size ≤ gb172)); have n8_ := Aside0.mk ((by rw [hg]; exact (below_size (by repeat (first | (with_reducible first | exact HB.out | apply below_alloc | apply pw_below_drewN | apply below_drew1 | refine below_set ?_ GE156.out | refine below_set ?_ GE167.out) | exact HB.out))) : w.heap.size ≤ gb172)); have n9_ := Aside0.mk ((by rw [hg]; exact Nat.ne_of_lt (blk_lt (g := gb156) (o := .cells #[.slice A0_0 l0_0.length c0_0, .int .i64 a0_1] 34 (0, 0)) (by (with_reducible repeat (first | refine blk_drewN ?_ _ | refine blk_drew ?_ | refine blk_alloc ?_ _)); exact BK156.out)) : gb156 ≠ gb172)); have n10_ := Aside0.mk ((by rw [hg]; exact Nat.ne_of_gt (blk_lt (g := gb156) (o := .cells #[.slice A0_0 l0_0.length c0_0, .int .i64 a0_1] 34 (0, 0)) (by (with_reducible repeat (first | refine blk_drewN ?_ _ | refine blk_drew ?_ | refine blk_alloc ?_ _)); exact BK156.out)) : gb172 ≠ gb156)); have n11_ := Aside0.mk ((by rw [hg]; exact Nat.ne_of_lt (blk_lt (g := gb167) (o := .cells #[.slice Ao20 t162.length co20, .int .i64 t165] 24 (0, 0)) (by (with_reducible repeat (first | refine blk_drewN ?_ _ | refine blk_drew ?_ | refine blk_alloc ?_ _)); exact BK167.out)) : gb167 ≠ gb172)); have n12_ := Aside0.mk ((by rw [hg]; exact Nat.ne_of_gt (blk_lt (g := gb167) (o := .cells #[.slice Ao20 t162.length co20, .int .i64 t165] 24 (0, 0)) (by (with_reducible repeat (first | refine blk_drewN ?_ _ | refine blk_drew ?_ | refine blk_alloc ?_ _)); exact BK167.out)) : gb172 ≠ gb167)); clear HO160; clear HO164; clear HO170; clear BK156; clear BK167; clear HB; have HO160 := n0_; have HO164 := n1_; have HO170 := n2_; have BK156 := n3_; have BK167 := n4_; have HB := n5_; have BK172 := n6_; have GW172 := n7_; have GE172 := n8_; have NB156_172 := n9_; have NB172_156 := n10_; have NB167_172 := n11_; have NB172_167 := n12_; clear n0_ n1_ n2_ n3_ n4_ n5_ n6_ n7_ n8_ n9_ n10_ n11_ n12_; clear hb hbox hg; obtain ⟨Ao26, co26, eo26⟩ := Kd.R_slice HO170.out; subst eo26; have hnb27 := NB172_156.out; have hnc27 := NB156_172.out; have hnb28 := NB172_167.out; have hnc28 := NB167_172.out; have hcz29_0 : w25.cell? ⟨gb172, 0, none⟩ = some (.slice none 0 0) := (blk_cell BK172.out 0).trans rfl; have hcz29_1 : w25.cell? ⟨gb172, 1, none⟩ = some (.int .i64 0) := (blk_cell BK172.out 1).trans rfl; have hfz29_0 := blk_frozen BK172.out 0; have hfz29_1 := blk_frozen BK172.out 1) | ((with_reducible refine gate_callee (f := 32) rfl ?_); refine goesL_ (some 29) rfl rfl Try.func32 (by kernel_rfl) rfl #[.agg #[.slice Ao26 t168.length co26, .int .i64 t171]] rfl (by (try simp only [List.map_toArray, List.map_cons, List.map_nil]); first | done | rfl | (simp only [List.length_drop, List.length_take]; rfl)) ?_; (with_reducible refine (impl_HalveSketch.calls k _ _ t168 t171 t173 t176 t177 _ ?side1 ?side2 A10.out).mono ?_); (case side1 => refine (Kd.R_reads' (e := 3) (base := w.heap.size) (ok := fun k_ => ((True ∧ some k_ ≠ (.slice Ao17 t158.length co17 : Value).ownBlock) ∧ some k_ ≠ (.slice Ao20 t162.length co20 : Value).ownBlock)) (n := t168.length) (c := co26) ?_).2.2; exact (by (with_reducible repeat (first | apply Kd.R_alloc | apply Kd.R_drewN | apply Kd.R_drew)); exact (Kd.R_mono (Kd.R_far (p := ⟨gb172, 1, none⟩) (Kd.R_far (p := ⟨gb172, 0, none⟩) (Kd.R_types HO170.out BK172.out (by decide)) (fun _ hk => hk.2) (.slice Ao26 t168.length co26)) (fun _ hk => hk.2) (.int .i64 t171)) (fun _ h_ => h_.1)))); (case side2 => exact (Kd.R_reads' HO170.out).2.1); rintro e w30 ⟨v174, rfl, ho0, hb⟩; refine ⟨_, rfl, ?_⟩; have n0_ := Aside0.mk (Kd.R_elder' (by (with_reducible repeat (first | apply Kd.R_alloc | apply Kd.R_drewN | apply Kd.R_drew)); exact (Kd.R_mono (Kd.R_far (p := ⟨gb172, 1, none⟩) (Kd.R_far (p := ⟨gb172, 0, none⟩) (Kd.R_types HO160.out BK172.out (by decide)) (fun _ hk => hk.2) (.slice Ao26 t168.length co26)) (fun _ hk => hk.2) (.int .i64 t171)) (fun _ h_ => h_.1))) (Kd.R_base ho0) hb); have n1_ := Aside0.mk (Kd.R_elder' (by (with_reducible repeat (first | apply Kd.R_alloc | apply Kd.R_drewN | apply Kd.R_drew)); exact (Kd.R_mono (Kd.R_far (p := ⟨gb172, 1, none⟩) (Kd.R_far (p := ⟨gb172, 0, none⟩) (Kd.R_types HO164.out BK172.out (by decide)) (fun _ hk => hk.2) (.slice Ao26 t168.length co26)) (fun _ hk => hk.2) (.int .i64 t171)) (fun _ h_ => h_.1))) (Kd.R_base ho0) hb); have n2_ := Aside0.mk (Kd.R_elder' (by (with_reducible repeat (first | apply Kd.R_alloc | apply Kd.R_drewN | apply Kd.R_drew)); exact (Kd.R_mono (Kd.R_far (p := ⟨gb172, 1, none⟩) (Kd.R_far (p := ⟨gb172, 0, none⟩) (Kd.R_types HO170.out BK172.out (by decide)) (fun _ hk => hk.2) (.slice Ao26 t168.length co26)) (fun _ hk => hk.2) (.int .i64 t171)) (fun _ h_ => h_.1))) (Kd.R_base ho0) hb); have n3_ := Aside0.mk (Kd.R_lower (Kd.R_new' (Kd.R_new' (Kd.R_new' ho0 (Kd.R_lt (by (with_reducible repeat (first | apply Kd.R_alloc | apply Kd.R_drewN | apply Kd.R_drew)); exact (Kd.R_mono (Kd.R_far (p := ⟨gb172, 1, none⟩) (Kd.R_far (p := ⟨gb172, 0, none⟩) (Kd.R_types HO160.out BK172.out (by decide)) (fun _ hk => hk.2) (.slice Ao26 t168.length co26)) (fun _ hk => hk.2) (.int .i64 t171)) (fun _ h_ => h_.1))))) (Kd.R_lt (by (with_reducible repeat (first | apply Kd.R_alloc | apply Kd.R_drewN | apply Kd.R_drew)); exact (Kd.R_mono (Kd.R_far (p := ⟨gb172, 1, none⟩) (Kd.R_far (p := ⟨gb172, 0, none⟩) (Kd.R_types HO164.out BK172.out (by decide)) (fun _ hk => hk.2) (.slice Ao26 t168.length co26)) (fun _ hk => hk.2) (.int .i64 t171)) (fun _ h_ => h_.1))))) (Kd.R_lt (by (with_reducible repeat (first | apply Kd.R_alloc | apply Kd.R_drewN | apply Kd.R_drew)); exact (Kd.R_mono (Kd.R_far (p := ⟨gb172, 1, none⟩) (Kd.R_far (p := ⟨gb172, 0, none⟩) (Kd.R_types HO170.out BK172.out (by decide)) (fun _ hk => hk.2) (.slice Ao26 t168.length co26)) (fun _ hk => hk.2) (.int .i64 t171)) (fun _ h_ => h_.1))))) (below_size (by repeat (first | (with_reducible first | exact HB.out | apply below_alloc | apply pw_below_drewN | apply below_drew1 | refine below_set ?_ GE156.out | refine below_set ?_ GE167.out | refine below_set ?_ GE172.out) | exact HB.out)))); have n4_ := Aside0.mk (blk_below (g := gb156) (o := .cells #[.slice A0_0 l0_0.length c0_0, .int .i64 a0_1] 34 (0, 0)) (by (with_reducible repeat (first | refine blk_drewN ?_ _ | refine blk_drew ?_ | refine blk_alloc ?_ _)); refine blk_far ?_ NB156_172.out _; (with_reducible repeat (first | refine blk_drewN ?_ _ | refine blk_drew ?_ | refine blk_alloc ?_ _)); refine blk_far ?_ NB156_172.out _; (with_reducible repeat (first | refine blk_drewN ?_ _ | refine blk_drew ?_ | refine blk_alloc ?_ _)); exact BK156.out) hb); have n5_ := Aside0.mk (blk_below (g := gb167) (o := .cells #[.slice Ao20 t162.length co20, .int .i64 t165] 24 (0, 0)) (by (with_reducible repeat (first | refine blk_drewN ?_ _ | refine blk_drew ?_ | refine blk_alloc ?_ _)); refine blk_far ?_ NB167_172.out _; (with_reducible repeat (first | refine blk_drewN ?_ _ | refine blk_drew ?_ | refine blk_alloc ?_ _)); refine blk_far ?_ NB167_172.out _; (with_reducible repeat (first | refine blk_drewN ?_ _ | refine blk_drew ?_ | refine blk_alloc ?_ _)); exact BK167.out) hb); have n6_ := Aside0.mk (blk_below (g := gb172) (o := .cells #[.slice Ao26 t168.length co26, .int .i64 t171] 24 (0, 0)) (by (with_reducible repeat (first | refine blk_drewN ?_ _ | refine blk_drew ?_ | refine blk_alloc ?_ _)); refine blk_put (cs := #[.slice Ao26 t168.length co26, .int .i64 0]) ?_ 1 _ rfl; (with_reducible repeat (first | refine blk_drewN ?_ _ | refine blk_drew ?_ | refine blk_alloc ?_ _)); refine blk_put (cs := #[.slice none 0 0, .int .i64 0]) ?_ 0 _ rfl; (with_reducible repeat (first | refine blk_drewN ?_ _ | refine blk_drew ?_ | refine blk_alloc ?_ _)); exact BK172.out) hb); have n7_ := Aside0.mk (below_step (by repeat (first | (with_reducible first | exact HB.out | apply below_alloc | apply pw_below_drewN | apply below_drew1 | refine below_set ?_ GE156.out | refine below_set ?_ GE167.out | refine below_set ?_ GE172.out) | exact HB.out)) hb); clear HO160; clear HO164; clear HO170; clear BK156; clear BK167; clear BK172; clear HB; have HO160 := n0_; have HO164 := n1_; have HO170 := n2_; have HO175 := n3_; have BK156 := n4_; have BK167 := n5_; have BK172 := n6_; have HB := n7_; clear n0_ n1_ n2_ n3_ n4_ n5_ n6_ n7_; (try clear hb); (try clear hb2); (try clear hk); (try clear hi); (try clear ho0)) | ((with_reducible refine gate_dst (N := 7) rfl ?_); refine box_event ?hg (N := 7) ?hd (cs := #[.slice none 0 0, .int .i64 0]) (t := 24) ?hr ?_; (case hd => rfl); (case hg => rfl); (case hr => first | (go_simp; done) | (go_simp; rfl)); intro gb178 hg w31 hbox hb; have n0_ := Aside0.mk (Kd.R_below (by (with_reducible repeat (first | apply Kd.R_alloc | apply Kd.R_drewN | apply Kd.R_drew)); exact HO160.out) hb); have n1_ := Aside0.mk (Kd.R_below (by (with_reducible repeat (first | apply Kd.R_alloc | apply Kd.R_drewN | apply Kd.R_drew)); exact HO164.out) hb); have n2_ := Aside0.mk (Kd.R_below (by (with_reducible repeat (first | apply Kd.R_alloc | apply Kd.R_drewN | apply Kd.R_drew)); exact HO170.out) hb); have n3_ := Aside0.mk (Kd.R_below (by (with_reducible repeat (first | apply Kd.R_alloc | apply Kd.R_drewN | apply Kd.R_drew)); exact HO175.out) hb); have n4_ := Aside0.mk (blk_below (g := gb156) (o := .cells #[.slice A0_0 l0_0.length c0_0, .int .i64 a0_1] 34 (0, 0)) (by (with_reducible repeat (first | refine blk_drewN ?_ _ | refine blk_drew ?_ | refine blk_alloc ?_ _)); exact BK156.out) hb); have n5_ := Aside0.mk (blk_below (g := gb167) (o := .cells #[.slice Ao20 t162.length co20, .int .i64 t165] 24 (0, 0)) (by (with_reducible repeat (first | refine blk_drewN ?_ _ | refine blk_drew ?_ | refine blk_alloc ?_ _)); exact BK167.out) hb); have n6_ := Aside0.mk (blk_below (g := gb172) (o := .cells #[.slice Ao26 t168.length co26, .int .i64 t171] 24 (0, 0)) (by (with_reducible repeat (first | refine blk_drewN ?_ _ | refine blk_drew ?_ | refine blk_alloc ?_ _)); exact BK172.out) hb); have n7_ := Aside0.mk (below_step (by repeat (first | (with_reducible first | exact HB.out | apply below_alloc | apply pw_below_drewN | apply below_drew1 | refine below_set ?_ GE156.out | refine below_set ?_ GE167.out | refine below_set ?_ GE172.out) | exact HB.out)) hb); have n8_ := Aside0.mk (hbox); have n9_ := Aside0.mk ((by rw [hg]; exact (below_size (by repeat (first | (with_reducible first | exact HB.out | apply below_alloc | apply pw_below_drewN | apply below_drew1 | refine below_set ?_ GE156.out | refine below_set ?_ GE167.out | refine below_set ?_ GE172.out) | exact HB.out))) : w.heap.size ≤ gb178)); have n10_ := Aside0.mk ((by rw [hg]; exact (below_size (by repeat (first | (with_reducible first | exact HB.out | apply below_alloc | apply pw_below_drewN | apply below_drew1 | refine below_set ?_ GE156.out | refine below_set ?_ GE167.out | refine below_set ?_ GE172.out) | exact HB.out))) : w.heap.size ≤ gb178)); have n11_ := Aside0.mk ((by rw [hg]; exact Nat.ne_of_lt (blk_lt (g := gb156) (o := .cells #[.slice A0_0 l0_0.length c0_0, .int .i64 a0_1] 34 (0, 0)) (by (with_reducible repeat (first | refine blk_drewN ?_ _ | refine blk_drew ?_ | refine blk_alloc ?_ _)); exact BK156.out)) : gb156 ≠ gb178)); have n12_ := Aside0.mk ((by rw [hg]; exact Nat.ne_of_gt (blk_lt (g := gb156) (o := .cells #[.slice A0_0 l0_0.length c0_0, .int .i64 a0_1] 34 (0, 0)) (by (with_reducible repeat (first | refine blk_drewN ?_ _ | refine blk_drew ?_ | refine blk_alloc ?_ _)); exact BK156.out)) : gb178 ≠ gb156)); have n13_ := Aside0.mk ((by rw [hg]; exact Nat.ne_of_lt (blk_lt (g := gb167) (o := .cells #[.slice Ao20 t162.length co20, .int .i64 t165] 24 (0, 0)) (by (with_reducible repeat (first | refine blk_drewN ?_ _ | refine blk_drew ?_ | refine blk_alloc ?_ _)); exact BK167.out)) : gb167 ≠ gb178)); have n14_ := Aside0.mk ((by rw [hg]; exact Nat.ne_of_gt (blk_lt (g := gb167) (o := .cells #[.slice Ao20 t162.length co20, .int .i64 t165] 24 (0, 0)) (by (with_reducible repeat (first | refine blk_drewN ?_ _ | refine blk_drew ?_ | refine blk_alloc ?_ _)); exact BK167.out)) : gb178 ≠ gb167)); have n15_ := Aside0.mk ((by rw [hg]; exact Nat.ne_of_lt (blk_lt (g := gb172) (o := .cells #[.slice Ao26 t168.length co26, .int .i64 t171] 24 (0, 0)) (by (with_reducible repeat (first | refine blk_drewN ?_ _ | refine blk_drew ?_ | refine blk_alloc ?_ _)); exact BK172.out)) : gb172 ≠ gb178)); have n16_ := Aside0.mk ((by rw [hg]; exact Nat.ne_of_gt (blk_lt (g := gb172) (o := .cells #[.slice Ao26 t168.length co26, .int .i64 t171] 24 (0, 0)) (by (with_reducible repeat (first | refine blk_drewN ?_ _ | refine blk_drew ?_ | refine blk_alloc ?_ _)); exact BK172.out)) : gb178 ≠ gb172)); clear HO160; clear HO164; clear HO170; clear HO175; clear BK156; clear BK167; clear BK172; clear HB; have HO160 := n0_; have HO164 := n1_; have HO170 := n2_; have HO175 := n3_; have BK156 := n4_; have BK167 := n5_; have BK172 := n6_; have HB := n7_; have BK178 := n8_; have GW178 := n9_; have GE178 := n10_; have NB156_178 := n11_; have NB178_156 := n12_; have NB167_178 := n13_; have NB178_167 := n14_; have NB172_178 := n15_; have NB178_172 := n16_; clear n0_ n1_ n2_ n3_ n4_ n5_ n6_ n7_ n8_ n9_ n10_ n11_ n12_ n13_ n14_ n15_ n16_; clear hb hbox hg; obtain ⟨Ao32, co32, eo32⟩ := Kd.R_slice HO175.out; subst eo32; have hnb33 := NB178_156.out; have hnc33 := NB156_178.out; have hnb34 := NB178_167.out; have hnc34 := NB167_178.out; have hnb35 := NB178_172.out; have hnc35 := NB172_178.out; have hcz36_0 : w31.cell? ⟨gb178, 0, none⟩ = some (.slice none 0 0) := (blk_cell BK178.out 0).trans rfl; have hcz36_1 : w31.cell? ⟨gb178, 1, none⟩ = some (.int .i64 0) := (blk_cell BK178.out 1).trans rfl; have hfz36_0 := blk_frozen BK178.out 0; have hfz36_1 := blk_frozen BK178.out 1))
    (try simp only [Act.put, List.setIfInBounds_toArray, List.set_cons_zero, List.set_cons_succ])
    go_cut [40] (fun v40 wc => ∃ (kq : Nat) (x40_10 : Bool), v40 = .bool x40_10 ∧ Aside0 (laws_FnExactHalveSketch.j0 kq t166 t177 x40_10 l0_0 a0_1 t162 t165 t168 t171 t173 t176 = some r) ∧ Aside0 (kq ≤ k) ∧ Aside0 (Kd.R (Kd.int .i64) 3 wc w.heap.size (fun k_ => some k_ ≠ ((.slice Ao26 t168.length co26) : Value).ownBlock ∧ some k_ ≠ ((.slice Ao32 t173.length co32) : Value).ownBlock) (.slice Ao20 t162.length co20) t162) ∧ Aside0 (Kd.R (Kd.int .i64) 3 wc w.heap.size (fun k_ => some k_ ≠ ((.slice Ao20 t162.length co20) : Value).ownBlock ∧ some k_ ≠ ((.slice Ao32 t173.length co32) : Value).ownBlock) (.slice Ao26 t168.length co26) t168) ∧ Aside0 (Kd.R (Kd.int .i64) 3 wc w.heap.size (fun k_ => some k_ ≠ ((.slice Ao20 t162.length co20) : Value).ownBlock ∧ some k_ ≠ ((.slice Ao26 t168.length co26) : Value).ownBlock) (.slice Ao32 t173.length co32) t173) ∧ Aside0 (wc.heap[gb156]? = some (.cells #[(.slice A0_0 l0_0.length c0_0), .int .i64 a0_1] 34 (0, 0))) ∧ Aside0 (wc.heap[gb167]? = some (.cells #[(.slice Ao20 t162.length co20), .int .i64 t165] 24 (0, 0))) ∧ Aside0 (wc.heap[gb172]? = some (.cells #[(.slice Ao26 t168.length co26), .int .i64 t171] 24 (0, 0))) ∧ Aside0 (wc.heap[gb178]? = some (.cells #[(.slice Ao32 t173.length co32), .int .i64 t176] 24 (0, 0))) ∧ Aside0 (Below w.heap.size w wc))
    case first =>
      have H := HC11.out
      clear HC11
      replace H := Option.bind_eq_some_iff.mp H
      obtain ⟨t179, A370, H⟩ := H
      replace H : (if t179 = true then (laws_FnExactHalveSketch.j0 k t166 t177 (t177 != t166) l0_0 a0_1 t162 t165 t168 t171 t173 t176) else (laws_FnExactHalveSketch.j0 k t166 t177 true l0_0 a0_1 t162 t165 t168 t171 t173 t176)) = some r := H
      have A37 := Aside0.mk A370
      clear A370
      by_cases c38 : t179 = true
      · subst c38
        have H1 : (laws_FnExactHalveSketch.j0 k t166 t177 (t177 != t166) l0_0 a0_1 t162 t165 t168 t171 t173 t176) = some r := by rw [if_pos rfl] at H; exact H
        clear H
        have H := H1
        clear H1
        have H' := Aside0.mk H
        clear H
        have hnb39 := NB178_156.out
        have hnc39 := NB156_178.out
        have hnb40 := NB178_167.out
        have hnc40 := NB167_178.out
        have hnb41 := NB178_172.out
        have hnc41 := NB172_178.out
        have hcz42_0 : w31.cell? ⟨gb178, 0, none⟩ = some (.slice none 0 0) := (blk_cell BK178.out 0).trans rfl
        have hcz42_1 : w31.cell? ⟨gb178, 1, none⟩ = some (.int .i64 0) := (blk_cell BK178.out 1).trans rfl
        have hfz42_0 := blk_frozen BK178.out 0
        have hfz42_1 := blk_frozen BK178.out 1
        have hnb43 := NB167_156.out
        have hnc43 := NB156_167.out
        have hnb44 := NB167_172.out
        have hnc44 := NB172_167.out
        have hcz45_0 : w31.cell? ⟨gb167, 0, none⟩ = some (.slice Ao20 t162.length co20) := (blk_cell BK167.out 0).trans rfl
        have hcz45_1 : w31.cell? ⟨gb167, 1, none⟩ = some (.int .i64 t165) := (blk_cell BK167.out 1).trans rfl
        have hfz45_0 := blk_frozen BK167.out 0
        have hfz45_1 := blk_frozen BK167.out 1
        go_wp2_with (first | ((with_reducible refine gate_callee (f := 13) rfl ?_); refine goesL_ (some 34) rfl rfl Try.func13 (by kernel_rfl) rfl #[.agg #[.slice Ao32 t173.length co32, .int .i64 t176], .agg #[.slice Ao20 t162.length co20, .int .i64 t165]] rfl (by (try simp only [List.map_toArray, List.map_cons, List.map_nil]); first | done | rfl | (simp only [List.length_drop, List.length_take]; rfl)) ?_; (with_reducible refine (laws_eqSketch.calls k _ _ t173 t176 _ _ t162 t165 true _ ?side1 ?side2 ?side3 ?side4 A37.out).mono ?_); (case side1 => refine (Kd.R_reads' (e := 3) (base := w.heap.size) (ok := fun k_ => (((True ∧ some k_ ≠ (.slice Ao17 t158.length co17 : Value).ownBlock) ∧ some k_ ≠ (.slice Ao20 t162.length co20 : Value).ownBlock) ∧ some k_ ≠ (.slice Ao26 t168.length co26 : Value).ownBlock)) (n := t173.length) (c := co32) ?_).2.2; exact (by (with_reducible repeat (first | apply Kd.R_alloc | apply Kd.R_drewN | apply Kd.R_drew)); exact (Kd.R_mono (Kd.R_far (p := ⟨gb178, 1, none⟩) (Kd.R_far (p := ⟨gb178, 0, none⟩) (Kd.R_types HO175.out BK178.out (by decide)) (fun _ hk => hk.2) (.slice Ao32 t173.length co32)) (fun _ hk => hk.2) (.int .i64 t176)) (fun _ h_ => h_.1)))); (case side2 => exact (Kd.R_reads' HO175.out).2.1); (case side3 => refine (Kd.R_reads' (e := 3) (base := w.heap.size) (ok := fun k_ => (((True ∧ some k_ ≠ (.slice Ao17 t158.length co17 : Value).ownBlock) ∧ some k_ ≠ (.slice Ao26 t168.length co26 : Value).ownBlock) ∧ some k_ ≠ (.slice Ao32 t173.length co32 : Value).ownBlock)) (n := t162.length) (c := co20) ?_).2.2; exact (by (with_reducible repeat (first | apply Kd.R_alloc | apply Kd.R_drewN | apply Kd.R_drew)); exact (Kd.R_mono (Kd.R_far (p := ⟨gb178, 1, none⟩) (Kd.R_far (p := ⟨gb178, 0, none⟩) (Kd.R_types HO164.out BK178.out (by decide)) (fun _ hk => hk.2) (.slice Ao32 t173.length co32)) (fun _ hk => hk.2) (.int .i64 t176)) (fun _ h_ => h_.1)))); (case side4 => exact (Kd.R_reads' HO164.out).2.1); rintro e w46 ⟨rfl, hb⟩; refine ⟨_, rfl, ?_⟩; have n0_ := Aside0.mk (Kd.R_below (by (with_reducible repeat (first | apply Kd.R_alloc | apply Kd.R_drewN | apply Kd.R_drew)); exact (Kd.R_mono (Kd.R_far (p := ⟨gb178, 1, none⟩) (Kd.R_far (p := ⟨gb178, 0, none⟩) (Kd.R_types HO160.out BK178.out (by decide)) (fun _ hk => hk.2) (.slice Ao32 t173.length co32)) (fun _ hk => hk.2) (.int .i64 t176)) (fun _ h_ => h_.1))) hb); have n1_ := Aside0.mk (Kd.R_below (by (with_reducible repeat (first | apply Kd.R_alloc | apply Kd.R_drewN | apply Kd.R_drew)); exact (Kd.R_mono (Kd.R_far (p := ⟨gb178, 1, none⟩) (Kd.R_far (p := ⟨gb178, 0, none⟩) (Kd.R_types HO164.out BK178.out (by decide)) (fun _ hk => hk.2) (.slice Ao32 t173.length co32)) (fun _ hk => hk.2) (.int .i64 t176)) (fun _ h_ => h_.1))) hb); have n2_ := Aside0.mk (Kd.R_below (by (with_reducible repeat (first | apply Kd.R_alloc | apply Kd.R_drewN | apply Kd.R_drew)); exact (Kd.R_mono (Kd.R_far (p := ⟨gb178, 1, none⟩) (Kd.R_far (p := ⟨gb178, 0, none⟩) (Kd.R_types HO170.out BK178.out (by decide)) (fun _ hk => hk.2) (.slice Ao32 t173.length co32)) (fun _ hk => hk.2) (.int .i64 t176)) (fun _ h_ => h_.1))) hb); have n3_ := Aside0.mk (Kd.R_below (by (with_reducible repeat (first | apply Kd.R_alloc | apply Kd.R_drewN | apply Kd.R_drew)); exact (Kd.R_mono (Kd.R_far (p := ⟨gb178, 1, none⟩) (Kd.R_far (p := ⟨gb178, 0, none⟩) (Kd.R_types HO175.out BK178.out (by decide)) (fun _ hk => hk.2) (.slice Ao32 t173.length co32)) (fun _ hk => hk.2) (.int .i64 t176)) (fun _ h_ => h_.1))) hb); have n4_ := Aside0.mk (blk_below (g := gb156) (o := .cells #[.slice A0_0 l0_0.length c0_0, .int .i64 a0_1] 34 (0, 0)) (by (with_reducible repeat (first | refine blk_drewN ?_ _ | refine blk_drew ?_ | refine blk_alloc ?_ _)); refine blk_far ?_ NB156_178.out _; (with_reducible repeat (first | refine blk_drewN ?_ _ | refine blk_drew ?_ | refine blk_alloc ?_ _)); refine blk_far ?_ NB156_178.out _; (with_reducible repeat (first | refine blk_drewN ?_ _ | refine blk_drew ?_ | refine blk_alloc ?_ _)); exact BK156.out) hb); have n5_ := Aside0.mk (blk_below (g := gb167) (o := .cells #[.slice Ao20 t162.length co20, .int .i64 t165] 24 (0, 0)) (by (with_reducible repeat (first | refine blk_drewN ?_ _ | refine blk_drew ?_ | refine blk_alloc ?_ _)); refine blk_far ?_ NB167_178.out _; (with_reducible repeat (first | refine blk_drewN ?_ _ | refine blk_drew ?_ | refine blk_alloc ?_ _)); refine blk_far ?_ NB167_178.out _; (with_reducible repeat (first | refine blk_drewN ?_ _ | refine blk_drew ?_ | refine blk_alloc ?_ _)); exact BK167.out) hb); have n6_ := Aside0.mk (blk_below (g := gb172) (o := .cells #[.slice Ao26 t168.length co26, .int .i64 t171] 24 (0, 0)) (by (with_reducible repeat (first | refine blk_drewN ?_ _ | refine blk_drew ?_ | refine blk_alloc ?_ _)); refine blk_far ?_ NB172_178.out _; (with_reducible repeat (first | refine blk_drewN ?_ _ | refine blk_drew ?_ | refine blk_alloc ?_ _)); refine blk_far ?_ NB172_178.out _; (with_reducible repeat (first | refine blk_drewN ?_ _ | refine blk_drew ?_ | refine blk_alloc ?_ _)); exact BK172.out) hb); have n7_ := Aside0.mk (blk_below (g := gb178) (o := .cells #[.slice Ao32 t173.length co32, .int .i64 t176] 24 (0, 0)) (by (with_reducible repeat (first | refine blk_drewN ?_ _ | refine blk_drew ?_ | refine blk_alloc ?_ _)); refine blk_put (cs := #[.slice Ao32 t173.length co32, .int .i64 0]) ?_ 1 _ rfl; (with_reducible repeat (first | refine blk_drewN ?_ _ | refine blk_drew ?_ | refine blk_alloc ?_ _)); refine blk_put (cs := #[.slice none 0 0, .int .i64 0]) ?_ 0 _ rfl; (with_reducible repeat (first | refine blk_drewN ?_ _ | refine blk_drew ?_ | refine blk_alloc ?_ _)); exact BK178.out) hb); have n8_ := Aside0.mk (below_step (by repeat (first | (with_reducible first | exact HB.out | apply below_alloc | apply pw_below_drewN | apply below_drew1 | refine below_set ?_ GE156.out | refine below_set ?_ GE167.out | refine below_set ?_ GE172.out | refine below_set ?_ GE178.out) | exact HB.out)) hb); clear HO160; clear HO164; clear HO170; clear HO175; clear BK156; clear BK167; clear BK172; clear BK178; clear HB; have HO160 := n0_; have HO164 := n1_; have HO170 := n2_; have HO175 := n3_; have BK156 := n4_; have BK167 := n5_; have BK172 := n6_; have BK178 := n7_; have HB := n8_; clear n0_ n1_ n2_ n3_ n4_ n5_ n6_ n7_ n8_; (try clear hb); (try clear hb2); (try clear hk); (try clear hi)))
        go_meet
        case rel => exact ⟨_, ((t177 != t166)), (by first | rfl | (simp; done) | (simp [*]; done)), H', ⟨by first | omega | exact Nat.le_refl _⟩, ⟨by (with_reducible repeat (first | apply Kd.R_alloc | apply Kd.R_drewN | apply Kd.R_drew)); exact Kd.R_mono HO164.out (fun _ hk => ⟨hk.1.2, hk.2⟩)⟩, ⟨by (with_reducible repeat (first | apply Kd.R_alloc | apply Kd.R_drewN | apply Kd.R_drew)); exact Kd.R_mono HO170.out (fun _ hk => ⟨hk.1.2, hk.2⟩)⟩, ⟨by (with_reducible repeat (first | apply Kd.R_alloc | apply Kd.R_drewN | apply Kd.R_drew)); exact Kd.R_mono HO175.out (fun _ hk => ⟨hk.1.2, hk.2⟩)⟩, ⟨by (with_reducible repeat (first | refine blk_drewN ?_ _ | refine blk_drew ?_ | refine blk_alloc ?_ _)); exact BK156.out⟩, ⟨by (with_reducible repeat (first | refine blk_drewN ?_ _ | refine blk_drew ?_ | refine blk_alloc ?_ _)); exact BK167.out⟩, ⟨by (with_reducible repeat (first | refine blk_drewN ?_ _ | refine blk_drew ?_ | refine blk_alloc ?_ _)); exact BK172.out⟩, ⟨by (with_reducible repeat (first | refine blk_drewN ?_ _ | refine blk_drew ?_ | refine blk_alloc ?_ _)); exact BK178.out⟩, ⟨by repeat (first | (with_reducible first | exact HB.out | apply below_alloc | apply pw_below_drewN | apply below_drew1 | refine below_set ?_ GE156.out | refine below_set ?_ GE167.out | refine below_set ?_ GE172.out | refine below_set ?_ GE178.out) | exact HB.out)⟩⟩
      · replace c38 := Bool.eq_false_iff.mpr c38
        subst c38
        have H1 : (laws_FnExactHalveSketch.j0 k t166 t177 true l0_0 a0_1 t162 t165 t168 t171 t173 t176) = some r := by rw [if_neg (show ¬ (false = true) by decide)] at H; exact H
        clear H
        have H := H1
        clear H1
        have H' := Aside0.mk H
        clear H
        have hnb47 := NB178_156.out
        have hnc47 := NB156_178.out
        have hnb48 := NB178_167.out
        have hnc48 := NB167_178.out
        have hnb49 := NB178_172.out
        have hnc49 := NB172_178.out
        have hcz50_0 : w31.cell? ⟨gb178, 0, none⟩ = some (.slice none 0 0) := (blk_cell BK178.out 0).trans rfl
        have hcz50_1 : w31.cell? ⟨gb178, 1, none⟩ = some (.int .i64 0) := (blk_cell BK178.out 1).trans rfl
        have hfz50_0 := blk_frozen BK178.out 0
        have hfz50_1 := blk_frozen BK178.out 1
        have hnb51 := NB167_156.out
        have hnc51 := NB156_167.out
        have hnb52 := NB167_172.out
        have hnc52 := NB172_167.out
        have hcz53_0 : w31.cell? ⟨gb167, 0, none⟩ = some (.slice Ao20 t162.length co20) := (blk_cell BK167.out 0).trans rfl
        have hcz53_1 : w31.cell? ⟨gb167, 1, none⟩ = some (.int .i64 t165) := (blk_cell BK167.out 1).trans rfl
        have hfz53_0 := blk_frozen BK167.out 0
        have hfz53_1 := blk_frozen BK167.out 1
        go_wp2_with (first | ((with_reducible refine gate_callee (f := 13) rfl ?_); refine goesL_ (some 34) rfl rfl Try.func13 (by kernel_rfl) rfl #[.agg #[.slice Ao32 t173.length co32, .int .i64 t176], .agg #[.slice Ao20 t162.length co20, .int .i64 t165]] rfl (by (try simp only [List.map_toArray, List.map_cons, List.map_nil]); first | done | rfl | (simp only [List.length_drop, List.length_take]; rfl)) ?_; (with_reducible refine (laws_eqSketch.calls k _ _ t173 t176 _ _ t162 t165 false _ ?side1 ?side2 ?side3 ?side4 A37.out).mono ?_); (case side1 => refine (Kd.R_reads' (e := 3) (base := w.heap.size) (ok := fun k_ => (((True ∧ some k_ ≠ (.slice Ao17 t158.length co17 : Value).ownBlock) ∧ some k_ ≠ (.slice Ao20 t162.length co20 : Value).ownBlock) ∧ some k_ ≠ (.slice Ao26 t168.length co26 : Value).ownBlock)) (n := t173.length) (c := co32) ?_).2.2; exact (by (with_reducible repeat (first | apply Kd.R_alloc | apply Kd.R_drewN | apply Kd.R_drew)); exact (Kd.R_mono (Kd.R_far (p := ⟨gb178, 1, none⟩) (Kd.R_far (p := ⟨gb178, 0, none⟩) (Kd.R_types HO175.out BK178.out (by decide)) (fun _ hk => hk.2) (.slice Ao32 t173.length co32)) (fun _ hk => hk.2) (.int .i64 t176)) (fun _ h_ => h_.1)))); (case side2 => exact (Kd.R_reads' HO175.out).2.1); (case side3 => refine (Kd.R_reads' (e := 3) (base := w.heap.size) (ok := fun k_ => (((True ∧ some k_ ≠ (.slice Ao17 t158.length co17 : Value).ownBlock) ∧ some k_ ≠ (.slice Ao26 t168.length co26 : Value).ownBlock) ∧ some k_ ≠ (.slice Ao32 t173.length co32 : Value).ownBlock)) (n := t162.length) (c := co20) ?_).2.2; exact (by (with_reducible repeat (first | apply Kd.R_alloc | apply Kd.R_drewN | apply Kd.R_drew)); exact (Kd.R_mono (Kd.R_far (p := ⟨gb178, 1, none⟩) (Kd.R_far (p := ⟨gb178, 0, none⟩) (Kd.R_types HO164.out BK178.out (by decide)) (fun _ hk => hk.2) (.slice Ao32 t173.length co32)) (fun _ hk => hk.2) (.int .i64 t176)) (fun _ h_ => h_.1)))); (case side4 => exact (Kd.R_reads' HO164.out).2.1); rintro e w54 ⟨rfl, hb⟩; refine ⟨_, rfl, ?_⟩; have n0_ := Aside0.mk (Kd.R_below (by (with_reducible repeat (first | apply Kd.R_alloc | apply Kd.R_drewN | apply Kd.R_drew)); exact (Kd.R_mono (Kd.R_far (p := ⟨gb178, 1, none⟩) (Kd.R_far (p := ⟨gb178, 0, none⟩) (Kd.R_types HO160.out BK178.out (by decide)) (fun _ hk => hk.2) (.slice Ao32 t173.length co32)) (fun _ hk => hk.2) (.int .i64 t176)) (fun _ h_ => h_.1))) hb); have n1_ := Aside0.mk (Kd.R_below (by (with_reducible repeat (first | apply Kd.R_alloc | apply Kd.R_drewN | apply Kd.R_drew)); exact (Kd.R_mono (Kd.R_far (p := ⟨gb178, 1, none⟩) (Kd.R_far (p := ⟨gb178, 0, none⟩) (Kd.R_types HO164.out BK178.out (by decide)) (fun _ hk => hk.2) (.slice Ao32 t173.length co32)) (fun _ hk => hk.2) (.int .i64 t176)) (fun _ h_ => h_.1))) hb); have n2_ := Aside0.mk (Kd.R_below (by (with_reducible repeat (first | apply Kd.R_alloc | apply Kd.R_drewN | apply Kd.R_drew)); exact (Kd.R_mono (Kd.R_far (p := ⟨gb178, 1, none⟩) (Kd.R_far (p := ⟨gb178, 0, none⟩) (Kd.R_types HO170.out BK178.out (by decide)) (fun _ hk => hk.2) (.slice Ao32 t173.length co32)) (fun _ hk => hk.2) (.int .i64 t176)) (fun _ h_ => h_.1))) hb); have n3_ := Aside0.mk (Kd.R_below (by (with_reducible repeat (first | apply Kd.R_alloc | apply Kd.R_drewN | apply Kd.R_drew)); exact (Kd.R_mono (Kd.R_far (p := ⟨gb178, 1, none⟩) (Kd.R_far (p := ⟨gb178, 0, none⟩) (Kd.R_types HO175.out BK178.out (by decide)) (fun _ hk => hk.2) (.slice Ao32 t173.length co32)) (fun _ hk => hk.2) (.int .i64 t176)) (fun _ h_ => h_.1))) hb); have n4_ := Aside0.mk (blk_below (g := gb156) (o := .cells #[.slice A0_0 l0_0.length c0_0, .int .i64 a0_1] 34 (0, 0)) (by (with_reducible repeat (first | refine blk_drewN ?_ _ | refine blk_drew ?_ | refine blk_alloc ?_ _)); refine blk_far ?_ NB156_178.out _; (with_reducible repeat (first | refine blk_drewN ?_ _ | refine blk_drew ?_ | refine blk_alloc ?_ _)); refine blk_far ?_ NB156_178.out _; (with_reducible repeat (first | refine blk_drewN ?_ _ | refine blk_drew ?_ | refine blk_alloc ?_ _)); exact BK156.out) hb); have n5_ := Aside0.mk (blk_below (g := gb167) (o := .cells #[.slice Ao20 t162.length co20, .int .i64 t165] 24 (0, 0)) (by (with_reducible repeat (first | refine blk_drewN ?_ _ | refine blk_drew ?_ | refine blk_alloc ?_ _)); refine blk_far ?_ NB167_178.out _; (with_reducible repeat (first | refine blk_drewN ?_ _ | refine blk_drew ?_ | refine blk_alloc ?_ _)); refine blk_far ?_ NB167_178.out _; (with_reducible repeat (first | refine blk_drewN ?_ _ | refine blk_drew ?_ | refine blk_alloc ?_ _)); exact BK167.out) hb); have n6_ := Aside0.mk (blk_below (g := gb172) (o := .cells #[.slice Ao26 t168.length co26, .int .i64 t171] 24 (0, 0)) (by (with_reducible repeat (first | refine blk_drewN ?_ _ | refine blk_drew ?_ | refine blk_alloc ?_ _)); refine blk_far ?_ NB172_178.out _; (with_reducible repeat (first | refine blk_drewN ?_ _ | refine blk_drew ?_ | refine blk_alloc ?_ _)); refine blk_far ?_ NB172_178.out _; (with_reducible repeat (first | refine blk_drewN ?_ _ | refine blk_drew ?_ | refine blk_alloc ?_ _)); exact BK172.out) hb); have n7_ := Aside0.mk (blk_below (g := gb178) (o := .cells #[.slice Ao32 t173.length co32, .int .i64 t176] 24 (0, 0)) (by (with_reducible repeat (first | refine blk_drewN ?_ _ | refine blk_drew ?_ | refine blk_alloc ?_ _)); refine blk_put (cs := #[.slice Ao32 t173.length co32, .int .i64 0]) ?_ 1 _ rfl; (with_reducible repeat (first | refine blk_drewN ?_ _ | refine blk_drew ?_ | refine blk_alloc ?_ _)); refine blk_put (cs := #[.slice none 0 0, .int .i64 0]) ?_ 0 _ rfl; (with_reducible repeat (first | refine blk_drewN ?_ _ | refine blk_drew ?_ | refine blk_alloc ?_ _)); exact BK178.out) hb); have n8_ := Aside0.mk (below_step (by repeat (first | (with_reducible first | exact HB.out | apply below_alloc | apply pw_below_drewN | apply below_drew1 | refine below_set ?_ GE156.out | refine below_set ?_ GE167.out | refine below_set ?_ GE172.out | refine below_set ?_ GE178.out) | exact HB.out)) hb); clear HO160; clear HO164; clear HO170; clear HO175; clear BK156; clear BK167; clear BK172; clear BK178; clear HB; have HO160 := n0_; have HO164 := n1_; have HO170 := n2_; have HO175 := n3_; have BK156 := n4_; have BK167 := n5_; have BK172 := n6_; have BK178 := n7_; have HB := n8_; clear n0_ n1_ n2_ n3_ n4_ n5_ n6_ n7_ n8_; (try clear hb); (try clear hb2); (try clear hk); (try clear hi)))
        go_meet
        case rel => exact ⟨_, (true), (by first | rfl | (simp; done) | (simp [*]; done)), H', ⟨by first | omega | exact Nat.le_refl _⟩, ⟨by (with_reducible repeat (first | apply Kd.R_alloc | apply Kd.R_drewN | apply Kd.R_drew)); exact Kd.R_mono HO164.out (fun _ hk => ⟨hk.1.2, hk.2⟩)⟩, ⟨by (with_reducible repeat (first | apply Kd.R_alloc | apply Kd.R_drewN | apply Kd.R_drew)); exact Kd.R_mono HO170.out (fun _ hk => ⟨hk.1.2, hk.2⟩)⟩, ⟨by (with_reducible repeat (first | apply Kd.R_alloc | apply Kd.R_drewN | apply Kd.R_drew)); exact Kd.R_mono HO175.out (fun _ hk => ⟨hk.1.2, hk.2⟩)⟩, ⟨by (with_reducible repeat (first | refine blk_drewN ?_ _ | refine blk_drew ?_ | refine blk_alloc ?_ _)); exact BK156.out⟩, ⟨by (with_reducible repeat (first | refine blk_drewN ?_ _ | refine blk_drew ?_ | refine blk_alloc ?_ _)); exact BK167.out⟩, ⟨by (with_reducible repeat (first | refine blk_drewN ?_ _ | refine blk_drew ?_ | refine blk_alloc ?_ _)); exact BK172.out⟩, ⟨by (with_reducible repeat (first | refine blk_drewN ?_ _ | refine blk_drew ?_ | refine blk_alloc ?_ _)); exact BK178.out⟩, ⟨by repeat (first | (with_reducible first | exact HB.out | apply below_alloc | apply pw_below_drewN | apply below_drew1 | refine below_set ?_ GE156.out | refine below_set ?_ GE167.out | refine below_set ?_ GE172.out | refine below_set ?_ GE178.out) | exact HB.out)⟩⟩
    case rest =>
      clear HC11
      try clear c1
      try clear c2
      try clear p2
      try clear c3
      try clear c3b0
      try clear c4
      try clear c5
      try clear c9
      try clear c13
      try clear c21
      try clear c23
      try clear c27
      try clear c28
      try clear c31
      try clear c32
      try clear c33
      try clear c34
      try clear c35
      try clear c38
      try clear c39
      try clear c40
      try clear c41
      try clear c43
      try clear c44
      try clear c47
      try clear c48
      try clear c49
      try clear c51
      try clear c52
      try clear hcz13_0
      try clear hcz13_1
      try clear hcz15_0
      try clear hcz15_1
      try clear hcz22_0
      try clear hcz22_1
      try clear hcz23_0
      try clear hcz23_1
      try clear hcz29_0
      try clear hcz29_1
      try clear hcz36_0
      try clear hcz36_1
      try clear hcz42_0
      try clear hcz42_1
      try clear hcz45_0
      try clear hcz45_1
      try clear hcz50_0
      try clear hcz50_1
      try clear hcz53_0
      try clear hcz53_1
      try clear hcz5_0
      try clear hcz5_1
      try clear hfz13_0
      try clear hfz13_1
      try clear hfz15_0
      try clear hfz15_1
      try clear hfz22_0
      try clear hfz22_1
      try clear hfz23_0
      try clear hfz23_1
      try clear hfz29_0
      try clear hfz29_1
      try clear hfz36_0
      try clear hfz36_1
      try clear hfz42_0
      try clear hfz42_1
      try clear hfz45_0
      try clear hfz45_1
      try clear hfz50_0
      try clear hfz50_1
      try clear hfz53_0
      try clear hfz53_1
      try clear hfz5_0
      try clear hfz5_1
      obtain ⟨kq, x40_10, rfl, HA, HJ10, HO_168000, HO_173000, HO_179000, BK156, BK167, BK172, BK178, HB⟩ := hcut
      cases kq with
      | zero => exact absurd HA.out (by simp [laws_FnExactHalveSketch.j0])
      | succ kj10 =>
        have H := HA.out
        clear HA
        simp only [laws_FnExactHalveSketch.j0] at H
        by_cases c55 : x40_10 = true
        · subst c55
          have H1 : (some false) = some r := by rw [if_pos rfl] at H; exact H
          clear H
          have H := H1
          clear H1
          obtain rfl := Option.some.inj H
          go_wp2
          go_ret
          exact ⟨by first | rfl | (simp [errW_none, errW_some] <;> rfl) | (simp [*, errW_none, errW_some] <;> rfl), by repeat (first | (with_reducible first | exact HB.out | apply below_alloc | apply pw_below_drewN | apply below_drew1 | refine below_set ?_ GE156.out | refine below_set ?_ GE167.out | refine below_set ?_ GE172.out | refine below_set ?_ GE178.out) | exact HB.out)⟩
        · replace c55 := Bool.eq_false_iff.mpr c55
          subst c55
          have H1 : ((laws_toSketch.f kj10 l0_0 a0_1).bind fun bt180 => ((laws_eqSketch.f kj10 t168 t171 bt180.1 bt180.2).bind fun t184 => (if t184 = true then ((laws_markSketch.f kj10 t168 t171 1).bind fun bt185 => (if bt185.1 < 0 then (laws_FnExactHalveSketch.j1 kj10 t166 true l0_0 a0_1 t162 t165 t173 t176) else ((laws_eqSketch.f kj10 t173 t176 t162 t165).bind fun t187 => (if t187 = true then (laws_FnExactHalveSketch.j1 kj10 t166 (t177 != t166) l0_0 a0_1 t162 t165 t173 t176) else (laws_FnExactHalveSketch.j1 kj10 t166 true l0_0 a0_1 t162 t165 t173 t176))))) else (some false)))) = some r := by rw [if_neg (show ¬ (false = true) by decide)] at H; exact H
          clear H
          have H := H1
          clear H1
          replace H := Option.bind_eq_some_iff.mp H
          obtain ⟨⟨t180, t183⟩, A560, H⟩ := H
          replace H : ((laws_eqSketch.f kj10 t168 t171 t180 t183).bind fun t184 => (if t184 = true then ((laws_markSketch.f kj10 t168 t171 1).bind fun bt185 => (if bt185.1 < 0 then (laws_FnExactHalveSketch.j1 kj10 t166 true l0_0 a0_1 t162 t165 t173 t176) else ((laws_eqSketch.f kj10 t173 t176 t162 t165).bind fun t187 => (if t187 = true then (laws_FnExactHalveSketch.j1 kj10 t166 (t177 != t166) l0_0 a0_1 t162 t165 t173 t176) else (laws_FnExactHalveSketch.j1 kj10 t166 true l0_0 a0_1 t162 t165 t173 t176))))) else (some false))) = some r := H
          have A56 := Aside0.mk A560
          clear A560
          replace H := Option.bind_eq_some_iff.mp H
          obtain ⟨t184, A570, H⟩ := H
          replace H : (if t184 = true then ((laws_markSketch.f kj10 t168 t171 1).bind fun bt185 => (if bt185.1 < 0 then (laws_FnExactHalveSketch.j1 kj10 t166 true l0_0 a0_1 t162 t165 t173 t176) else ((laws_eqSketch.f kj10 t173 t176 t162 t165).bind fun t187 => (if t187 = true then (laws_FnExactHalveSketch.j1 kj10 t166 (t177 != t166) l0_0 a0_1 t162 t165 t173 t176) else (laws_FnExactHalveSketch.j1 kj10 t166 true l0_0 a0_1 t162 t165 t173 t176))))) else (some false)) = some r := H
          have A57 := Aside0.mk A570
          clear A570
          by_cases c58 : t184 = true
          · subst c58
            have H1 : ((laws_markSketch.f kj10 t168 t171 1).bind fun bt185 => (if bt185.1 < 0 then (laws_FnExactHalveSketch.j1 kj10 t166 true l0_0 a0_1 t162 t165 t173 t176) else ((laws_eqSketch.f kj10 t173 t176 t162 t165).bind fun t187 => (if t187 = true then (laws_FnExactHalveSketch.j1 kj10 t166 (t177 != t166) l0_0 a0_1 t162 t165 t173 t176) else (laws_FnExactHalveSketch.j1 kj10 t166 true l0_0 a0_1 t162 t165 t173 t176))))) = some r := by rw [if_pos rfl] at H; exact H
            clear H
            have H := H1
            clear H1
            replace H := Option.bind_eq_some_iff.mp H
            obtain ⟨⟨t185, t186⟩, A590, H⟩ := H
            replace H : (if t185 < 0 then (laws_FnExactHalveSketch.j1 kj10 t166 true l0_0 a0_1 t162 t165 t173 t176) else ((laws_eqSketch.f kj10 t173 t176 t162 t165).bind fun t187 => (if t187 = true then (laws_FnExactHalveSketch.j1 kj10 t166 (t177 != t166) l0_0 a0_1 t162 t165 t173 t176) else (laws_FnExactHalveSketch.j1 kj10 t166 true l0_0 a0_1 t162 t165 t173 t176)))) = some r := H
            have A59 := Aside0.mk A590
            clear A590
            have HC60 := Aside0.mk H
            clear H
            try go_wp2
            have n0_ := Aside0.mk (Kd.R_drew HO_168000.out)
            have n1_ := Aside0.mk (Kd.R_drew HO_173000.out)
            have n2_ := Aside0.mk (Kd.R_drew HO_179000.out)
            have n3_ := Aside0.mk (blk_drew BK156.out)
            have n4_ := Aside0.mk (blk_drew BK167.out)
            have n5_ := Aside0.mk (blk_drew BK172.out)
            have n6_ := Aside0.mk (blk_drew BK178.out)
            have n7_ := Aside0.mk (below_drew1 HB.out)
            clear HO_168000
            clear HO_173000
            clear HO_179000
            clear BK156
            clear BK167
            clear BK172
            clear BK178
            clear HB
            have HO_168000 := n0_
            have HO_173000 := n1_
            have HO_179000 := n2_
            have BK156 := n3_
            have BK167 := n4_
            have BK172 := n5_
            have BK178 := n6_
            have HB := n7_
            clear n0_ n1_ n2_ n3_ n4_ n5_ n6_ n7_
            refine start_ (n := 5) (S := fun w' => w'.cell? ⟨gb172, 0, none⟩ = some (.slice Ao26 t168.length co26) ∧ w'.cell? ⟨gb172, 1, none⟩ = some (.int .i64 t171) ∧ w'.cell? ⟨gb156, 0, none⟩ = some (.slice A0_0 l0_0.length c0_0) ∧ w'.cell? ⟨gb156, 1, none⟩ = some (.int .i64 a0_1)) (ds := []) #[false, false, false, false, false] (by kernel_rfl) rfl rfl ⟨(blk_cell BK172.out 0).trans rfl, (blk_cell BK172.out 1).trans rfl, (blk_cell BK156.out 0).trans rfl, (blk_cell BK156.out 1).trans rfl⟩ (fun hHeld => ?_)
            generalize wc.drew = w61 at HO_168000 HO_173000 HO_179000 BK156 BK167 BK172 BK178 HB hHeld ⊢
            refine take_ (i := 0) (N := some 41) (v := ?_) (a' := ?_) #[true, false, false, false, false] rfl rfl (by kernel_rfl) (fun _ _ _ h => h) (Or.inl ⟨by rfl, ?_⟩) hHeld ?_ ?_
            rotate_left
            · rintro w' ⟨s0, s1, s2, s3⟩
              go_simp
              with_reducible rfl
            rotate_left
            · simp only [Act.put, List.setIfInBounds_toArray, List.set_cons_zero, List.set_cons_succ, i64_w, i32_w]
              rfl
            refine take_ (i := 1) (N := some 42) (v := ?_) (a' := ?_) #[true, true, false, false, false] rfl rfl (by kernel_rfl) (fun _ _ _ h => h) (Or.inl ⟨by rfl, ?_⟩) hHeld ?_ ?_
            rotate_left
            · rintro w' ⟨s0, s1, s2, s3⟩
              go_simp
              with_reducible rfl
            rotate_left
            · simp only [Act.put, List.setIfInBounds_toArray, List.set_cons_zero, List.set_cons_succ, i64_w, i32_w]
              rfl
            refine one_ (i := 2) (N := some 43) #[true, true, true, false, false] rfl rfl (by kernel_rfl) (by decide) (fun K hK => ?_)
            refine goes_ Try.func23 (by kernel_rfl) rfl #[.agg #[.slice A0_0 l0_0.length c0_0, .int .i64 a0_1]] (by rfl) rfl rfl (by (try simp only [List.map_toArray, List.map_cons, List.map_nil]); first | done | rfl | (simp only [List.length_drop, List.length_take]; rfl)) ?_
            with_reducible refine (laws_toSketch.calls kj10 _ _ l0_0 a0_1 t180 t183 _ ?side1 ?side2 A56.out).mono ?_
            (case side1 => repeat (first | exact (Kd.C_below HR0_0.out HB.out) | (with_reducible refine Kd.C_alloc ?_ _) | (with_reducible refine Kd.C_drewN ?_ _) | (with_reducible refine Kd.C_drew ?_)))
            (case side2 => exact HC0_0.out)
            rintro e w62 ⟨v181, rfl, ho0, hb⟩
            refine ⟨_, rfl, ?_⟩
            have n0_ := Aside0.mk (Kd.R_elder' (by (with_reducible repeat (first | apply Kd.R_alloc | apply Kd.R_drewN | apply Kd.R_drew)); exact HO_168000.out) (Kd.R_base ho0) hb)
            have n1_ := Aside0.mk (Kd.R_elder' (by (with_reducible repeat (first | apply Kd.R_alloc | apply Kd.R_drewN | apply Kd.R_drew)); exact HO_173000.out) (Kd.R_base ho0) hb)
            have n2_ := Aside0.mk (Kd.R_elder' (by (with_reducible repeat (first | apply Kd.R_alloc | apply Kd.R_drewN | apply Kd.R_drew)); exact HO_179000.out) (Kd.R_base ho0) hb)
            have n3_ := Aside0.mk (Kd.R_lower (Kd.R_new' (Kd.R_new' (Kd.R_new' ho0 (Kd.R_lt (by (with_reducible repeat (first | apply Kd.R_alloc | apply Kd.R_drewN | apply Kd.R_drew)); exact HO_168000.out))) (Kd.R_lt (by (with_reducible repeat (first | apply Kd.R_alloc | apply Kd.R_drewN | apply Kd.R_drew)); exact HO_173000.out))) (Kd.R_lt (by (with_reducible repeat (first | apply Kd.R_alloc | apply Kd.R_drewN | apply Kd.R_drew)); exact HO_179000.out))) (below_size (by repeat (first | (with_reducible first | exact HB.out | apply below_alloc | apply pw_below_drewN | apply below_drew1 | refine below_set ?_ GE156.out | refine below_set ?_ GE167.out | refine below_set ?_ GE172.out | refine below_set ?_ GE178.out) | exact HB.out))))
            have n4_ := Aside0.mk (blk_below (g := gb156) (o := .cells #[.slice A0_0 l0_0.length c0_0, .int .i64 a0_1] 34 (0, 0)) (by (with_reducible repeat (first | refine blk_drewN ?_ _ | refine blk_drew ?_ | refine blk_alloc ?_ _)); exact BK156.out) hb)
            have n5_ := Aside0.mk (blk_below (g := gb167) (o := .cells #[.slice Ao20 t162.length co20, .int .i64 t165] 24 (0, 0)) (by (with_reducible repeat (first | refine blk_drewN ?_ _ | refine blk_drew ?_ | refine blk_alloc ?_ _)); exact BK167.out) hb)
            have n6_ := Aside0.mk (blk_below (g := gb172) (o := .cells #[.slice Ao26 t168.length co26, .int .i64 t171] 24 (0, 0)) (by (with_reducible repeat (first | refine blk_drewN ?_ _ | refine blk_drew ?_ | refine blk_alloc ?_ _)); exact BK172.out) hb)
            have n7_ := Aside0.mk (blk_below (g := gb178) (o := .cells #[.slice Ao32 t173.length co32, .int .i64 t176] 24 (0, 0)) (by (with_reducible repeat (first | refine blk_drewN ?_ _ | refine blk_drew ?_ | refine blk_alloc ?_ _)); exact BK178.out) hb)
            have n8_ := Aside0.mk (below_step (by repeat (first | (with_reducible first | exact HB.out | apply below_alloc | apply pw_below_drewN | apply below_drew1 | refine below_set ?_ GE156.out | refine below_set ?_ GE167.out | refine below_set ?_ GE172.out | refine below_set ?_ GE178.out) | exact HB.out)) hb)
            clear HO_168000
            clear HO_173000
            clear HO_179000
            clear BK156
            clear BK167
            clear BK172
            clear BK178
            clear HB
            have HO_168000 := n0_
            have HO_173000 := n1_
            have HO_179000 := n2_
            have HO182 := n3_
            have BK156 := n4_
            have BK167 := n5_
            have BK172 := n6_
            have BK178 := n7_
            have HB := n8_
            clear n0_ n1_ n2_ n3_ n4_ n5_ n6_ n7_ n8_
            (try clear hb)
            (try clear hb2)
            (try clear hk)
            (try clear hi)
            (try clear ho0)
            obtain ⟨Ao63, co63, eo63⟩ := Kd.R_slice HO182.out
            (first | subst eo63 | (injection eo63 with f1_ f2_ f3_; have f4_ := f1_.symm; have f5_ := f3_.symm; clear f1_ f2_ f3_; subst f4_; subst f5_))
            refine hK.out _ _ ⟨(blk_cell BK172.out 0).trans rfl, (blk_cell BK172.out 1).trans rfl, (blk_cell BK156.out 0).trans rfl, (blk_cell BK156.out 1).trans rfl⟩ (fun hHeld => ?_)
            clear hK K
            refine norm_ (a' := ?_) ?_ ?_
            rotate_left
            · show Act.put _ (some 43) _ = _
              simp only [Act.put, List.setIfInBounds_toArray, List.set_cons_zero, List.set_cons_succ, i64_w, i32_w]
              rfl
            refine one_ (i := 3) (N := some 44) #[true, true, true, true, false] rfl rfl (by kernel_rfl) (by decide) (fun K hK => ?_)
            refine goes_ Try.func13 (by kernel_rfl) rfl #[.agg #[.slice Ao26 t168.length co26, .int .i64 t171], .agg #[.slice Ao63 t180.length co63, .int .i64 t183]] (by rfl) rfl rfl (by (try simp only [List.map_toArray, List.map_cons, List.map_nil]); first | done | rfl | (simp only [List.length_drop, List.length_take]; rfl)) ?_
            with_reducible refine (laws_eqSketch.calls kj10 _ _ t168 t171 _ _ t180 t183 true _ ?side1 ?side2 ?side3 ?side4 A57.out).mono ?_
            (case side1 => repeat (first | exact (Kd.R_reads' HO_173000.out).2.2 | (with_reducible refine Kd.C_alloc ?_ _) | (with_reducible refine Kd.C_drewN ?_ _) | (with_reducible refine Kd.C_drew ?_)))
            (case side2 => exact (Kd.R_reads' HO_173000.out).2.1)
            (case side3 => repeat (first | exact (Kd.R_reads' HO182.out).2.2 | (with_reducible refine Kd.C_alloc ?_ _) | (with_reducible refine Kd.C_drewN ?_ _) | (with_reducible refine Kd.C_drew ?_)))
            (case side4 => exact (Kd.R_reads' HO182.out).2.1)
            rintro e w64 ⟨rfl, hb⟩
            refine ⟨_, rfl, ?_⟩
            have n0_ := Aside0.mk (Kd.R_below (by (with_reducible repeat (first | apply Kd.R_alloc | apply Kd.R_drewN | apply Kd.R_drew)); exact HO_168000.out) hb)
            have n1_ := Aside0.mk (Kd.R_below (by (with_reducible repeat (first | apply Kd.R_alloc | apply Kd.R_drewN | apply Kd.R_drew)); exact HO_173000.out) hb)
            have n2_ := Aside0.mk (Kd.R_below (by (with_reducible repeat (first | apply Kd.R_alloc | apply Kd.R_drewN | apply Kd.R_drew)); exact HO_179000.out) hb)
            have n3_ := Aside0.mk (Kd.R_below (by (with_reducible repeat (first | apply Kd.R_alloc | apply Kd.R_drewN | apply Kd.R_drew)); exact HO182.out) hb)
            have n4_ := Aside0.mk (blk_below (g := gb156) (o := .cells #[.slice A0_0 l0_0.length c0_0, .int .i64 a0_1] 34 (0, 0)) (by (with_reducible repeat (first | refine blk_drewN ?_ _ | refine blk_drew ?_ | refine blk_alloc ?_ _)); exact BK156.out) hb)
            have n5_ := Aside0.mk (blk_below (g := gb167) (o := .cells #[.slice Ao20 t162.length co20, .int .i64 t165] 24 (0, 0)) (by (with_reducible repeat (first | refine blk_drewN ?_ _ | refine blk_drew ?_ | refine blk_alloc ?_ _)); exact BK167.out) hb)
            have n6_ := Aside0.mk (blk_below (g := gb172) (o := .cells #[.slice Ao26 t168.length co26, .int .i64 t171] 24 (0, 0)) (by (with_reducible repeat (first | refine blk_drewN ?_ _ | refine blk_drew ?_ | refine blk_alloc ?_ _)); exact BK172.out) hb)
            have n7_ := Aside0.mk (blk_below (g := gb178) (o := .cells #[.slice Ao32 t173.length co32, .int .i64 t176] 24 (0, 0)) (by (with_reducible repeat (first | refine blk_drewN ?_ _ | refine blk_drew ?_ | refine blk_alloc ?_ _)); exact BK178.out) hb)
            have n8_ := Aside0.mk (below_step (by repeat (first | (with_reducible first | exact HB.out | apply below_alloc | apply pw_below_drewN | apply below_drew1 | refine below_set ?_ GE156.out | refine below_set ?_ GE167.out | refine below_set ?_ GE172.out | refine below_set ?_ GE178.out) | exact HB.out)) hb)
            clear HO_168000
            clear HO_173000
            clear HO_179000
            clear HO182
            clear BK156
            clear BK167
            clear BK172
            clear BK178
            clear HB
            have HO_168000 := n0_
            have HO_173000 := n1_
            have HO_179000 := n2_
            have HO182 := n3_
            have BK156 := n4_
            have BK167 := n5_
            have BK172 := n6_
            have BK178 := n7_
            have HB := n8_
            clear n0_ n1_ n2_ n3_ n4_ n5_ n6_ n7_ n8_
            (try clear hb)
            (try clear hb2)
            (try clear hk)
            (try clear hi)
            refine hK.out _ _ ⟨(blk_cell BK172.out 0).trans rfl, (blk_cell BK172.out 1).trans rfl, (blk_cell BK156.out 0).trans rfl, (blk_cell BK156.out 1).trans rfl⟩ (fun hHeld => ?_)
            clear hK K
            refine norm_ (a' := ?_) ?_ ?_
            rotate_left
            · show Act.put _ (some 44) _ = _
              simp only [Act.put, List.setIfInBounds_toArray, List.set_cons_zero, List.set_cons_succ, i64_w, i32_w]
              rfl
            refine pure_ (i := 4) (N := some 45) (v := ?_) (a' := ?_) #[true, true, true, true, true] rfl rfl (by kernel_rfl) (fun _ _ _ h => h) (Or.inl ⟨by rfl, ?_⟩) ?_ ?_
            rotate_left
            · intro w'
              go_simp
              with_reducible rfl
            rotate_left
            · simp only [Act.put, List.setIfInBounds_toArray, List.set_cons_zero, List.set_cons_succ, i64_w, i32_w]
              rfl
            refine done_ (by kernel_rfl) ?_
            have hnb65 := NB172_156.out
            have hnc65 := NB156_172.out
            have hnb66 := NB172_167.out
            have hnc66 := NB167_172.out
            have hnb67 := NB172_178.out
            have hnc67 := NB178_172.out
            have hcz68_0 : w64.cell? ⟨gb172, 0, none⟩ = some (.slice Ao26 t168.length co26) := (blk_cell BK172.out 0).trans rfl
            have hcz68_1 : w64.cell? ⟨gb172, 1, none⟩ = some (.int .i64 t171) := (blk_cell BK172.out 1).trans rfl
            have hfz68_0 := blk_frozen BK172.out 0
            have hfz68_1 := blk_frozen BK172.out 1
            go_upto_region 14 with (first | ((with_reducible refine gate_callee (f := 14) rfl ?_); refine goesL_ (some 48) rfl rfl Try.func14 (by kernel_rfl) rfl #[.agg #[.slice Ao26 t168.length co26, .int .i64 t171], .int .i64 1] rfl (by (try simp only [List.map_toArray, List.map_cons, List.map_nil]); first | done | rfl | (simp only [List.length_drop, List.length_take]; rfl)) ?_; (with_reducible refine (laws_markSketch.calls kj10 (fun k_ => some k_ = (.slice Ao26 t168.length co26 : Value).ownBlock) (.slice Ao26 t168.length co26) t168 t171 1 t185 t186 w _ ?side1 ?side2 A59.out).mono ?_); (case side1 => repeat (first | (with_reducible first | exact HB.out | apply below_alloc | apply pw_below_drewN | apply below_drew1 | refine below_set ?_ GE156.out | refine below_set ?_ GE167.out | refine below_set ?_ GE172.out | refine below_set ?_ GE178.out) | exact HB.out)); (case side2 => exact Kd.R_tight rfl HO_173000.out); rintro e w69 ⟨rfl, hy0, hb, hkp⟩; refine ⟨_, rfl, ?_⟩; have n0_ := Aside0.mk (Kd.R_mono (ok' := fun k_ => some k_ ≠ (.slice Ao26 t168.length co26 : Value).ownBlock ∧ some k_ ≠ (.slice Ao32 t173.length co32 : Value).ownBlock ∧ some k_ ≠ (.slice Ao63 t180.length co63 : Value).ownBlock) (Kd.R_keptB (HO_168000.out) hkp (fun k_ hk_ hs_ => (hk_.1.1) hs_)) (fun k_ hk_ => ⟨hk_.1.1.1, hk_.1.1.2, hk_.1.2⟩)); have n1_ := Aside0.mk (Kd.R_reok rfl hy0 (fun k_ e_ => HO_173000.out.1 k_ e_)); have n2_ := Aside0.mk (Kd.R_mono (ok' := fun k_ => some k_ ≠ (.slice Ao20 t162.length co20 : Value).ownBlock ∧ some k_ ≠ (.slice Ao26 t168.length co26 : Value).ownBlock ∧ some k_ ≠ (.slice Ao63 t180.length co63 : Value).ownBlock) (Kd.R_keptB (HO_179000.out) hkp (fun k_ hk_ hs_ => (hk_.1.2) hs_)) (fun k_ hk_ => ⟨hk_.1.1.1, hk_.1.1.2, hk_.1.2⟩)); have n3_ := Aside0.mk (blk_kept (by (with_reducible repeat (first | refine blk_drewN ?_ _ | refine blk_drew ?_ | refine blk_alloc ?_ _)); exact BK156.out) hkp (fun hs_ => (fun e_ => (Kd.R_ne HO_173000.out BK156.out (by decide)) e_) hs_)); have n4_ := Aside0.mk (blk_kept (by (with_reducible repeat (first | refine blk_drewN ?_ _ | refine blk_drew ?_ | refine blk_alloc ?_ _)); exact BK167.out) hkp (fun hs_ => (fun e_ => (Kd.R_ne HO_173000.out BK167.out (by decide)) e_) hs_)); have n5_ := Aside0.mk (blk_kept (by (with_reducible repeat (first | refine blk_drewN ?_ _ | refine blk_drew ?_ | refine blk_alloc ?_ _)); exact BK172.out) hkp (fun hs_ => (fun e_ => (Kd.R_ne HO_173000.out BK172.out (by decide)) e_) hs_)); have n6_ := Aside0.mk (blk_kept (by (with_reducible repeat (first | refine blk_drewN ?_ _ | refine blk_drew ?_ | refine blk_alloc ?_ _)); exact BK178.out) hkp (fun hs_ => (fun e_ => (Kd.R_ne HO_173000.out BK178.out (by decide)) e_) hs_)); have n7_ := Aside0.mk (Kd.R_mono (ok' := fun k_ => some k_ ≠ (.slice Ao20 t162.length co20 : Value).ownBlock ∧ some k_ ≠ (.slice Ao26 t168.length co26 : Value).ownBlock ∧ some k_ ≠ (.slice Ao32 t173.length co32 : Value).ownBlock) (Kd.R_keptB (HO182.out) hkp (fun k_ hk_ hs_ => (hk_.1.2) hs_)) (fun k_ hk_ => ⟨hk_.1.1.1.2, hk_.1.1.2, hk_.1.2⟩)); have n8_ := Aside0.mk (hb); clear HO_168000; clear HO_173000; clear HO_179000; clear BK156; clear BK167; clear BK172; clear BK178; clear HO182; clear HB; have HO_168000 := n0_; have HO_173000 := n1_; have HO_179000 := n2_; have BK156 := n3_; have BK167 := n4_; have BK172 := n5_; have BK178 := n6_; have HO182 := n7_; have HB := n8_; clear n0_ n1_ n2_ n3_ n4_ n5_ n6_ n7_ n8_; (try clear hb); (try clear hkp); (try clear hy0)))
            (try simp only [Act.put, List.setIfInBounds_toArray, List.set_cons_zero, List.set_cons_succ])
            go_cut [61] (fun v61 wc => ∃ (kq : Nat) (x61_59 : Bool), v61 = .bool x61_59 ∧ Aside0 (laws_FnExactHalveSketch.j1 kq t166 x61_59 l0_0 a0_1 t162 t165 t173 t176 = some r) ∧ Aside0 (kq ≤ kj10) ∧ Aside0 (Kd.R (Kd.int .i64) 3 wc w.heap.size (fun k_ => some k_ ≠ ((.slice Ao26 t168.length co26) : Value).ownBlock ∧ some k_ ≠ ((.slice Ao32 t173.length co32) : Value).ownBlock) (.slice Ao20 t162.length co20) t162) ∧ Aside0 (Kd.R (Kd.int .i64) 3 wc w.heap.size (fun k_ => some k_ ≠ ((.slice Ao20 t162.length co20) : Value).ownBlock ∧ some k_ ≠ ((.slice Ao32 t173.length co32) : Value).ownBlock) (.slice Ao26 t168.length co26) t186) ∧ Aside0 (Kd.R (Kd.int .i64) 3 wc w.heap.size (fun k_ => some k_ ≠ ((.slice Ao20 t162.length co20) : Value).ownBlock ∧ some k_ ≠ ((.slice Ao26 t168.length co26) : Value).ownBlock) (.slice Ao32 t173.length co32) t173) ∧ Aside0 (wc.heap[gb156]? = some (.cells #[(.slice A0_0 l0_0.length c0_0), .int .i64 a0_1] 34 (0, 0))) ∧ Aside0 (wc.heap[gb167]? = some (.cells #[(.slice Ao20 t162.length co20), .int .i64 t165] 24 (0, 0))) ∧ Aside0 (wc.heap[gb172]? = some (.cells #[(.slice Ao26 t168.length co26), .int .i64 t171] 24 (0, 0))) ∧ Aside0 (wc.heap[gb178]? = some (.cells #[(.slice Ao32 t173.length co32), .int .i64 t176] 24 (0, 0))) ∧ Aside0 (Below w.heap.size w wc))
            case first =>
              have H := HC60.out
              clear HC60
              by_cases c70 : t185 < 0
              · rw [if_pos c70] at H
                have c70b0 : decide (t185 < 0) = true := decide_eq_true c70
                clear c70
                (first | rw [c70b0] | (simp only [i64_w, i32_w]; rw [c70b0]) | skip)
                have H' := Aside0.mk H
                clear H
                go_wp2
                go_meet
                case rel => exact ⟨_, (true), (by first | rfl | (simp; done) | (simp [*]; done)), H', ⟨by have := HJ10.out; first | omega | exact Nat.le_refl _⟩, ⟨by (with_reducible repeat (first | apply Kd.R_alloc | apply Kd.R_drewN | apply Kd.R_drew)); exact Kd.R_mono HO_168000.out (fun _ hk => ⟨hk.1, hk.2.1⟩)⟩, ⟨by (with_reducible repeat (first | apply Kd.R_alloc | apply Kd.R_drewN | apply Kd.R_drew)); exact Kd.R_mono HO_173000.out (fun _ hk => ⟨hk.1.1, hk.1.2⟩)⟩, ⟨by (with_reducible repeat (first | apply Kd.R_alloc | apply Kd.R_drewN | apply Kd.R_drew)); exact Kd.R_mono HO_179000.out (fun _ hk => ⟨hk.1, hk.2.1⟩)⟩, ⟨by (with_reducible repeat (first | refine blk_drewN ?_ _ | refine blk_drew ?_ | refine blk_alloc ?_ _)); exact BK156.out⟩, ⟨by (with_reducible repeat (first | refine blk_drewN ?_ _ | refine blk_drew ?_ | refine blk_alloc ?_ _)); exact BK167.out⟩, ⟨by (with_reducible repeat (first | refine blk_drewN ?_ _ | refine blk_drew ?_ | refine blk_alloc ?_ _)); exact BK172.out⟩, ⟨by (with_reducible repeat (first | refine blk_drewN ?_ _ | refine blk_drew ?_ | refine blk_alloc ?_ _)); exact BK178.out⟩, ⟨by repeat (first | (with_reducible first | exact HB.out | apply below_alloc | apply pw_below_drewN | apply below_drew1 | refine below_set ?_ GE156.out | refine below_set ?_ GE167.out | refine below_set ?_ GE172.out | refine below_set ?_ GE178.out) | exact HB.out)⟩⟩
              · rw [if_neg c70] at H
                have c70b0 : decide (t185 < 0) = false := decide_eq_false c70
                clear c70
                (first | rw [c70b0] | (simp only [i64_w, i32_w]; rw [c70b0]) | skip)
                replace H := Option.bind_eq_some_iff.mp H
                obtain ⟨t187, A710, H⟩ := H
                replace H : (if t187 = true then (laws_FnExactHalveSketch.j1 kj10 t166 (t177 != t166) l0_0 a0_1 t162 t165 t173 t176) else (laws_FnExactHalveSketch.j1 kj10 t166 true l0_0 a0_1 t162 t165 t173 t176)) = some r := H
                have A71 := Aside0.mk A710
                clear A710
                by_cases c72 : t187 = true
                · subst c72
                  have H1 : (laws_FnExactHalveSketch.j1 kj10 t166 (t177 != t166) l0_0 a0_1 t162 t165 t173 t176) = some r := by rw [if_pos rfl] at H; exact H
                  clear H
                  have H := H1
                  clear H1
                  have H' := Aside0.mk H
                  clear H
                  have hnb73 := NB178_156.out
                  have hnc73 := NB156_178.out
                  have hnb74 := NB178_167.out
                  have hnc74 := NB167_178.out
                  have hnb75 := NB178_172.out
                  have hnc75 := NB172_178.out
                  have hcz76_0 : w69.cell? ⟨gb178, 0, none⟩ = some (.slice Ao32 t173.length co32) := (blk_cell BK178.out 0).trans rfl
                  have hcz76_1 : w69.cell? ⟨gb178, 1, none⟩ = some (.int .i64 t176) := (blk_cell BK178.out 1).trans rfl
                  have hfz76_0 := blk_frozen BK178.out 0
                  have hfz76_1 := blk_frozen BK178.out 1
                  have hnb77 := NB167_156.out
                  have hnc77 := NB156_167.out
                  have hnb78 := NB167_172.out
                  have hnc78 := NB172_167.out
                  have hcz79_0 : w69.cell? ⟨gb167, 0, none⟩ = some (.slice Ao20 t162.length co20) := (blk_cell BK167.out 0).trans rfl
                  have hcz79_1 : w69.cell? ⟨gb167, 1, none⟩ = some (.int .i64 t165) := (blk_cell BK167.out 1).trans rfl
                  have hfz79_0 := blk_frozen BK167.out 0
                  have hfz79_1 := blk_frozen BK167.out 1
                  go_wp2_with (first | (go_at_call 13; (with_reducible refine (laws_eqSketch.calls kj10 _ _ t173 t176 _ _ t162 t165 true _ ?side1 ?side2 ?side3 ?side4 A71.out).mono ?_); (case side1 => repeat (first | exact (Kd.R_reads' HO_179000.out).2.2 | (with_reducible refine Kd.C_alloc ?_ _) | (with_reducible refine Kd.C_drewN ?_ _) | (with_reducible refine Kd.C_drew ?_))); (case side2 => exact (Kd.R_reads' HO_179000.out).2.1); (case side3 => repeat (first | exact (Kd.R_reads' HO_168000.out).2.2 | (with_reducible refine Kd.C_alloc ?_ _) | (with_reducible refine Kd.C_drewN ?_ _) | (with_reducible refine Kd.C_drew ?_))); (case side4 => exact (Kd.R_reads' HO_168000.out).2.1); rintro e w80 ⟨rfl, hb⟩; have n0_ := Aside0.mk (Kd.R_below (by (with_reducible repeat (first | apply Kd.R_alloc | apply Kd.R_drewN | apply Kd.R_drew)); exact HO_168000.out) hb); have n1_ := Aside0.mk (Kd.R_below (by (with_reducible repeat (first | apply Kd.R_alloc | apply Kd.R_drewN | apply Kd.R_drew)); exact HO_173000.out) hb); have n2_ := Aside0.mk (Kd.R_below (by (with_reducible repeat (first | apply Kd.R_alloc | apply Kd.R_drewN | apply Kd.R_drew)); exact HO_179000.out) hb); have n3_ := Aside0.mk (Kd.R_below (by (with_reducible repeat (first | apply Kd.R_alloc | apply Kd.R_drewN | apply Kd.R_drew)); exact HO182.out) hb); have n4_ := Aside0.mk (blk_below (g := gb156) (o := .cells #[.slice A0_0 l0_0.length c0_0, .int .i64 a0_1] 34 (0, 0)) (by (with_reducible repeat (first | refine blk_drewN ?_ _ | refine blk_drew ?_ | refine blk_alloc ?_ _)); exact BK156.out) hb); have n5_ := Aside0.mk (blk_below (g := gb167) (o := .cells #[.slice Ao20 t162.length co20, .int .i64 t165] 24 (0, 0)) (by (with_reducible repeat (first | refine blk_drewN ?_ _ | refine blk_drew ?_ | refine blk_alloc ?_ _)); exact BK167.out) hb); have n6_ := Aside0.mk (blk_below (g := gb172) (o := .cells #[.slice Ao26 t168.length co26, .int .i64 t171] 24 (0, 0)) (by (with_reducible repeat (first | refine blk_drewN ?_ _ | refine blk_drew ?_ | refine blk_alloc ?_ _)); exact BK172.out) hb); have n7_ := Aside0.mk (blk_below (g := gb178) (o := .cells #[.slice Ao32 t173.length co32, .int .i64 t176] 24 (0, 0)) (by (with_reducible repeat (first | refine blk_drewN ?_ _ | refine blk_drew ?_ | refine blk_alloc ?_ _)); exact BK178.out) hb); have n8_ := Aside0.mk (below_step (by repeat (first | (with_reducible first | exact HB.out | apply below_alloc | apply pw_below_drewN | apply below_drew1 | refine below_set ?_ GE156.out | refine below_set ?_ GE167.out | refine below_set ?_ GE172.out | refine below_set ?_ GE178.out) | exact HB.out)) hb); clear HO_168000; clear HO_173000; clear HO_179000; clear HO182; clear BK156; clear BK167; clear BK172; clear BK178; clear HB; have HO_168000 := n0_; have HO_173000 := n1_; have HO_179000 := n2_; have HO182 := n3_; have BK156 := n4_; have BK167 := n5_; have BK172 := n6_; have BK178 := n7_; have HB := n8_; clear n0_ n1_ n2_ n3_ n4_ n5_ n6_ n7_ n8_; (try clear hb); (try clear hb2); (try clear hk); (try clear hi)))
                  go_meet
                  case rel => exact ⟨_, ((t177 != t166)), (by first | rfl | (simp; done) | (simp [*]; done)), H', ⟨by have := HJ10.out; first | omega | exact Nat.le_refl _⟩, ⟨by (with_reducible repeat (first | apply Kd.R_alloc | apply Kd.R_drewN | apply Kd.R_drew)); exact Kd.R_mono HO_168000.out (fun _ hk => ⟨hk.1, hk.2.1⟩)⟩, ⟨by (with_reducible repeat (first | apply Kd.R_alloc | apply Kd.R_drewN | apply Kd.R_drew)); exact Kd.R_mono HO_173000.out (fun _ hk => ⟨hk.1.1, hk.1.2⟩)⟩, ⟨by (with_reducible repeat (first | apply Kd.R_alloc | apply Kd.R_drewN | apply Kd.R_drew)); exact Kd.R_mono HO_179000.out (fun _ hk => ⟨hk.1, hk.2.1⟩)⟩, ⟨by (with_reducible repeat (first | refine blk_drewN ?_ _ | refine blk_drew ?_ | refine blk_alloc ?_ _)); exact BK156.out⟩, ⟨by (with_reducible repeat (first | refine blk_drewN ?_ _ | refine blk_drew ?_ | refine blk_alloc ?_ _)); exact BK167.out⟩, ⟨by (with_reducible repeat (first | refine blk_drewN ?_ _ | refine blk_drew ?_ | refine blk_alloc ?_ _)); exact BK172.out⟩, ⟨by (with_reducible repeat (first | refine blk_drewN ?_ _ | refine blk_drew ?_ | refine blk_alloc ?_ _)); exact BK178.out⟩, ⟨by repeat (first | (with_reducible first | exact HB.out | apply below_alloc | apply pw_below_drewN | apply below_drew1 | refine below_set ?_ GE156.out | refine below_set ?_ GE167.out | refine below_set ?_ GE172.out | refine below_set ?_ GE178.out) | exact HB.out)⟩⟩
                · replace c72 := Bool.eq_false_iff.mpr c72
                  subst c72
                  have H1 : (laws_FnExactHalveSketch.j1 kj10 t166 true l0_0 a0_1 t162 t165 t173 t176) = some r := by rw [if_neg (show ¬ (false = true) by decide)] at H; exact H
                  clear H
                  have H := H1
                  clear H1
                  have H' := Aside0.mk H
                  clear H
                  have hnb81 := NB178_156.out
                  have hnc81 := NB156_178.out
                  have hnb82 := NB178_167.out
                  have hnc82 := NB167_178.out
                  have hnb83 := NB178_172.out
                  have hnc83 := NB172_178.out
                  have hcz84_0 : w69.cell? ⟨gb178, 0, none⟩ = some (.slice Ao32 t173.length co32) := (blk_cell BK178.out 0).trans rfl
                  have hcz84_1 : w69.cell? ⟨gb178, 1, none⟩ = some (.int .i64 t176) := (blk_cell BK178.out 1).trans rfl
                  have hfz84_0 := blk_frozen BK178.out 0
                  have hfz84_1 := blk_frozen BK178.out 1
                  have hnb85 := NB167_156.out
                  have hnc85 := NB156_167.out
                  have hnb86 := NB167_172.out
                  have hnc86 := NB172_167.out
                  have hcz87_0 : w69.cell? ⟨gb167, 0, none⟩ = some (.slice Ao20 t162.length co20) := (blk_cell BK167.out 0).trans rfl
                  have hcz87_1 : w69.cell? ⟨gb167, 1, none⟩ = some (.int .i64 t165) := (blk_cell BK167.out 1).trans rfl
                  have hfz87_0 := blk_frozen BK167.out 0
                  have hfz87_1 := blk_frozen BK167.out 1
                  go_wp2_with (first | (go_at_call 13; (with_reducible refine (laws_eqSketch.calls kj10 _ _ t173 t176 _ _ t162 t165 false _ ?side1 ?side2 ?side3 ?side4 A71.out).mono ?_); (case side1 => repeat (first | exact (Kd.R_reads' HO_179000.out).2.2 | (with_reducible refine Kd.C_alloc ?_ _) | (with_reducible refine Kd.C_drewN ?_ _) | (with_reducible refine Kd.C_drew ?_))); (case side2 => exact (Kd.R_reads' HO_179000.out).2.1); (case side3 => repeat (first | exact (Kd.R_reads' HO_168000.out).2.2 | (with_reducible refine Kd.C_alloc ?_ _) | (with_reducible refine Kd.C_drewN ?_ _) | (with_reducible refine Kd.C_drew ?_))); (case side4 => exact (Kd.R_reads' HO_168000.out).2.1); rintro e w88 ⟨rfl, hb⟩; have n0_ := Aside0.mk (Kd.R_below (by (with_reducible repeat (first | apply Kd.R_alloc | apply Kd.R_drewN | apply Kd.R_drew)); exact HO_168000.out) hb); have n1_ := Aside0.mk (Kd.R_below (by (with_reducible repeat (first | apply Kd.R_alloc | apply Kd.R_drewN | apply Kd.R_drew)); exact HO_173000.out) hb); have n2_ := Aside0.mk (Kd.R_below (by (with_reducible repeat (first | apply Kd.R_alloc | apply Kd.R_drewN | apply Kd.R_drew)); exact HO_179000.out) hb); have n3_ := Aside0.mk (Kd.R_below (by (with_reducible repeat (first | apply Kd.R_alloc | apply Kd.R_drewN | apply Kd.R_drew)); exact HO182.out) hb); have n4_ := Aside0.mk (blk_below (g := gb156) (o := .cells #[.slice A0_0 l0_0.length c0_0, .int .i64 a0_1] 34 (0, 0)) (by (with_reducible repeat (first | refine blk_drewN ?_ _ | refine blk_drew ?_ | refine blk_alloc ?_ _)); exact BK156.out) hb); have n5_ := Aside0.mk (blk_below (g := gb167) (o := .cells #[.slice Ao20 t162.length co20, .int .i64 t165] 24 (0, 0)) (by (with_reducible repeat (first | refine blk_drewN ?_ _ | refine blk_drew ?_ | refine blk_alloc ?_ _)); exact BK167.out) hb); have n6_ := Aside0.mk (blk_below (g := gb172) (o := .cells #[.slice Ao26 t168.length co26, .int .i64 t171] 24 (0, 0)) (by (with_reducible repeat (first | refine blk_drewN ?_ _ | refine blk_drew ?_ | refine blk_alloc ?_ _)); exact BK172.out) hb); have n7_ := Aside0.mk (blk_below (g := gb178) (o := .cells #[.slice Ao32 t173.length co32, .int .i64 t176] 24 (0, 0)) (by (with_reducible repeat (first | refine blk_drewN ?_ _ | refine blk_drew ?_ | refine blk_alloc ?_ _)); exact BK178.out) hb); have n8_ := Aside0.mk (below_step (by repeat (first | (with_reducible first | exact HB.out | apply below_alloc | apply pw_below_drewN | apply below_drew1 | refine below_set ?_ GE156.out | refine below_set ?_ GE167.out | refine below_set ?_ GE172.out | refine below_set ?_ GE178.out) | exact HB.out)) hb); clear HO_168000; clear HO_173000; clear HO_179000; clear HO182; clear BK156; clear BK167; clear BK172; clear BK178; clear HB; have HO_168000 := n0_; have HO_173000 := n1_; have HO_179000 := n2_; have HO182 := n3_; have BK156 := n4_; have BK167 := n5_; have BK172 := n6_; have BK178 := n7_; have HB := n8_; clear n0_ n1_ n2_ n3_ n4_ n5_ n6_ n7_ n8_; (try clear hb); (try clear hb2); (try clear hk); (try clear hi)))
                  go_meet
                  case rel => exact ⟨_, (true), (by first | rfl | (simp; done) | (simp [*]; done)), H', ⟨by have := HJ10.out; first | omega | exact Nat.le_refl _⟩, ⟨by (with_reducible repeat (first | apply Kd.R_alloc | apply Kd.R_drewN | apply Kd.R_drew)); exact Kd.R_mono HO_168000.out (fun _ hk => ⟨hk.1, hk.2.1⟩)⟩, ⟨by (with_reducible repeat (first | apply Kd.R_alloc | apply Kd.R_drewN | apply Kd.R_drew)); exact Kd.R_mono HO_173000.out (fun _ hk => ⟨hk.1.1, hk.1.2⟩)⟩, ⟨by (with_reducible repeat (first | apply Kd.R_alloc | apply Kd.R_drewN | apply Kd.R_drew)); exact Kd.R_mono HO_179000.out (fun _ hk => ⟨hk.1, hk.2.1⟩)⟩, ⟨by (with_reducible repeat (first | refine blk_drewN ?_ _ | refine blk_drew ?_ | refine blk_alloc ?_ _)); exact BK156.out⟩, ⟨by (with_reducible repeat (first | refine blk_drewN ?_ _ | refine blk_drew ?_ | refine blk_alloc ?_ _)); exact BK167.out⟩, ⟨by (with_reducible repeat (first | refine blk_drewN ?_ _ | refine blk_drew ?_ | refine blk_alloc ?_ _)); exact BK172.out⟩, ⟨by (with_reducible repeat (first | refine blk_drewN ?_ _ | refine blk_drew ?_ | refine blk_alloc ?_ _)); exact BK178.out⟩, ⟨by repeat (first | (with_reducible first | exact HB.out | apply below_alloc | apply pw_below_drewN | apply below_drew1 | refine below_set ?_ GE156.out | refine below_set ?_ GE167.out | refine below_set ?_ GE172.out | refine below_set ?_ GE178.out) | exact HB.out)⟩⟩
            case rest =>
              clear HC60
              try clear c1
              try clear c2
              try clear p2
              try clear c3
              try clear c3b0
              try clear c4
              try clear c5
              try clear c6
              try clear c7
              try clear c8
              try clear c9
              try clear c13
              try clear c14
              try clear c21
              try clear c23
              try clear c27
              try clear c28
              try clear c31
              try clear c32
              try clear c33
              try clear c34
              try clear c35
              try clear c38
              try clear c39
              try clear c40
              try clear c41
              try clear c43
              try clear c44
              try clear c47
              try clear c48
              try clear c49
              try clear c51
              try clear c52
              try clear c55
              try clear c58
              try clear c65
              try clear c66
              try clear c67
              try clear c70
              try clear c70b0
              try clear c72
              try clear c73
              try clear c74
              try clear c75
              try clear c77
              try clear c78
              try clear c81
              try clear c82
              try clear c83
              try clear c85
              try clear c86
              try clear hcz13_0
              try clear hcz13_1
              try clear hcz15_0
              try clear hcz15_1
              try clear hcz22_0
              try clear hcz22_1
              try clear hcz23_0
              try clear hcz23_1
              try clear hcz29_0
              try clear hcz29_1
              try clear hcz36_0
              try clear hcz36_1
              try clear hcz42_0
              try clear hcz42_1
              try clear hcz45_0
              try clear hcz45_1
              try clear hcz50_0
              try clear hcz50_1
              try clear hcz53_0
              try clear hcz53_1
              try clear hcz5_0
              try clear hcz5_1
              try clear hcz68_0
              try clear hcz68_1
              try clear hcz76_0
              try clear hcz76_1
              try clear hcz79_0
              try clear hcz79_1
              try clear hcz84_0
              try clear hcz84_1
              try clear hcz87_0
              try clear hcz87_1
              try clear hfz13_0
              try clear hfz13_1
              try clear hfz15_0
              try clear hfz15_1
              try clear hfz22_0
              try clear hfz22_1
              try clear hfz23_0
              try clear hfz23_1
              try clear hfz29_0
              try clear hfz29_1
              try clear hfz36_0
              try clear hfz36_1
              try clear hfz42_0
              try clear hfz42_1
              try clear hfz45_0
              try clear hfz45_1
              try clear hfz50_0
              try clear hfz50_1
              try clear hfz53_0
              try clear hfz53_1
              try clear hfz5_0
              try clear hfz5_1
              try clear hfz68_0
              try clear hfz68_1
              try clear hfz76_0
              try clear hfz76_1
              try clear hfz79_0
              try clear hfz79_1
              try clear hfz84_0
              try clear hfz84_1
              try clear hfz87_0
              try clear hfz87_1
              try clear p2
              obtain ⟨kq, x61_59, rfl, HA, HJ59, HO_168000, HO_173000, HO_179000, BK156, BK167, BK172, BK178, HB⟩ := hcut
              have hl173000_59 := (Kd.R_reads' HO_173000.out).1
              rw [hl173000_59] at HO_173000
              (try simp only [hl173000_59])
              (try simp only [hl173000_59] at BK156)
              (try simp only [hl173000_59] at BK167)
              (try simp only [hl173000_59] at BK172)
              (try simp only [hl173000_59] at BK178)
              (try simp only [hl173000_59] at HO_168000)
              (try simp only [hl173000_59] at HO_179000)
              cases kq with
              | zero => exact absurd HA.out (by simp [laws_FnExactHalveSketch.j1])
              | succ kj59 =>
                have H := HA.out
                clear HA
                simp only [laws_FnExactHalveSketch.j1] at H
                by_cases c89 : x61_59 = true
                · subst c89
                  have H1 : (some false) = some r := by rw [if_pos rfl] at H; exact H
                  clear H
                  have H := H1
                  clear H1
                  obtain rfl := Option.some.inj H
                  go_wp2
                  go_ret
                  exact ⟨by first | rfl | (simp [errW_none, errW_some] <;> rfl) | (simp [*, errW_none, errW_some] <;> rfl), by repeat (first | (with_reducible first | exact HB.out | apply below_alloc | apply pw_below_drewN | apply below_drew1 | refine below_set ?_ GE156.out | refine below_set ?_ GE167.out | refine below_set ?_ GE172.out | refine below_set ?_ GE178.out) | exact HB.out)⟩
                · replace c89 := Bool.eq_false_iff.mpr c89
                  subst c89
                  have H1 : ((laws_markSketch.f kj59 t173 t176 1).bind fun bt188 => ((laws_heldSketch.f kj59 bt188.2 t176 1).bind fun t190 => (if t190 < 0 then (some false) else (if t190 = bt188.1 then ((laws_toSketch.f kj59 l0_0 a0_1).bind fun bt191 => ((impl_HalveSketch.f kj59 bt191.1 bt191.2).bind fun bt195 => ((laws_eqSketch.f kj59 bt195.1 bt195.2.1 t162 t165).bind fun t201 => (if t201 = true then (laws_FnExactHalveSketch.j2 kj59 bt188.1 (bt195.2.2 != t166) bt188.2 t176) else (laws_FnExactHalveSketch.j2 kj59 bt188.1 true bt188.2 t176))))) else (some false))))) = some r := by rw [if_neg (show ¬ (false = true) by decide)] at H; exact H
                  clear H
                  have H := H1
                  clear H1
                  replace H := Option.bind_eq_some_iff.mp H
                  obtain ⟨⟨t188, t189⟩, A900, H⟩ := H
                  replace H : ((laws_heldSketch.f kj59 t189 t176 1).bind fun t190 => (if t190 < 0 then (some false) else (if t190 = t188 then ((laws_toSketch.f kj59 l0_0 a0_1).bind fun bt191 => ((impl_HalveSketch.f kj59 bt191.1 bt191.2).bind fun bt195 => ((laws_eqSketch.f kj59 bt195.1 bt195.2.1 t162 t165).bind fun t201 => (if t201 = true then (laws_FnExactHalveSketch.j2 kj59 t188 (bt195.2.2 != t166) t189 t176) else (laws_FnExactHalveSketch.j2 kj59 t188 true t189 t176))))) else (some false)))) = some r := H
                  have A90 := Aside0.mk A900
                  clear A900
                  replace H := Option.bind_eq_some_iff.mp H
                  obtain ⟨t190, A910, H⟩ := H
                  replace H : (if t190 < 0 then (some false) else (if t190 = t188 then ((laws_toSketch.f kj59 l0_0 a0_1).bind fun bt191 => ((impl_HalveSketch.f kj59 bt191.1 bt191.2).bind fun bt195 => ((laws_eqSketch.f kj59 bt195.1 bt195.2.1 t162 t165).bind fun t201 => (if t201 = true then (laws_FnExactHalveSketch.j2 kj59 t188 (bt195.2.2 != t166) t189 t176) else (laws_FnExactHalveSketch.j2 kj59 t188 true t189 t176))))) else (some false))) = some r := H
                  have A91 := Aside0.mk A910
                  clear A910
                  by_cases c92 : t190 < 0
                  · rw [if_pos c92] at H
                    have c92b0 : decide (t190 < 0) = true := decide_eq_true c92
                    clear c92
                    obtain rfl := Option.some.inj H
                    have hnb93 := NB178_156.out
                    have hnc93 := NB156_178.out
                    have hnb94 := NB178_167.out
                    have hnc94 := NB167_178.out
                    have hnb95 := NB178_172.out
                    have hnc95 := NB172_178.out
                    have hcz96_0 : wc.cell? ⟨gb178, 0, none⟩ = some (.slice Ao32 t173.length co32) := (blk_cell BK178.out 0).trans rfl
                    have hcz96_1 : wc.cell? ⟨gb178, 1, none⟩ = some (.int .i64 t176) := (blk_cell BK178.out 1).trans rfl
                    have hfz96_0 := blk_frozen BK178.out 0
                    have hfz96_1 := blk_frozen BK178.out 1
                    go_wp2_with (first | ((with_reducible refine gate_callee (f := 14) rfl ?_); refine goesL_ (some 64) rfl rfl Try.func14 (by kernel_rfl) rfl #[.agg #[.slice Ao32 t173.length co32, .int .i64 t176], .int .i64 1] rfl (by (try simp only [List.map_toArray, List.map_cons, List.map_nil]); first | done | rfl | (simp only [List.length_drop, List.length_take]; rfl)) ?_; (with_reducible refine (laws_markSketch.calls kj59 (fun k_ => some k_ = (.slice Ao32 t173.length co32 : Value).ownBlock) (.slice Ao32 t173.length co32) t173 t176 1 t188 t189 w _ ?side1 ?side2 A90.out).mono ?_); (case side1 => repeat (first | (with_reducible first | exact HB.out | apply below_alloc | apply pw_below_drewN | apply below_drew1 | refine below_set ?_ GE156.out | refine below_set ?_ GE167.out | refine below_set ?_ GE172.out | refine below_set ?_ GE178.out) | exact HB.out)); (case side2 => exact Kd.R_tight rfl HO_179000.out); rintro e w97 ⟨rfl, hy0, hb, hkp⟩; refine ⟨_, rfl, ?_⟩; have n0_ := Aside0.mk (Kd.R_mono (ok' := fun k_ => some k_ ≠ (.slice Ao26 t186.length co26 : Value).ownBlock ∧ some k_ ≠ (.slice Ao32 t173.length co32 : Value).ownBlock) (Kd.R_keptB (HO_168000.out) hkp (fun k_ hk_ hs_ => (hk_.2) hs_)) (fun k_ hk_ => ⟨hk_.1.1, hk_.1.2⟩)); have n1_ := Aside0.mk (Kd.R_mono (ok' := fun k_ => some k_ ≠ (.slice Ao20 t162.length co20 : Value).ownBlock ∧ some k_ ≠ (.slice Ao32 t173.length co32 : Value).ownBlock) (Kd.R_keptB (HO_173000.out) hkp (fun k_ hk_ hs_ => (hk_.2) hs_)) (fun k_ hk_ => ⟨hk_.1.1, hk_.1.2⟩)); have n2_ := Aside0.mk (Kd.R_reok rfl hy0 (fun k_ e_ => HO_179000.out.1 k_ e_)); have n3_ := Aside0.mk (blk_kept (by (with_reducible repeat (first | refine blk_drewN ?_ _ | refine blk_drew ?_ | refine blk_alloc ?_ _)); exact BK156.out) hkp (fun hs_ => (fun e_ => (Kd.R_ne HO_179000.out BK156.out (by decide)) e_) hs_)); have n4_ := Aside0.mk (blk_kept (by (with_reducible repeat (first | refine blk_drewN ?_ _ | refine blk_drew ?_ | refine blk_alloc ?_ _)); exact BK167.out) hkp (fun hs_ => (fun e_ => (Kd.R_ne HO_179000.out BK167.out (by decide)) e_) hs_)); have n5_ := Aside0.mk (blk_kept (by (with_reducible repeat (first | refine blk_drewN ?_ _ | refine blk_drew ?_ | refine blk_alloc ?_ _)); exact BK172.out) hkp (fun hs_ => (fun e_ => (Kd.R_ne HO_179000.out BK172.out (by decide)) e_) hs_)); have n6_ := Aside0.mk (blk_kept (by (with_reducible repeat (first | refine blk_drewN ?_ _ | refine blk_drew ?_ | refine blk_alloc ?_ _)); exact BK178.out) hkp (fun hs_ => (fun e_ => (Kd.R_ne HO_179000.out BK178.out (by decide)) e_) hs_)); have n7_ := Aside0.mk (hb); clear HO_168000; clear HO_173000; clear HO_179000; clear BK156; clear BK167; clear BK172; clear BK178; clear HB; have HO_168000 := n0_; have HO_173000 := n1_; have HO_179000 := n2_; have BK156 := n3_; have BK167 := n4_; have BK172 := n5_; have BK178 := n6_; have HB := n7_; clear n0_ n1_ n2_ n3_ n4_ n5_ n6_ n7_; (try clear hb); (try clear hkp); (try clear hy0); have hcz98_0 : w97.cell? ⟨gb178, 0, none⟩ = some (.slice Ao32 t173.length co32) := (blk_cell BK178.out 0).trans rfl; have hcz98_1 : w97.cell? ⟨gb178, 1, none⟩ = some (.int .i64 t176) := (blk_cell BK178.out 1).trans rfl; have hfz98_0 := blk_frozen BK178.out 0; have hfz98_1 := blk_frozen BK178.out 1) | ((with_reducible refine gate_callee (f := 15) rfl ?_); refine goesL_ (some 67) rfl rfl Try.func15 (by kernel_rfl) rfl #[.agg #[.slice Ao32 t189.length co32, .int .i64 t176], .int .i64 1] rfl (by (try simp only [List.map_toArray, List.map_cons, List.map_nil]); first | done | (rw [show t189.length = t173.length from (Kd.R_reads' HO_179000.out).1.symm] <;> rfl) | rfl | (simp only [List.length_drop, List.length_take]; rfl)) ?_; (with_reducible refine (laws_heldSketch.calls kj59 _ _ t189 t176 1 t190 _ ?side1 ?side2 A91.out).mono ?_); (case side1 => repeat (first | exact (Kd.R_reads' HO_179000.out).2.2 | (with_reducible refine Kd.C_alloc ?_ _) | (with_reducible refine Kd.C_drewN ?_ _) | (with_reducible refine Kd.C_drew ?_))); (case side2 => rw [show t189.length = t173.length from (Kd.R_reads' HO_179000.out).1.symm]; exact (Kd.R_reads' HO_179000.out).2.1); rintro e w99 ⟨rfl, hb⟩; refine ⟨_, rfl, ?_⟩; have n0_ := Aside0.mk (Kd.R_below (by (with_reducible repeat (first | apply Kd.R_alloc | apply Kd.R_drewN | apply Kd.R_drew)); exact HO_168000.out) hb); have n1_ := Aside0.mk (Kd.R_below (by (with_reducible repeat (first | apply Kd.R_alloc | apply Kd.R_drewN | apply Kd.R_drew)); exact HO_173000.out) hb); have n2_ := Aside0.mk (Kd.R_below (by (with_reducible repeat (first | apply Kd.R_alloc | apply Kd.R_drewN | apply Kd.R_drew)); exact HO_179000.out) hb); have n3_ := Aside0.mk (blk_below (g := gb156) (o := .cells #[.slice A0_0 l0_0.length c0_0, .int .i64 a0_1] 34 (0, 0)) (by (with_reducible repeat (first | refine blk_drewN ?_ _ | refine blk_drew ?_ | refine blk_alloc ?_ _)); exact BK156.out) hb); have n4_ := Aside0.mk (blk_below (g := gb167) (o := .cells #[.slice Ao20 t162.length co20, .int .i64 t165] 24 (0, 0)) (by (with_reducible repeat (first | refine blk_drewN ?_ _ | refine blk_drew ?_ | refine blk_alloc ?_ _)); exact BK167.out) hb); have n5_ := Aside0.mk (blk_below (g := gb172) (o := .cells #[.slice Ao26 t186.length co26, .int .i64 t171] 24 (0, 0)) (by (with_reducible repeat (first | refine blk_drewN ?_ _ | refine blk_drew ?_ | refine blk_alloc ?_ _)); exact BK172.out) hb); have n6_ := Aside0.mk (blk_below (g := gb178) (o := .cells #[.slice Ao32 t173.length co32, .int .i64 t176] 24 (0, 0)) (by (with_reducible repeat (first | refine blk_drewN ?_ _ | refine blk_drew ?_ | refine blk_alloc ?_ _)); exact BK178.out) hb); have n7_ := Aside0.mk (below_step (by repeat (first | (with_reducible first | exact HB.out | apply below_alloc | apply pw_below_drewN | apply below_drew1 | refine below_set ?_ GE156.out | refine below_set ?_ GE167.out | refine below_set ?_ GE172.out | refine below_set ?_ GE178.out) | exact HB.out)) hb); clear HO_168000; clear HO_173000; clear HO_179000; clear BK156; clear BK167; clear BK172; clear BK178; clear HB; have HO_168000 := n0_; have HO_173000 := n1_; have HO_179000 := n2_; have BK156 := n3_; have BK167 := n4_; have BK172 := n5_; have BK178 := n6_; have HB := n7_; clear n0_ n1_ n2_ n3_ n4_ n5_ n6_ n7_; (try clear hb); (try clear hb2); (try clear hk); (try clear hi)))
                    go_ret
                    exact ⟨by first | rfl | (simp [errW_none, errW_some] <;> rfl) | (simp [*, errW_none, errW_some] <;> rfl), by repeat (first | (with_reducible first | exact HB.out | apply below_alloc | apply pw_below_drewN | apply below_drew1 | refine below_set ?_ GE156.out | refine below_set ?_ GE167.out | refine below_set ?_ GE172.out | refine below_set ?_ GE178.out) | exact HB.out)⟩
                  · rw [if_neg c92] at H
                    have c92b0 : decide (t190 < 0) = false := decide_eq_false c92
                    clear c92
                    by_cases c100 : t190 = t188
                    · rw [if_pos c100] at H
                      have c100b0 : (t190 == t188) = true := beq_iff_eq.mpr c100
                      have c100b1 : (t190 != t188) = false := bne_eq_false_iff_eq.mpr c100
                      clear c100
                      replace H := Option.bind_eq_some_iff.mp H
                      obtain ⟨⟨t191, t194⟩, A1010, H⟩ := H
                      replace H : ((impl_HalveSketch.f kj59 t191 t194).bind fun bt195 => ((laws_eqSketch.f kj59 bt195.1 bt195.2.1 t162 t165).bind fun t201 => (if t201 = true then (laws_FnExactHalveSketch.j2 kj59 t188 (bt195.2.2 != t166) t189 t176) else (laws_FnExactHalveSketch.j2 kj59 t188 true t189 t176)))) = some r := H
                      have A101 := Aside0.mk A1010
                      clear A1010
                      replace H := Option.bind_eq_some_iff.mp H
                      obtain ⟨⟨t195, t198, t199⟩, A1020, H⟩ := H
                      replace H : ((laws_eqSketch.f kj59 t195 t198 t162 t165).bind fun t201 => (if t201 = true then (laws_FnExactHalveSketch.j2 kj59 t188 (t199 != t166) t189 t176) else (laws_FnExactHalveSketch.j2 kj59 t188 true t189 t176))) = some r := H
                      have A102 := Aside0.mk A1020
                      clear A1020
                      have HC103 := Aside0.mk H
                      clear H
                      have hnb104 := NB178_156.out
                      have hnc104 := NB156_178.out
                      have hnb105 := NB178_167.out
                      have hnc105 := NB167_178.out
                      have hnb106 := NB178_172.out
                      have hnc106 := NB172_178.out
                      have hcz107_0 : wc.cell? ⟨gb178, 0, none⟩ = some (.slice Ao32 t173.length co32) := (blk_cell BK178.out 0).trans rfl
                      have hcz107_1 : wc.cell? ⟨gb178, 1, none⟩ = some (.int .i64 t176) := (blk_cell BK178.out 1).trans rfl
                      have hfz107_0 := blk_frozen BK178.out 0
                      have hfz107_1 := blk_frozen BK178.out 1
                      go_upto_region 25 with (first | ((with_reducible refine gate_callee (f := 14) rfl ?_); refine goesL_ (some 64) rfl rfl Try.func14 (by kernel_rfl) rfl #[.agg #[.slice Ao32 t173.length co32, .int .i64 t176], .int .i64 1] rfl (by (try simp only [List.map_toArray, List.map_cons, List.map_nil]); first | done | rfl | (simp only [List.length_drop, List.length_take]; rfl)) ?_; (with_reducible refine (laws_markSketch.calls kj59 (fun k_ => some k_ = (.slice Ao32 t173.length co32 : Value).ownBlock) (.slice Ao32 t173.length co32) t173 t176 1 t188 t189 w _ ?side1 ?side2 A90.out).mono ?_); (case side1 => repeat (first | (with_reducible first | exact HB.out | apply below_alloc | apply pw_below_drewN | apply below_drew1 | refine below_set ?_ GE156.out | refine below_set ?_ GE167.out | refine below_set ?_ GE172.out | refine below_set ?_ GE178.out) | exact HB.out)); (case side2 => exact Kd.R_tight rfl HO_179000.out); rintro e w108 ⟨rfl, hy0, hb, hkp⟩; refine ⟨_, rfl, ?_⟩; have n0_ := Aside0.mk (Kd.R_mono (ok' := fun k_ => some k_ ≠ (.slice Ao26 t186.length co26 : Value).ownBlock ∧ some k_ ≠ (.slice Ao32 t173.length co32 : Value).ownBlock) (Kd.R_keptB (HO_168000.out) hkp (fun k_ hk_ hs_ => (hk_.2) hs_)) (fun k_ hk_ => ⟨hk_.1.1, hk_.1.2⟩)); have n1_ := Aside0.mk (Kd.R_mono (ok' := fun k_ => some k_ ≠ (.slice Ao20 t162.length co20 : Value).ownBlock ∧ some k_ ≠ (.slice Ao32 t173.length co32 : Value).ownBlock) (Kd.R_keptB (HO_173000.out) hkp (fun k_ hk_ hs_ => (hk_.2) hs_)) (fun k_ hk_ => ⟨hk_.1.1, hk_.1.2⟩)); have n2_ := Aside0.mk (Kd.R_reok rfl hy0 (fun k_ e_ => HO_179000.out.1 k_ e_)); have n3_ := Aside0.mk (blk_kept (by (with_reducible repeat (first | refine blk_drewN ?_ _ | refine blk_drew ?_ | refine blk_alloc ?_ _)); exact BK156.out) hkp (fun hs_ => (fun e_ => (Kd.R_ne HO_179000.out BK156.out (by decide)) e_) hs_)); have n4_ := Aside0.mk (blk_kept (by (with_reducible repeat (first | refine blk_drewN ?_ _ | refine blk_drew ?_ | refine blk_alloc ?_ _)); exact BK167.out) hkp (fun hs_ => (fun e_ => (Kd.R_ne HO_179000.out BK167.out (by decide)) e_) hs_)); have n5_ := Aside0.mk (blk_kept (by (with_reducible repeat (first | refine blk_drewN ?_ _ | refine blk_drew ?_ | refine blk_alloc ?_ _)); exact BK172.out) hkp (fun hs_ => (fun e_ => (Kd.R_ne HO_179000.out BK172.out (by decide)) e_) hs_)); have n6_ := Aside0.mk (blk_kept (by (with_reducible repeat (first | refine blk_drewN ?_ _ | refine blk_drew ?_ | refine blk_alloc ?_ _)); exact BK178.out) hkp (fun hs_ => (fun e_ => (Kd.R_ne HO_179000.out BK178.out (by decide)) e_) hs_)); have n7_ := Aside0.mk (hb); clear HO_168000; clear HO_173000; clear HO_179000; clear BK156; clear BK167; clear BK172; clear BK178; clear HB; have HO_168000 := n0_; have HO_173000 := n1_; have HO_179000 := n2_; have BK156 := n3_; have BK167 := n4_; have BK172 := n5_; have BK178 := n6_; have HB := n7_; clear n0_ n1_ n2_ n3_ n4_ n5_ n6_ n7_; (try clear hb); (try clear hkp); (try clear hy0); have hcz109_0 : w108.cell? ⟨gb178, 0, none⟩ = some (.slice Ao32 t173.length co32) := (blk_cell BK178.out 0).trans rfl; have hcz109_1 : w108.cell? ⟨gb178, 1, none⟩ = some (.int .i64 t176) := (blk_cell BK178.out 1).trans rfl; have hfz109_0 := blk_frozen BK178.out 0; have hfz109_1 := blk_frozen BK178.out 1) | ((with_reducible refine gate_callee (f := 15) rfl ?_); refine goesL_ (some 67) rfl rfl Try.func15 (by kernel_rfl) rfl #[.agg #[.slice Ao32 t189.length co32, .int .i64 t176], .int .i64 1] rfl (by (try simp only [List.map_toArray, List.map_cons, List.map_nil]); first | done | (rw [show t189.length = t173.length from (Kd.R_reads' HO_179000.out).1.symm] <;> rfl) | rfl | (simp only [List.length_drop, List.length_take]; rfl)) ?_; (with_reducible refine (laws_heldSketch.calls kj59 _ _ t189 t176 1 t190 _ ?side1 ?side2 A91.out).mono ?_); (case side1 => repeat (first | exact (Kd.R_reads' HO_179000.out).2.2 | (with_reducible refine Kd.C_alloc ?_ _) | (with_reducible refine Kd.C_drewN ?_ _) | (with_reducible refine Kd.C_drew ?_))); (case side2 => rw [show t189.length = t173.length from (Kd.R_reads' HO_179000.out).1.symm]; exact (Kd.R_reads' HO_179000.out).2.1); rintro e w110 ⟨rfl, hb⟩; refine ⟨_, rfl, ?_⟩; have n0_ := Aside0.mk (Kd.R_below (by (with_reducible repeat (first | apply Kd.R_alloc | apply Kd.R_drewN | apply Kd.R_drew)); exact HO_168000.out) hb); have n1_ := Aside0.mk (Kd.R_below (by (with_reducible repeat (first | apply Kd.R_alloc | apply Kd.R_drewN | apply Kd.R_drew)); exact HO_173000.out) hb); have n2_ := Aside0.mk (Kd.R_below (by (with_reducible repeat (first | apply Kd.R_alloc | apply Kd.R_drewN | apply Kd.R_drew)); exact HO_179000.out) hb); have n3_ := Aside0.mk (blk_below (g := gb156) (o := .cells #[.slice A0_0 l0_0.length c0_0, .int .i64 a0_1] 34 (0, 0)) (by (with_reducible repeat (first | refine blk_drewN ?_ _ | refine blk_drew ?_ | refine blk_alloc ?_ _)); exact BK156.out) hb); have n4_ := Aside0.mk (blk_below (g := gb167) (o := .cells #[.slice Ao20 t162.length co20, .int .i64 t165] 24 (0, 0)) (by (with_reducible repeat (first | refine blk_drewN ?_ _ | refine blk_drew ?_ | refine blk_alloc ?_ _)); exact BK167.out) hb); have n5_ := Aside0.mk (blk_below (g := gb172) (o := .cells #[.slice Ao26 t186.length co26, .int .i64 t171] 24 (0, 0)) (by (with_reducible repeat (first | refine blk_drewN ?_ _ | refine blk_drew ?_ | refine blk_alloc ?_ _)); exact BK172.out) hb); have n6_ := Aside0.mk (blk_below (g := gb178) (o := .cells #[.slice Ao32 t173.length co32, .int .i64 t176] 24 (0, 0)) (by (with_reducible repeat (first | refine blk_drewN ?_ _ | refine blk_drew ?_ | refine blk_alloc ?_ _)); exact BK178.out) hb); have n7_ := Aside0.mk (below_step (by repeat (first | (with_reducible first | exact HB.out | apply below_alloc | apply pw_below_drewN | apply below_drew1 | refine below_set ?_ GE156.out | refine below_set ?_ GE167.out | refine below_set ?_ GE172.out | refine below_set ?_ GE178.out) | exact HB.out)) hb); clear HO_168000; clear HO_173000; clear HO_179000; clear BK156; clear BK167; clear BK172; clear BK178; clear HB; have HO_168000 := n0_; have HO_173000 := n1_; have HO_179000 := n2_; have BK156 := n3_; have BK167 := n4_; have BK172 := n5_; have BK178 := n6_; have HB := n7_; clear n0_ n1_ n2_ n3_ n4_ n5_ n6_ n7_; (try clear hb); (try clear hb2); (try clear hk); (try clear hi); have hnb111 := NB156_167.out; have hnc111 := NB167_156.out; have hnb112 := NB156_172.out; have hnc112 := NB172_156.out; have hcz113_0 : w110.cell? ⟨gb156, 0, none⟩ = some (.slice A0_0 l0_0.length c0_0) := (blk_cell BK156.out 0).trans rfl; have hcz113_1 : w110.cell? ⟨gb156, 1, none⟩ = some (.int .i64 a0_1) := (blk_cell BK156.out 1).trans rfl; have hfz113_0 := blk_frozen BK156.out 0; have hfz113_1 := blk_frozen BK156.out 1) | ((with_reducible refine gate_callee (f := 23) rfl ?_); refine goesL_ (some 75) rfl rfl Try.func23 (by kernel_rfl) rfl #[.agg #[.slice A0_0 l0_0.length c0_0, .int .i64 a0_1]] rfl (by (try simp only [List.map_toArray, List.map_cons, List.map_nil]); first | done | rfl | (simp only [List.length_drop, List.length_take]; rfl)) ?_; (with_reducible refine (laws_toSketch.calls kj59 _ _ l0_0 a0_1 t191 t194 _ ?side1 ?side2 A101.out).mono ?_); (case side1 => repeat (first | exact (Kd.C_below HR0_0.out HB.out) | (with_reducible refine Kd.C_alloc ?_ _) | (with_reducible refine Kd.C_drewN ?_ _) | (with_reducible refine Kd.C_drew ?_))); (case side2 => exact HC0_0.out); rintro e w114 ⟨v192, rfl, ho0, hb⟩; refine ⟨_, rfl, ?_⟩; have n0_ := Aside0.mk (Kd.R_elder' (by (with_reducible repeat (first | apply Kd.R_alloc | apply Kd.R_drewN | apply Kd.R_drew)); exact HO_168000.out) (Kd.R_base ho0) hb); have n1_ := Aside0.mk (Kd.R_elder' (by (with_reducible repeat (first | apply Kd.R_alloc | apply Kd.R_drewN | apply Kd.R_drew)); exact HO_173000.out) (Kd.R_base ho0) hb); have n2_ := Aside0.mk (Kd.R_elder' (by (with_reducible repeat (first | apply Kd.R_alloc | apply Kd.R_drewN | apply Kd.R_drew)); exact HO_179000.out) (Kd.R_base ho0) hb); have n3_ := Aside0.mk (Kd.R_lower (Kd.R_new' (Kd.R_new' (Kd.R_new' ho0 (Kd.R_lt (by (with_reducible repeat (first | apply Kd.R_alloc | apply Kd.R_drewN | apply Kd.R_drew)); exact HO_168000.out))) (Kd.R_lt (by (with_reducible repeat (first | apply Kd.R_alloc | apply Kd.R_drewN | apply Kd.R_drew)); exact HO_173000.out))) (Kd.R_lt (by (with_reducible repeat (first | apply Kd.R_alloc | apply Kd.R_drewN | apply Kd.R_drew)); exact HO_179000.out))) (below_size (by repeat (first | (with_reducible first | exact HB.out | apply below_alloc | apply pw_below_drewN | apply below_drew1 | refine below_set ?_ GE156.out | refine below_set ?_ GE167.out | refine below_set ?_ GE172.out | refine below_set ?_ GE178.out) | exact HB.out)))); have n4_ := Aside0.mk (blk_below (g := gb156) (o := .cells #[.slice A0_0 l0_0.length c0_0, .int .i64 a0_1] 34 (0, 0)) (by (with_reducible repeat (first | refine blk_drewN ?_ _ | refine blk_drew ?_ | refine blk_alloc ?_ _)); exact BK156.out) hb); have n5_ := Aside0.mk (blk_below (g := gb167) (o := .cells #[.slice Ao20 t162.length co20, .int .i64 t165] 24 (0, 0)) (by (with_reducible repeat (first | refine blk_drewN ?_ _ | refine blk_drew ?_ | refine blk_alloc ?_ _)); exact BK167.out) hb); have n6_ := Aside0.mk (blk_below (g := gb172) (o := .cells #[.slice Ao26 t186.length co26, .int .i64 t171] 24 (0, 0)) (by (with_reducible repeat (first | refine blk_drewN ?_ _ | refine blk_drew ?_ | refine blk_alloc ?_ _)); exact BK172.out) hb); have n7_ := Aside0.mk (blk_below (g := gb178) (o := .cells #[.slice Ao32 t173.length co32, .int .i64 t176] 24 (0, 0)) (by (with_reducible repeat (first | refine blk_drewN ?_ _ | refine blk_drew ?_ | refine blk_alloc ?_ _)); exact BK178.out) hb); have n8_ := Aside0.mk (below_step (by repeat (first | (with_reducible first | exact HB.out | apply below_alloc | apply pw_below_drewN | apply below_drew1 | refine below_set ?_ GE156.out | refine below_set ?_ GE167.out | refine below_set ?_ GE172.out | refine below_set ?_ GE178.out) | exact HB.out)) hb); clear HO_168000; clear HO_173000; clear HO_179000; clear BK156; clear BK167; clear BK172; clear BK178; clear HB; have HO_168000 := n0_; have HO_173000 := n1_; have HO_179000 := n2_; have HO193 := n3_; have BK156 := n4_; have BK167 := n5_; have BK172 := n6_; have BK178 := n7_; have HB := n8_; clear n0_ n1_ n2_ n3_ n4_ n5_ n6_ n7_ n8_; (try clear hb); (try clear hb2); (try clear hk); (try clear hi); (try clear ho0); obtain ⟨Ao115, co115, eo115⟩ := Kd.R_slice HO193.out; subst eo115) | ((with_reducible refine gate_callee (f := 32) rfl ?_); refine goesL_ (some 76) rfl rfl Try.func32 (by kernel_rfl) rfl #[.agg #[.slice Ao115 t191.length co115, .int .i64 t194]] rfl (by (try simp only [List.map_toArray, List.map_cons, List.map_nil]); first | done | rfl | (simp only [List.length_drop, List.length_take]; rfl)) ?_; (with_reducible refine (impl_HalveSketch.calls kj59 _ _ t191 t194 t195 t198 t199 _ ?side1 ?side2 A102.out).mono ?_); (case side1 => repeat (first | exact (Kd.R_reads' HO193.out).2.2 | (with_reducible refine Kd.C_alloc ?_ _) | (with_reducible refine Kd.C_drewN ?_ _) | (with_reducible refine Kd.C_drew ?_))); (case side2 => exact (Kd.R_reads' HO193.out).2.1); rintro e w116 ⟨v196, rfl, ho0, hb⟩; refine ⟨_, rfl, ?_⟩; have n0_ := Aside0.mk (Kd.R_elder' (by (with_reducible repeat (first | apply Kd.R_alloc | apply Kd.R_drewN | apply Kd.R_drew)); exact HO_168000.out) (Kd.R_base ho0) hb); have n1_ := Aside0.mk (Kd.R_elder' (by (with_reducible repeat (first | apply Kd.R_alloc | apply Kd.R_drewN | apply Kd.R_drew)); exact HO_173000.out) (Kd.R_base ho0) hb); have n2_ := Aside0.mk (Kd.R_elder' (by (with_reducible repeat (first | apply Kd.R_alloc | apply Kd.R_drewN | apply Kd.R_drew)); exact HO_179000.out) (Kd.R_base ho0) hb); have n3_ := Aside0.mk (Kd.R_elder' (by (with_reducible repeat (first | apply Kd.R_alloc | apply Kd.R_drewN | apply Kd.R_drew)); exact HO193.out) (Kd.R_base ho0) hb); have n4_ := Aside0.mk (Kd.R_lower (Kd.R_new' (Kd.R_new' (Kd.R_new' (Kd.R_new' ho0 (Kd.R_lt (by (with_reducible repeat (first | apply Kd.R_alloc | apply Kd.R_drewN | apply Kd.R_drew)); exact HO_168000.out))) (Kd.R_lt (by (with_reducible repeat (first | apply Kd.R_alloc | apply Kd.R_drewN | apply Kd.R_drew)); exact HO_173000.out))) (Kd.R_lt (by (with_reducible repeat (first | apply Kd.R_alloc | apply Kd.R_drewN | apply Kd.R_drew)); exact HO_179000.out))) (Kd.R_lt (by (with_reducible repeat (first | apply Kd.R_alloc | apply Kd.R_drewN | apply Kd.R_drew)); exact HO193.out))) (below_size (by repeat (first | (with_reducible first | exact HB.out | apply below_alloc | apply pw_below_drewN | apply below_drew1 | refine below_set ?_ GE156.out | refine below_set ?_ GE167.out | refine below_set ?_ GE172.out | refine below_set ?_ GE178.out) | exact HB.out)))); have n5_ := Aside0.mk (blk_below (g := gb156) (o := .cells #[.slice A0_0 l0_0.length c0_0, .int .i64 a0_1] 34 (0, 0)) (by (with_reducible repeat (first | refine blk_drewN ?_ _ | refine blk_drew ?_ | refine blk_alloc ?_ _)); exact BK156.out) hb); have n6_ := Aside0.mk (blk_below (g := gb167) (o := .cells #[.slice Ao20 t162.length co20, .int .i64 t165] 24 (0, 0)) (by (with_reducible repeat (first | refine blk_drewN ?_ _ | refine blk_drew ?_ | refine blk_alloc ?_ _)); exact BK167.out) hb); have n7_ := Aside0.mk (blk_below (g := gb172) (o := .cells #[.slice Ao26 t186.length co26, .int .i64 t171] 24 (0, 0)) (by (with_reducible repeat (first | refine blk_drewN ?_ _ | refine blk_drew ?_ | refine blk_alloc ?_ _)); exact BK172.out) hb); have n8_ := Aside0.mk (blk_below (g := gb178) (o := .cells #[.slice Ao32 t173.length co32, .int .i64 t176] 24 (0, 0)) (by (with_reducible repeat (first | refine blk_drewN ?_ _ | refine blk_drew ?_ | refine blk_alloc ?_ _)); exact BK178.out) hb); have n9_ := Aside0.mk (below_step (by repeat (first | (with_reducible first | exact HB.out | apply below_alloc | apply pw_below_drewN | apply below_drew1 | refine below_set ?_ GE156.out | refine below_set ?_ GE167.out | refine below_set ?_ GE172.out | refine below_set ?_ GE178.out) | exact HB.out)) hb); clear HO_168000; clear HO_173000; clear HO_179000; clear HO193; clear BK156; clear BK167; clear BK172; clear BK178; clear HB; have HO_168000 := n0_; have HO_173000 := n1_; have HO_179000 := n2_; have HO193 := n3_; have HO197 := n4_; have BK156 := n5_; have BK167 := n6_; have BK172 := n7_; have BK178 := n8_; have HB := n9_; clear n0_ n1_ n2_ n3_ n4_ n5_ n6_ n7_ n8_ n9_; (try clear hb); (try clear hb2); (try clear hk); (try clear hi); (try clear ho0)) | ((with_reducible refine gate_dst (N := 12) rfl ?_); refine box_event ?hg (N := 12) ?hd (cs := #[.slice none 0 0, .int .i64 0]) (t := 24) ?hr ?_; (case hd => rfl); (case hg => rfl); (case hr => first | (go_simp; done) | (go_simp; rfl)); intro gb200 hg w117 hbox hb; have n0_ := Aside0.mk (Kd.R_below (by (with_reducible repeat (first | apply Kd.R_alloc | apply Kd.R_drewN | apply Kd.R_drew)); exact HO_168000.out) hb); have n1_ := Aside0.mk (Kd.R_below (by (with_reducible repeat (first | apply Kd.R_alloc | apply Kd.R_drewN | apply Kd.R_drew)); exact HO_173000.out) hb); have n2_ := Aside0.mk (Kd.R_below (by (with_reducible repeat (first | apply Kd.R_alloc | apply Kd.R_drewN | apply Kd.R_drew)); exact HO_179000.out) hb); have n3_ := Aside0.mk (Kd.R_below (by (with_reducible repeat (first | apply Kd.R_alloc | apply Kd.R_drewN | apply Kd.R_drew)); exact HO193.out) hb); have n4_ := Aside0.mk (Kd.R_below (by (with_reducible repeat (first | apply Kd.R_alloc | apply Kd.R_drewN | apply Kd.R_drew)); exact HO197.out) hb); have n5_ := Aside0.mk (blk_below (g := gb156) (o := .cells #[.slice A0_0 l0_0.length c0_0, .int .i64 a0_1] 34 (0, 0)) (by (with_reducible repeat (first | refine blk_drewN ?_ _ | refine blk_drew ?_ | refine blk_alloc ?_ _)); exact BK156.out) hb); have n6_ := Aside0.mk (blk_below (g := gb167) (o := .cells #[.slice Ao20 t162.length co20, .int .i64 t165] 24 (0, 0)) (by (with_reducible repeat (first | refine blk_drewN ?_ _ | refine blk_drew ?_ | refine blk_alloc ?_ _)); exact BK167.out) hb); have n7_ := Aside0.mk (blk_below (g := gb172) (o := .cells #[.slice Ao26 t186.length co26, .int .i64 t171] 24 (0, 0)) (by (with_reducible repeat (first | refine blk_drewN ?_ _ | refine blk_drew ?_ | refine blk_alloc ?_ _)); exact BK172.out) hb); have n8_ := Aside0.mk (blk_below (g := gb178) (o := .cells #[.slice Ao32 t173.length co32, .int .i64 t176] 24 (0, 0)) (by (with_reducible repeat (first | refine blk_drewN ?_ _ | refine blk_drew ?_ | refine blk_alloc ?_ _)); exact BK178.out) hb); have n9_ := Aside0.mk (below_step (by repeat (first | (with_reducible first | exact HB.out | apply below_alloc | apply pw_below_drewN | apply below_drew1 | refine below_set ?_ GE156.out | refine below_set ?_ GE167.out | refine below_set ?_ GE172.out | refine below_set ?_ GE178.out) | exact HB.out)) hb); have n10_ := Aside0.mk (hbox); have n11_ := Aside0.mk ((by rw [hg]; exact (below_size (by repeat (first | (with_reducible first | exact HB.out | apply below_alloc | apply pw_below_drewN | apply below_drew1 | refine below_set ?_ GE156.out | refine below_set ?_ GE167.out | refine below_set ?_ GE172.out | refine below_set ?_ GE178.out) | exact HB.out))) : w.heap.size ≤ gb200)); have n12_ := Aside0.mk ((by rw [hg]; exact (below_size (by repeat (first | (with_reducible first | exact HB.out | apply below_alloc | apply pw_below_drewN | apply below_drew1 | refine below_set ?_ GE156.out | refine below_set ?_ GE167.out | refine below_set ?_ GE172.out | refine below_set ?_ GE178.out) | exact HB.out))) : w.heap.size ≤ gb200)); have n13_ := Aside0.mk ((by rw [hg]; exact Nat.ne_of_lt (blk_lt (g := gb156) (o := .cells #[.slice A0_0 l0_0.length c0_0, .int .i64 a0_1] 34 (0, 0)) (by (with_reducible repeat (first | refine blk_drewN ?_ _ | refine blk_drew ?_ | refine blk_alloc ?_ _)); exact BK156.out)) : gb156 ≠ gb200)); have n14_ := Aside0.mk ((by rw [hg]; exact Nat.ne_of_gt (blk_lt (g := gb156) (o := .cells #[.slice A0_0 l0_0.length c0_0, .int .i64 a0_1] 34 (0, 0)) (by (with_reducible repeat (first | refine blk_drewN ?_ _ | refine blk_drew ?_ | refine blk_alloc ?_ _)); exact BK156.out)) : gb200 ≠ gb156)); have n15_ := Aside0.mk ((by rw [hg]; exact Nat.ne_of_lt (blk_lt (g := gb167) (o := .cells #[.slice Ao20 t162.length co20, .int .i64 t165] 24 (0, 0)) (by (with_reducible repeat (first | refine blk_drewN ?_ _ | refine blk_drew ?_ | refine blk_alloc ?_ _)); exact BK167.out)) : gb167 ≠ gb200)); have n16_ := Aside0.mk ((by rw [hg]; exact Nat.ne_of_gt (blk_lt (g := gb167) (o := .cells #[.slice Ao20 t162.length co20, .int .i64 t165] 24 (0, 0)) (by (with_reducible repeat (first | refine blk_drewN ?_ _ | refine blk_drew ?_ | refine blk_alloc ?_ _)); exact BK167.out)) : gb200 ≠ gb167)); have n17_ := Aside0.mk ((by rw [hg]; exact Nat.ne_of_lt (blk_lt (g := gb172) (o := .cells #[.slice Ao26 t186.length co26, .int .i64 t171] 24 (0, 0)) (by (with_reducible repeat (first | refine blk_drewN ?_ _ | refine blk_drew ?_ | refine blk_alloc ?_ _)); exact BK172.out)) : gb172 ≠ gb200)); have n18_ := Aside0.mk ((by rw [hg]; exact Nat.ne_of_gt (blk_lt (g := gb172) (o := .cells #[.slice Ao26 t186.length co26, .int .i64 t171] 24 (0, 0)) (by (with_reducible repeat (first | refine blk_drewN ?_ _ | refine blk_drew ?_ | refine blk_alloc ?_ _)); exact BK172.out)) : gb200 ≠ gb172)); have n19_ := Aside0.mk ((by rw [hg]; exact Nat.ne_of_lt (blk_lt (g := gb178) (o := .cells #[.slice Ao32 t173.length co32, .int .i64 t176] 24 (0, 0)) (by (with_reducible repeat (first | refine blk_drewN ?_ _ | refine blk_drew ?_ | refine blk_alloc ?_ _)); exact BK178.out)) : gb178 ≠ gb200)); have n20_ := Aside0.mk ((by rw [hg]; exact Nat.ne_of_gt (blk_lt (g := gb178) (o := .cells #[.slice Ao32 t173.length co32, .int .i64 t176] 24 (0, 0)) (by (with_reducible repeat (first | refine blk_drewN ?_ _ | refine blk_drew ?_ | refine blk_alloc ?_ _)); exact BK178.out)) : gb200 ≠ gb178)); clear HO_168000; clear HO_173000; clear HO_179000; clear HO193; clear HO197; clear BK156; clear BK167; clear BK172; clear BK178; clear HB; have HO_168000 := n0_; have HO_173000 := n1_; have HO_179000 := n2_; have HO193 := n3_; have HO197 := n4_; have BK156 := n5_; have BK167 := n6_; have BK172 := n7_; have BK178 := n8_; have HB := n9_; have BK200 := n10_; have GW200 := n11_; have GE200 := n12_; have NB156_200 := n13_; have NB200_156 := n14_; have NB167_200 := n15_; have NB200_167 := n16_; have NB172_200 := n17_; have NB200_172 := n18_; have NB178_200 := n19_; have NB200_178 := n20_; clear n0_ n1_ n2_ n3_ n4_ n5_ n6_ n7_ n8_ n9_ n10_ n11_ n12_ n13_ n14_ n15_ n16_ n17_ n18_ n19_ n20_; clear hb hbox hg; obtain ⟨Ao118, co118, eo118⟩ := Kd.R_slice HO197.out; subst eo118; have hnb119 := NB200_156.out; have hnc119 := NB156_200.out; have hnb120 := NB200_167.out; have hnc120 := NB167_200.out; have hnb121 := NB200_172.out; have hnc121 := NB172_200.out; have hnb122 := NB200_178.out; have hnc122 := NB178_200.out; have hcz123_0 : w117.cell? ⟨gb200, 0, none⟩ = some (.slice none 0 0) := (blk_cell BK200.out 0).trans rfl; have hcz123_1 : w117.cell? ⟨gb200, 1, none⟩ = some (.int .i64 0) := (blk_cell BK200.out 1).trans rfl; have hfz123_0 := blk_frozen BK200.out 0; have hfz123_1 := blk_frozen BK200.out 1))
                      (try simp only [Act.put, List.setIfInBounds_toArray, List.set_cons_zero, List.set_cons_succ])
                      go_cut [87] (fun v87 wc => ∃ (kq : Nat) (x87_102 : Bool), v87 = .bool x87_102 ∧ Aside0 (laws_FnExactHalveSketch.j2 kq t188 x87_102 t189 t176 = some r) ∧ Aside0 (kq ≤ kj59) ∧ Aside0 (Kd.R (Kd.int .i64) 3 wc w.heap.size (fun k_ => some k_ ≠ ((.slice Ao26 t186.length co26) : Value).ownBlock ∧ some k_ ≠ ((.slice Ao32 t173.length co32) : Value).ownBlock ∧ some k_ ≠ ((.slice Ao118 t195.length co118) : Value).ownBlock) (.slice Ao20 t162.length co20) t162) ∧ Aside0 (Kd.R (Kd.int .i64) 3 wc w.heap.size (fun k_ => some k_ ≠ ((.slice Ao20 t162.length co20) : Value).ownBlock ∧ some k_ ≠ ((.slice Ao32 t173.length co32) : Value).ownBlock ∧ some k_ ≠ ((.slice Ao118 t195.length co118) : Value).ownBlock) (.slice Ao26 t186.length co26) t186) ∧ Aside0 (Kd.R (Kd.int .i64) 3 wc w.heap.size (fun k_ => some k_ ≠ ((.slice Ao20 t162.length co20) : Value).ownBlock ∧ some k_ ≠ ((.slice Ao26 t186.length co26) : Value).ownBlock ∧ some k_ ≠ ((.slice Ao118 t195.length co118) : Value).ownBlock) (.slice Ao32 t173.length co32) t189) ∧ Aside0 (Kd.R (Kd.int .i64) 3 wc w.heap.size (fun k_ => some k_ ≠ ((.slice Ao20 t162.length co20) : Value).ownBlock ∧ some k_ ≠ ((.slice Ao26 t186.length co26) : Value).ownBlock ∧ some k_ ≠ ((.slice Ao32 t173.length co32) : Value).ownBlock) (.slice Ao118 t195.length co118) t195) ∧ Aside0 (wc.heap[gb156]? = some (.cells #[(.slice A0_0 l0_0.length c0_0), .int .i64 a0_1] 34 (0, 0))) ∧ Aside0 (wc.heap[gb167]? = some (.cells #[(.slice Ao20 t162.length co20), .int .i64 t165] 24 (0, 0))) ∧ Aside0 (wc.heap[gb172]? = some (.cells #[(.slice Ao26 t186.length co26), .int .i64 t171] 24 (0, 0))) ∧ Aside0 (wc.heap[gb178]? = some (.cells #[(.slice Ao32 t173.length co32), .int .i64 t176] 24 (0, 0))) ∧ Aside0 (wc.heap[gb200]? = some (.cells #[(.slice Ao118 t195.length co118), .int .i64 t198] 24 (0, 0))) ∧ Aside0 (Below w.heap.size w wc))
                      case first =>
                        have H := HC103.out
                        clear HC103
                        replace H := Option.bind_eq_some_iff.mp H
                        obtain ⟨t201, A1240, H⟩ := H
                        replace H : (if t201 = true then (laws_FnExactHalveSketch.j2 kj59 t188 (t199 != t166) t189 t176) else (laws_FnExactHalveSketch.j2 kj59 t188 true t189 t176)) = some r := H
                        have A124 := Aside0.mk A1240
                        clear A1240
                        by_cases c125 : t201 = true
                        · subst c125
                          have H1 : (laws_FnExactHalveSketch.j2 kj59 t188 (t199 != t166) t189 t176) = some r := by rw [if_pos rfl] at H; exact H
                          clear H
                          have H := H1
                          clear H1
                          have H' := Aside0.mk H
                          clear H
                          have hnb126 := NB200_156.out
                          have hnc126 := NB156_200.out
                          have hnb127 := NB200_167.out
                          have hnc127 := NB167_200.out
                          have hnb128 := NB200_172.out
                          have hnc128 := NB172_200.out
                          have hnb129 := NB200_178.out
                          have hnc129 := NB178_200.out
                          have hcz130_0 : w117.cell? ⟨gb200, 0, none⟩ = some (.slice none 0 0) := (blk_cell BK200.out 0).trans rfl
                          have hcz130_1 : w117.cell? ⟨gb200, 1, none⟩ = some (.int .i64 0) := (blk_cell BK200.out 1).trans rfl
                          have hfz130_0 := blk_frozen BK200.out 0
                          have hfz130_1 := blk_frozen BK200.out 1
                          have hnb131 := NB167_156.out
                          have hnc131 := NB156_167.out
                          have hnb132 := NB167_172.out
                          have hnc132 := NB172_167.out
                          have hnb133 := NB167_178.out
                          have hnc133 := NB178_167.out
                          have hcz134_0 : w117.cell? ⟨gb167, 0, none⟩ = some (.slice Ao20 t162.length co20) := (blk_cell BK167.out 0).trans rfl
                          have hcz134_1 : w117.cell? ⟨gb167, 1, none⟩ = some (.int .i64 t165) := (blk_cell BK167.out 1).trans rfl
                          have hfz134_0 := blk_frozen BK167.out 0
                          have hfz134_1 := blk_frozen BK167.out 1
                          go_wp2_with (first | ((with_reducible refine gate_callee (f := 13) rfl ?_); refine goesL_ (some 81) rfl rfl Try.func13 (by kernel_rfl) rfl #[.agg #[.slice Ao118 t195.length co118, .int .i64 t198], .agg #[.slice Ao20 t162.length co20, .int .i64 t165]] rfl (by (try simp only [List.map_toArray, List.map_cons, List.map_nil]); first | done | rfl | (simp only [List.length_drop, List.length_take]; rfl)) ?_; (with_reducible refine (laws_eqSketch.calls kj59 _ _ t195 t198 _ _ t162 t165 true _ ?side1 ?side2 ?side3 ?side4 A124.out).mono ?_); (case side1 => refine (Kd.R_reads' (e := 3) (base := w.heap.size) (ok := fun k_ => ((((True ∧ some k_ ≠ (.slice Ao20 t162.length co20 : Value).ownBlock) ∧ some k_ ≠ (.slice Ao26 t186.length co26 : Value).ownBlock) ∧ some k_ ≠ (.slice Ao32 t173.length co32 : Value).ownBlock) ∧ some k_ ≠ (.slice Ao115 t191.length co115 : Value).ownBlock)) (n := t195.length) (c := co118) ?_).2.2; exact (by (with_reducible repeat (first | apply Kd.R_alloc | apply Kd.R_drewN | apply Kd.R_drew)); exact (Kd.R_mono (Kd.R_far (p := ⟨gb200, 1, none⟩) (Kd.R_far (p := ⟨gb200, 0, none⟩) (Kd.R_types HO197.out BK200.out (by decide)) (fun _ hk => hk.2) (.slice Ao118 t195.length co118)) (fun _ hk => hk.2) (.int .i64 t198)) (fun _ h_ => h_.1)))); (case side2 => exact (Kd.R_reads' HO197.out).2.1); (case side3 => refine (Kd.R_reads' (e := 3) (base := w.heap.size) (ok := fun k_ => (((some k_ ≠ (.slice Ao26 t186.length co26 : Value).ownBlock ∧ some k_ ≠ (.slice Ao32 t173.length co32 : Value).ownBlock) ∧ some k_ ≠ (.slice Ao115 t191.length co115 : Value).ownBlock) ∧ some k_ ≠ (.slice Ao118 t195.length co118 : Value).ownBlock)) (n := t162.length) (c := co20) ?_).2.2; exact (by (with_reducible repeat (first | apply Kd.R_alloc | apply Kd.R_drewN | apply Kd.R_drew)); exact (Kd.R_mono (Kd.R_far (p := ⟨gb200, 1, none⟩) (Kd.R_far (p := ⟨gb200, 0, none⟩) (Kd.R_types HO_168000.out BK200.out (by decide)) (fun _ hk => hk.2) (.slice Ao118 t195.length co118)) (fun _ hk => hk.2) (.int .i64 t198)) (fun _ h_ => h_.1)))); (case side4 => exact (Kd.R_reads' HO_168000.out).2.1); rintro e w135 ⟨rfl, hb⟩; refine ⟨_, rfl, ?_⟩; have n0_ := Aside0.mk (Kd.R_below (by (with_reducible repeat (first | apply Kd.R_alloc | apply Kd.R_drewN | apply Kd.R_drew)); exact (Kd.R_mono (Kd.R_far (p := ⟨gb200, 1, none⟩) (Kd.R_far (p := ⟨gb200, 0, none⟩) (Kd.R_types HO_168000.out BK200.out (by decide)) (fun _ hk => hk.2) (.slice Ao118 t195.length co118)) (fun _ hk => hk.2) (.int .i64 t198)) (fun _ h_ => h_.1))) hb); have n1_ := Aside0.mk (Kd.R_below (by (with_reducible repeat (first | apply Kd.R_alloc | apply Kd.R_drewN | apply Kd.R_drew)); exact (Kd.R_mono (Kd.R_far (p := ⟨gb200, 1, none⟩) (Kd.R_far (p := ⟨gb200, 0, none⟩) (Kd.R_types HO_173000.out BK200.out (by decide)) (fun _ hk => hk.2) (.slice Ao118 t195.length co118)) (fun _ hk => hk.2) (.int .i64 t198)) (fun _ h_ => h_.1))) hb); have n2_ := Aside0.mk (Kd.R_below (by (with_reducible repeat (first | apply Kd.R_alloc | apply Kd.R_drewN | apply Kd.R_drew)); exact (Kd.R_mono (Kd.R_far (p := ⟨gb200, 1, none⟩) (Kd.R_far (p := ⟨gb200, 0, none⟩) (Kd.R_types HO_179000.out BK200.out (by decide)) (fun _ hk => hk.2) (.slice Ao118 t195.length co118)) (fun _ hk => hk.2) (.int .i64 t198)) (fun _ h_ => h_.1))) hb); have n3_ := Aside0.mk (Kd.R_below (by (with_reducible repeat (first | apply Kd.R_alloc | apply Kd.R_drewN | apply Kd.R_drew)); exact (Kd.R_mono (Kd.R_far (p := ⟨gb200, 1, none⟩) (Kd.R_far (p := ⟨gb200, 0, none⟩) (Kd.R_types HO193.out BK200.out (by decide)) (fun _ hk => hk.2) (.slice Ao118 t195.length co118)) (fun _ hk => hk.2) (.int .i64 t198)) (fun _ h_ => h_.1))) hb); have n4_ := Aside0.mk (Kd.R_below (by (with_reducible repeat (first | apply Kd.R_alloc | apply Kd.R_drewN | apply Kd.R_drew)); exact (Kd.R_mono (Kd.R_far (p := ⟨gb200, 1, none⟩) (Kd.R_far (p := ⟨gb200, 0, none⟩) (Kd.R_types HO197.out BK200.out (by decide)) (fun _ hk => hk.2) (.slice Ao118 t195.length co118)) (fun _ hk => hk.2) (.int .i64 t198)) (fun _ h_ => h_.1))) hb); have n5_ := Aside0.mk (blk_below (g := gb156) (o := .cells #[.slice A0_0 l0_0.length c0_0, .int .i64 a0_1] 34 (0, 0)) (by (with_reducible repeat (first | refine blk_drewN ?_ _ | refine blk_drew ?_ | refine blk_alloc ?_ _)); refine blk_far ?_ NB156_200.out _; (with_reducible repeat (first | refine blk_drewN ?_ _ | refine blk_drew ?_ | refine blk_alloc ?_ _)); refine blk_far ?_ NB156_200.out _; (with_reducible repeat (first | refine blk_drewN ?_ _ | refine blk_drew ?_ | refine blk_alloc ?_ _)); exact BK156.out) hb); have n6_ := Aside0.mk (blk_below (g := gb167) (o := .cells #[.slice Ao20 t162.length co20, .int .i64 t165] 24 (0, 0)) (by (with_reducible repeat (first | refine blk_drewN ?_ _ | refine blk_drew ?_ | refine blk_alloc ?_ _)); refine blk_far ?_ NB167_200.out _; (with_reducible repeat (first | refine blk_drewN ?_ _ | refine blk_drew ?_ | refine blk_alloc ?_ _)); refine blk_far ?_ NB167_200.out _; (with_reducible repeat (first | refine blk_drewN ?_ _ | refine blk_drew ?_ | refine blk_alloc ?_ _)); exact BK167.out) hb); have n7_ := Aside0.mk (blk_below (g := gb172) (o := .cells #[.slice Ao26 t186.length co26, .int .i64 t171] 24 (0, 0)) (by (with_reducible repeat (first | refine blk_drewN ?_ _ | refine blk_drew ?_ | refine blk_alloc ?_ _)); refine blk_far ?_ NB172_200.out _; (with_reducible repeat (first | refine blk_drewN ?_ _ | refine blk_drew ?_ | refine blk_alloc ?_ _)); refine blk_far ?_ NB172_200.out _; (with_reducible repeat (first | refine blk_drewN ?_ _ | refine blk_drew ?_ | refine blk_alloc ?_ _)); exact BK172.out) hb); have n8_ := Aside0.mk (blk_below (g := gb178) (o := .cells #[.slice Ao32 t173.length co32, .int .i64 t176] 24 (0, 0)) (by (with_reducible repeat (first | refine blk_drewN ?_ _ | refine blk_drew ?_ | refine blk_alloc ?_ _)); refine blk_far ?_ NB178_200.out _; (with_reducible repeat (first | refine blk_drewN ?_ _ | refine blk_drew ?_ | refine blk_alloc ?_ _)); refine blk_far ?_ NB178_200.out _; (with_reducible repeat (first | refine blk_drewN ?_ _ | refine blk_drew ?_ | refine blk_alloc ?_ _)); exact BK178.out) hb); have n9_ := Aside0.mk (blk_below (g := gb200) (o := .cells #[.slice Ao118 t195.length co118, .int .i64 t198] 24 (0, 0)) (by (with_reducible repeat (first | refine blk_drewN ?_ _ | refine blk_drew ?_ | refine blk_alloc ?_ _)); refine blk_put (cs := #[.slice Ao118 t195.length co118, .int .i64 0]) ?_ 1 _ rfl; (with_reducible repeat (first | refine blk_drewN ?_ _ | refine blk_drew ?_ | refine blk_alloc ?_ _)); refine blk_put (cs := #[.slice none 0 0, .int .i64 0]) ?_ 0 _ rfl; (with_reducible repeat (first | refine blk_drewN ?_ _ | refine blk_drew ?_ | refine blk_alloc ?_ _)); exact BK200.out) hb); have n10_ := Aside0.mk (below_step (by repeat (first | (with_reducible first | exact HB.out | apply below_alloc | apply pw_below_drewN | apply below_drew1 | refine below_set ?_ GE156.out | refine below_set ?_ GE167.out | refine below_set ?_ GE172.out | refine below_set ?_ GE178.out | refine below_set ?_ GE200.out) | exact HB.out)) hb); clear HO_168000; clear HO_173000; clear HO_179000; clear HO193; clear HO197; clear BK156; clear BK167; clear BK172; clear BK178; clear BK200; clear HB; have HO_168000 := n0_; have HO_173000 := n1_; have HO_179000 := n2_; have HO193 := n3_; have HO197 := n4_; have BK156 := n5_; have BK167 := n6_; have BK172 := n7_; have BK178 := n8_; have BK200 := n9_; have HB := n10_; clear n0_ n1_ n2_ n3_ n4_ n5_ n6_ n7_ n8_ n9_ n10_; (try clear hb); (try clear hb2); (try clear hk); (try clear hi)))
                          go_meet
                          case rel => exact ⟨_, ((t199 != t166)), (by first | rfl | (simp; done) | (simp [*]; done)), H', ⟨by have := HJ10.out; have := HJ59.out; first | omega | exact Nat.le_refl _⟩, ⟨by (try simp only [hl173000_59]); (with_reducible repeat (first | apply Kd.R_alloc | apply Kd.R_drewN | apply Kd.R_drew)); exact Kd.R_mono HO_168000.out (fun _ hk => ⟨hk.1.1.1, ⟨hk.1.1.2, hk.2⟩⟩)⟩, ⟨by (try simp only [hl173000_59]); (with_reducible repeat (first | apply Kd.R_alloc | apply Kd.R_drewN | apply Kd.R_drew)); exact Kd.R_mono HO_173000.out (fun _ hk => ⟨hk.1.1.1, ⟨hk.1.1.2, hk.2⟩⟩)⟩, ⟨by (try simp only [hl173000_59]); (with_reducible repeat (first | apply Kd.R_alloc | apply Kd.R_drewN | apply Kd.R_drew)); exact Kd.R_mono HO_179000.out (fun _ hk => ⟨hk.1.1.1, ⟨hk.1.1.2, hk.2⟩⟩)⟩, ⟨by (try simp only [hl173000_59]); (with_reducible repeat (first | apply Kd.R_alloc | apply Kd.R_drewN | apply Kd.R_drew)); exact Kd.R_mono HO197.out (fun _ hk => ⟨hk.1.1.1.2, ⟨hk.1.1.2, hk.1.2⟩⟩)⟩, ⟨by (try simp only [hl173000_59]); (with_reducible repeat (first | refine blk_drewN ?_ _ | refine blk_drew ?_ | refine blk_alloc ?_ _)); exact BK156.out⟩, ⟨by (try simp only [hl173000_59]); (with_reducible repeat (first | refine blk_drewN ?_ _ | refine blk_drew ?_ | refine blk_alloc ?_ _)); exact BK167.out⟩, ⟨by (try simp only [hl173000_59]); (with_reducible repeat (first | refine blk_drewN ?_ _ | refine blk_drew ?_ | refine blk_alloc ?_ _)); exact BK172.out⟩, ⟨by (try simp only [hl173000_59]); (with_reducible repeat (first | refine blk_drewN ?_ _ | refine blk_drew ?_ | refine blk_alloc ?_ _)); exact BK178.out⟩, ⟨by (try simp only [hl173000_59]); (with_reducible repeat (first | refine blk_drewN ?_ _ | refine blk_drew ?_ | refine blk_alloc ?_ _)); exact BK200.out⟩, ⟨by repeat (first | (with_reducible first | exact HB.out | apply below_alloc | apply pw_below_drewN | apply below_drew1 | refine below_set ?_ GE156.out | refine below_set ?_ GE167.out | refine below_set ?_ GE172.out | refine below_set ?_ GE178.out | refine below_set ?_ GE200.out) | exact HB.out)⟩⟩
                        · replace c125 := Bool.eq_false_iff.mpr c125
                          subst c125
                          have H1 : (laws_FnExactHalveSketch.j2 kj59 t188 true t189 t176) = some r := by rw [if_neg (show ¬ (false = true) by decide)] at H; exact H
                          clear H
                          have H := H1
                          clear H1
                          have H' := Aside0.mk H
                          clear H
                          have hnb136 := NB200_156.out
                          have hnc136 := NB156_200.out
                          have hnb137 := NB200_167.out
                          have hnc137 := NB167_200.out
                          have hnb138 := NB200_172.out
                          have hnc138 := NB172_200.out
                          have hnb139 := NB200_178.out
                          have hnc139 := NB178_200.out
                          have hcz140_0 : w117.cell? ⟨gb200, 0, none⟩ = some (.slice none 0 0) := (blk_cell BK200.out 0).trans rfl
                          have hcz140_1 : w117.cell? ⟨gb200, 1, none⟩ = some (.int .i64 0) := (blk_cell BK200.out 1).trans rfl
                          have hfz140_0 := blk_frozen BK200.out 0
                          have hfz140_1 := blk_frozen BK200.out 1
                          have hnb141 := NB167_156.out
                          have hnc141 := NB156_167.out
                          have hnb142 := NB167_172.out
                          have hnc142 := NB172_167.out
                          have hnb143 := NB167_178.out
                          have hnc143 := NB178_167.out
                          have hcz144_0 : w117.cell? ⟨gb167, 0, none⟩ = some (.slice Ao20 t162.length co20) := (blk_cell BK167.out 0).trans rfl
                          have hcz144_1 : w117.cell? ⟨gb167, 1, none⟩ = some (.int .i64 t165) := (blk_cell BK167.out 1).trans rfl
                          have hfz144_0 := blk_frozen BK167.out 0
                          have hfz144_1 := blk_frozen BK167.out 1
                          go_wp2_with (first | ((with_reducible refine gate_callee (f := 13) rfl ?_); refine goesL_ (some 81) rfl rfl Try.func13 (by kernel_rfl) rfl #[.agg #[.slice Ao118 t195.length co118, .int .i64 t198], .agg #[.slice Ao20 t162.length co20, .int .i64 t165]] rfl (by (try simp only [List.map_toArray, List.map_cons, List.map_nil]); first | done | rfl | (simp only [List.length_drop, List.length_take]; rfl)) ?_; (with_reducible refine (laws_eqSketch.calls kj59 _ _ t195 t198 _ _ t162 t165 false _ ?side1 ?side2 ?side3 ?side4 A124.out).mono ?_); (case side1 => refine (Kd.R_reads' (e := 3) (base := w.heap.size) (ok := fun k_ => ((((True ∧ some k_ ≠ (.slice Ao20 t162.length co20 : Value).ownBlock) ∧ some k_ ≠ (.slice Ao26 t186.length co26 : Value).ownBlock) ∧ some k_ ≠ (.slice Ao32 t173.length co32 : Value).ownBlock) ∧ some k_ ≠ (.slice Ao115 t191.length co115 : Value).ownBlock)) (n := t195.length) (c := co118) ?_).2.2; exact (by (with_reducible repeat (first | apply Kd.R_alloc | apply Kd.R_drewN | apply Kd.R_drew)); exact (Kd.R_mono (Kd.R_far (p := ⟨gb200, 1, none⟩) (Kd.R_far (p := ⟨gb200, 0, none⟩) (Kd.R_types HO197.out BK200.out (by decide)) (fun _ hk => hk.2) (.slice Ao118 t195.length co118)) (fun _ hk => hk.2) (.int .i64 t198)) (fun _ h_ => h_.1)))); (case side2 => exact (Kd.R_reads' HO197.out).2.1); (case side3 => refine (Kd.R_reads' (e := 3) (base := w.heap.size) (ok := fun k_ => (((some k_ ≠ (.slice Ao26 t186.length co26 : Value).ownBlock ∧ some k_ ≠ (.slice Ao32 t173.length co32 : Value).ownBlock) ∧ some k_ ≠ (.slice Ao115 t191.length co115 : Value).ownBlock) ∧ some k_ ≠ (.slice Ao118 t195.length co118 : Value).ownBlock)) (n := t162.length) (c := co20) ?_).2.2; exact (by (with_reducible repeat (first | apply Kd.R_alloc | apply Kd.R_drewN | apply Kd.R_drew)); exact (Kd.R_mono (Kd.R_far (p := ⟨gb200, 1, none⟩) (Kd.R_far (p := ⟨gb200, 0, none⟩) (Kd.R_types HO_168000.out BK200.out (by decide)) (fun _ hk => hk.2) (.slice Ao118 t195.length co118)) (fun _ hk => hk.2) (.int .i64 t198)) (fun _ h_ => h_.1)))); (case side4 => exact (Kd.R_reads' HO_168000.out).2.1); rintro e w145 ⟨rfl, hb⟩; refine ⟨_, rfl, ?_⟩; have n0_ := Aside0.mk (Kd.R_below (by (with_reducible repeat (first | apply Kd.R_alloc | apply Kd.R_drewN | apply Kd.R_drew)); exact (Kd.R_mono (Kd.R_far (p := ⟨gb200, 1, none⟩) (Kd.R_far (p := ⟨gb200, 0, none⟩) (Kd.R_types HO_168000.out BK200.out (by decide)) (fun _ hk => hk.2) (.slice Ao118 t195.length co118)) (fun _ hk => hk.2) (.int .i64 t198)) (fun _ h_ => h_.1))) hb); have n1_ := Aside0.mk (Kd.R_below (by (with_reducible repeat (first | apply Kd.R_alloc | apply Kd.R_drewN | apply Kd.R_drew)); exact (Kd.R_mono (Kd.R_far (p := ⟨gb200, 1, none⟩) (Kd.R_far (p := ⟨gb200, 0, none⟩) (Kd.R_types HO_173000.out BK200.out (by decide)) (fun _ hk => hk.2) (.slice Ao118 t195.length co118)) (fun _ hk => hk.2) (.int .i64 t198)) (fun _ h_ => h_.1))) hb); have n2_ := Aside0.mk (Kd.R_below (by (with_reducible repeat (first | apply Kd.R_alloc | apply Kd.R_drewN | apply Kd.R_drew)); exact (Kd.R_mono (Kd.R_far (p := ⟨gb200, 1, none⟩) (Kd.R_far (p := ⟨gb200, 0, none⟩) (Kd.R_types HO_179000.out BK200.out (by decide)) (fun _ hk => hk.2) (.slice Ao118 t195.length co118)) (fun _ hk => hk.2) (.int .i64 t198)) (fun _ h_ => h_.1))) hb); have n3_ := Aside0.mk (Kd.R_below (by (with_reducible repeat (first | apply Kd.R_alloc | apply Kd.R_drewN | apply Kd.R_drew)); exact (Kd.R_mono (Kd.R_far (p := ⟨gb200, 1, none⟩) (Kd.R_far (p := ⟨gb200, 0, none⟩) (Kd.R_types HO193.out BK200.out (by decide)) (fun _ hk => hk.2) (.slice Ao118 t195.length co118)) (fun _ hk => hk.2) (.int .i64 t198)) (fun _ h_ => h_.1))) hb); have n4_ := Aside0.mk (Kd.R_below (by (with_reducible repeat (first | apply Kd.R_alloc | apply Kd.R_drewN | apply Kd.R_drew)); exact (Kd.R_mono (Kd.R_far (p := ⟨gb200, 1, none⟩) (Kd.R_far (p := ⟨gb200, 0, none⟩) (Kd.R_types HO197.out BK200.out (by decide)) (fun _ hk => hk.2) (.slice Ao118 t195.length co118)) (fun _ hk => hk.2) (.int .i64 t198)) (fun _ h_ => h_.1))) hb); have n5_ := Aside0.mk (blk_below (g := gb156) (o := .cells #[.slice A0_0 l0_0.length c0_0, .int .i64 a0_1] 34 (0, 0)) (by (with_reducible repeat (first | refine blk_drewN ?_ _ | refine blk_drew ?_ | refine blk_alloc ?_ _)); refine blk_far ?_ NB156_200.out _; (with_reducible repeat (first | refine blk_drewN ?_ _ | refine blk_drew ?_ | refine blk_alloc ?_ _)); refine blk_far ?_ NB156_200.out _; (with_reducible repeat (first | refine blk_drewN ?_ _ | refine blk_drew ?_ | refine blk_alloc ?_ _)); exact BK156.out) hb); have n6_ := Aside0.mk (blk_below (g := gb167) (o := .cells #[.slice Ao20 t162.length co20, .int .i64 t165] 24 (0, 0)) (by (with_reducible repeat (first | refine blk_drewN ?_ _ | refine blk_drew ?_ | refine blk_alloc ?_ _)); refine blk_far ?_ NB167_200.out _; (with_reducible repeat (first | refine blk_drewN ?_ _ | refine blk_drew ?_ | refine blk_alloc ?_ _)); refine blk_far ?_ NB167_200.out _; (with_reducible repeat (first | refine blk_drewN ?_ _ | refine blk_drew ?_ | refine blk_alloc ?_ _)); exact BK167.out) hb); have n7_ := Aside0.mk (blk_below (g := gb172) (o := .cells #[.slice Ao26 t186.length co26, .int .i64 t171] 24 (0, 0)) (by (with_reducible repeat (first | refine blk_drewN ?_ _ | refine blk_drew ?_ | refine blk_alloc ?_ _)); refine blk_far ?_ NB172_200.out _; (with_reducible repeat (first | refine blk_drewN ?_ _ | refine blk_drew ?_ | refine blk_alloc ?_ _)); refine blk_far ?_ NB172_200.out _; (with_reducible repeat (first | refine blk_drewN ?_ _ | refine blk_drew ?_ | refine blk_alloc ?_ _)); exact BK172.out) hb); have n8_ := Aside0.mk (blk_below (g := gb178) (o := .cells #[.slice Ao32 t173.length co32, .int .i64 t176] 24 (0, 0)) (by (with_reducible repeat (first | refine blk_drewN ?_ _ | refine blk_drew ?_ | refine blk_alloc ?_ _)); refine blk_far ?_ NB178_200.out _; (with_reducible repeat (first | refine blk_drewN ?_ _ | refine blk_drew ?_ | refine blk_alloc ?_ _)); refine blk_far ?_ NB178_200.out _; (with_reducible repeat (first | refine blk_drewN ?_ _ | refine blk_drew ?_ | refine blk_alloc ?_ _)); exact BK178.out) hb); have n9_ := Aside0.mk (blk_below (g := gb200) (o := .cells #[.slice Ao118 t195.length co118, .int .i64 t198] 24 (0, 0)) (by (with_reducible repeat (first | refine blk_drewN ?_ _ | refine blk_drew ?_ | refine blk_alloc ?_ _)); refine blk_put (cs := #[.slice Ao118 t195.length co118, .int .i64 0]) ?_ 1 _ rfl; (with_reducible repeat (first | refine blk_drewN ?_ _ | refine blk_drew ?_ | refine blk_alloc ?_ _)); refine blk_put (cs := #[.slice none 0 0, .int .i64 0]) ?_ 0 _ rfl; (with_reducible repeat (first | refine blk_drewN ?_ _ | refine blk_drew ?_ | refine blk_alloc ?_ _)); exact BK200.out) hb); have n10_ := Aside0.mk (below_step (by repeat (first | (with_reducible first | exact HB.out | apply below_alloc | apply pw_below_drewN | apply below_drew1 | refine below_set ?_ GE156.out | refine below_set ?_ GE167.out | refine below_set ?_ GE172.out | refine below_set ?_ GE178.out | refine below_set ?_ GE200.out) | exact HB.out)) hb); clear HO_168000; clear HO_173000; clear HO_179000; clear HO193; clear HO197; clear BK156; clear BK167; clear BK172; clear BK178; clear BK200; clear HB; have HO_168000 := n0_; have HO_173000 := n1_; have HO_179000 := n2_; have HO193 := n3_; have HO197 := n4_; have BK156 := n5_; have BK167 := n6_; have BK172 := n7_; have BK178 := n8_; have BK200 := n9_; have HB := n10_; clear n0_ n1_ n2_ n3_ n4_ n5_ n6_ n7_ n8_ n9_ n10_; (try clear hb); (try clear hb2); (try clear hk); (try clear hi)))
                          go_meet
                          case rel => exact ⟨_, (true), (by first | rfl | (simp; done) | (simp [*]; done)), H', ⟨by have := HJ10.out; have := HJ59.out; first | omega | exact Nat.le_refl _⟩, ⟨by (try simp only [hl173000_59]); (with_reducible repeat (first | apply Kd.R_alloc | apply Kd.R_drewN | apply Kd.R_drew)); exact Kd.R_mono HO_168000.out (fun _ hk => ⟨hk.1.1.1, ⟨hk.1.1.2, hk.2⟩⟩)⟩, ⟨by (try simp only [hl173000_59]); (with_reducible repeat (first | apply Kd.R_alloc | apply Kd.R_drewN | apply Kd.R_drew)); exact Kd.R_mono HO_173000.out (fun _ hk => ⟨hk.1.1.1, ⟨hk.1.1.2, hk.2⟩⟩)⟩, ⟨by (try simp only [hl173000_59]); (with_reducible repeat (first | apply Kd.R_alloc | apply Kd.R_drewN | apply Kd.R_drew)); exact Kd.R_mono HO_179000.out (fun _ hk => ⟨hk.1.1.1, ⟨hk.1.1.2, hk.2⟩⟩)⟩, ⟨by (try simp only [hl173000_59]); (with_reducible repeat (first | apply Kd.R_alloc | apply Kd.R_drewN | apply Kd.R_drew)); exact Kd.R_mono HO197.out (fun _ hk => ⟨hk.1.1.1.2, ⟨hk.1.1.2, hk.1.2⟩⟩)⟩, ⟨by (try simp only [hl173000_59]); (with_reducible repeat (first | refine blk_drewN ?_ _ | refine blk_drew ?_ | refine blk_alloc ?_ _)); exact BK156.out⟩, ⟨by (try simp only [hl173000_59]); (with_reducible repeat (first | refine blk_drewN ?_ _ | refine blk_drew ?_ | refine blk_alloc ?_ _)); exact BK167.out⟩, ⟨by (try simp only [hl173000_59]); (with_reducible repeat (first | refine blk_drewN ?_ _ | refine blk_drew ?_ | refine blk_alloc ?_ _)); exact BK172.out⟩, ⟨by (try simp only [hl173000_59]); (with_reducible repeat (first | refine blk_drewN ?_ _ | refine blk_drew ?_ | refine blk_alloc ?_ _)); exact BK178.out⟩, ⟨by (try simp only [hl173000_59]); (with_reducible repeat (first | refine blk_drewN ?_ _ | refine blk_drew ?_ | refine blk_alloc ?_ _)); exact BK200.out⟩, ⟨by repeat (first | (with_reducible first | exact HB.out | apply below_alloc | apply pw_below_drewN | apply below_drew1 | refine below_set ?_ GE156.out | refine below_set ?_ GE167.out | refine below_set ?_ GE172.out | refine below_set ?_ GE178.out | refine below_set ?_ GE200.out) | exact HB.out)⟩⟩
                      case rest =>
                        clear HC103
                        try clear c1
                        try clear c2
                        try clear p2
                        try clear c3
                        try clear c3b0
                        try clear c4
                        try clear c5
                        try clear c6
                        try clear c7
                        try clear c8
                        try clear c9
                        try clear c10
                        try clear c11
                        try clear c12
                        try clear c13
                        try clear c14
                        try clear c15
                        try clear c21
                        try clear c23
                        try clear c27
                        try clear c28
                        try clear c31
                        try clear c32
                        try clear c33
                        try clear c34
                        try clear c35
                        try clear c38
                        try clear c39
                        try clear c40
                        try clear c41
                        try clear c43
                        try clear c44
                        try clear c47
                        try clear c48
                        try clear c49
                        try clear c51
                        try clear c52
                        try clear c55
                        try clear c58
                        try clear c65
                        try clear c66
                        try clear c67
                        try clear c70
                        try clear c70b0
                        try clear c72
                        try clear c73
                        try clear c74
                        try clear c75
                        try clear c77
                        try clear c78
                        try clear c81
                        try clear c82
                        try clear c83
                        try clear c85
                        try clear c86
                        try clear c89
                        try clear c92
                        try clear c92b0
                        try clear c93
                        try clear c94
                        try clear c95
                        try clear c100
                        try clear c100b0
                        try clear c100b1
                        try clear c104
                        try clear c105
                        try clear c106
                        try clear c111
                        try clear c112
                        try clear c119
                        try clear c120
                        try clear c121
                        try clear c122
                        try clear c125
                        try clear c126
                        try clear c127
                        try clear c128
                        try clear c129
                        try clear c131
                        try clear c132
                        try clear c133
                        try clear c136
                        try clear c137
                        try clear c138
                        try clear c139
                        try clear c141
                        try clear c142
                        try clear c143
                        try clear hcz107_0
                        try clear hcz107_1
                        try clear hcz109_0
                        try clear hcz109_1
                        try clear hcz113_0
                        try clear hcz113_1
                        try clear hcz123_0
                        try clear hcz123_1
                        try clear hcz130_0
                        try clear hcz130_1
                        try clear hcz134_0
                        try clear hcz134_1
                        try clear hcz13_0
                        try clear hcz13_1
                        try clear hcz140_0
                        try clear hcz140_1
                        try clear hcz144_0
                        try clear hcz144_1
                        try clear hcz15_0
                        try clear hcz15_1
                        try clear hcz22_0
                        try clear hcz22_1
                        try clear hcz23_0
                        try clear hcz23_1
                        try clear hcz29_0
                        try clear hcz29_1
                        try clear hcz36_0
                        try clear hcz36_1
                        try clear hcz42_0
                        try clear hcz42_1
                        try clear hcz45_0
                        try clear hcz45_1
                        try clear hcz50_0
                        try clear hcz50_1
                        try clear hcz53_0
                        try clear hcz53_1
                        try clear hcz5_0
                        try clear hcz5_1
                        try clear hcz68_0
                        try clear hcz68_1
                        try clear hcz76_0
                        try clear hcz76_1
                        try clear hcz79_0
                        try clear hcz79_1
                        try clear hcz84_0
                        try clear hcz84_1
                        try clear hcz87_0
                        try clear hcz87_1
                        try clear hcz96_0
                        try clear hcz96_1
                        try clear hcz98_0
                        try clear hcz98_1
                        try clear hfz107_0
                        try clear hfz107_1
                        try clear hfz109_0
                        try clear hfz109_1
                        try clear hfz113_0
                        try clear hfz113_1
                        try clear hfz123_0
                        try clear hfz123_1
                        try clear hfz130_0
                        try clear hfz130_1
                        try clear hfz134_0
                        try clear hfz134_1
                        try clear hfz13_0
                        try clear hfz13_1
                        try clear hfz140_0
                        try clear hfz140_1
                        try clear hfz144_0
                        try clear hfz144_1
                        try clear hfz15_0
                        try clear hfz15_1
                        try clear hfz22_0
                        try clear hfz22_1
                        try clear hfz23_0
                        try clear hfz23_1
                        try clear hfz29_0
                        try clear hfz29_1
                        try clear hfz36_0
                        try clear hfz36_1
                        try clear hfz42_0
                        try clear hfz42_1
                        try clear hfz45_0
                        try clear hfz45_1
                        try clear hfz50_0
                        try clear hfz50_1
                        try clear hfz53_0
                        try clear hfz53_1
                        try clear hfz5_0
                        try clear hfz5_1
                        try clear hfz68_0
                        try clear hfz68_1
                        try clear hfz76_0
                        try clear hfz76_1
                        try clear hfz79_0
                        try clear hfz79_1
                        try clear hfz84_0
                        try clear hfz84_1
                        try clear hfz87_0
                        try clear hfz87_1
                        try clear hfz96_0
                        try clear hfz96_1
                        try clear hfz98_0
                        try clear hfz98_1
                        try clear p2
                        obtain ⟨kq, x87_102, rfl, HA, HJ102, HO_168000, HO_173000, HO_179000, HO_201000, BK156, BK167, BK172, BK178, BK200, HB⟩ := hcut
                        have hl179000_102 := (Kd.R_reads' HO_179000.out).1
                        rw [hl179000_102] at HO_179000
                        (try simp only [hl179000_102])
                        (try simp only [hl179000_102] at BK156)
                        (try simp only [hl179000_102] at BK167)
                        (try simp only [hl179000_102] at BK172)
                        (try simp only [hl179000_102] at BK178)
                        (try simp only [hl179000_102] at BK200)
                        (try simp only [hl179000_102] at HO_168000)
                        (try simp only [hl179000_102] at HO_173000)
                        (try simp only [hl179000_102] at HO_201000)
                        cases kq with
                        | zero => exact absurd HA.out (by simp [laws_FnExactHalveSketch.j2])
                        | succ kj102 =>
                          have H := HA.out
                          clear HA
                          simp only [laws_FnExactHalveSketch.j2] at H
                          by_cases c146 : x87_102 = true
                          · subst c146
                            have H1 : (some false) = some r := by rw [if_pos rfl] at H; exact H
                            clear H
                            have H := H1
                            clear H1
                            obtain rfl := Option.some.inj H
                            go_wp2
                            go_ret
                            exact ⟨by first | rfl | (simp [errW_none, errW_some] <;> rfl) | (simp [*, errW_none, errW_some] <;> rfl), by repeat (first | (with_reducible first | exact HB.out | apply below_alloc | apply pw_below_drewN | apply below_drew1 | refine below_set ?_ GE156.out | refine below_set ?_ GE167.out | refine below_set ?_ GE172.out | refine below_set ?_ GE178.out | refine below_set ?_ GE200.out) | exact HB.out)⟩
                          · replace c146 := Bool.eq_false_iff.mpr c146
                            subst c146
                            have H1 : ((laws_heldSketch.f kj102 t189 t176 1).bind fun t202 => (if t202 < 0 then (some false) else (if t202 = t188 then (some true) else (some false)))) = some r := by rw [if_neg (show ¬ (false = true) by decide)] at H; exact H
                            clear H
                            have H := H1
                            clear H1
                            replace H := Option.bind_eq_some_iff.mp H
                            obtain ⟨t202, A1470, H⟩ := H
                            replace H : (if t202 < 0 then (some false) else (if t202 = t188 then (some true) else (some false))) = some r := H
                            have A147 := Aside0.mk A1470
                            clear A1470
                            by_cases c148 : t202 < 0
                            · rw [if_pos c148] at H
                              have c148b0 : decide (t202 < 0) = true := decide_eq_true c148
                              clear c148
                              obtain rfl := Option.some.inj H
                              have hnb149 := NB178_156.out
                              have hnc149 := NB156_178.out
                              have hnb150 := NB178_167.out
                              have hnc150 := NB167_178.out
                              have hnb151 := NB178_172.out
                              have hnc151 := NB172_178.out
                              have hnb152 := NB178_200.out
                              have hnc152 := NB200_178.out
                              have hcz153_0 : wc.cell? ⟨gb178, 0, none⟩ = some (.slice Ao32 t189.length co32) := (blk_cell BK178.out 0).trans rfl
                              have hcz153_1 : wc.cell? ⟨gb178, 1, none⟩ = some (.int .i64 t176) := (blk_cell BK178.out 1).trans rfl
                              have hfz153_0 := blk_frozen BK178.out 0
                              have hfz153_1 := blk_frozen BK178.out 1
                              go_wp2_with (first | ((with_reducible refine gate_callee (f := 15) rfl ?_); refine goesL_ (some 90) rfl rfl Try.func15 (by kernel_rfl) rfl #[.agg #[.slice Ao32 t189.length co32, .int .i64 t176], .int .i64 1] rfl (by (try simp only [List.map_toArray, List.map_cons, List.map_nil]); first | done | rfl | (simp only [List.length_drop, List.length_take]; rfl)) ?_; (with_reducible refine (laws_heldSketch.calls kj102 _ _ t189 t176 1 t202 _ ?side1 ?side2 A147.out).mono ?_); (case side1 => repeat (first | exact (Kd.R_reads' HO_179000.out).2.2 | (with_reducible refine Kd.C_alloc ?_ _) | (with_reducible refine Kd.C_drewN ?_ _) | (with_reducible refine Kd.C_drew ?_))); (case side2 => exact (Kd.R_reads' HO_179000.out).2.1); rintro e w154 ⟨rfl, hb⟩; refine ⟨_, rfl, ?_⟩; have n0_ := Aside0.mk (Kd.R_below (by (with_reducible repeat (first | apply Kd.R_alloc | apply Kd.R_drewN | apply Kd.R_drew)); exact HO_168000.out) hb); have n1_ := Aside0.mk (Kd.R_below (by (with_reducible repeat (first | apply Kd.R_alloc | apply Kd.R_drewN | apply Kd.R_drew)); exact HO_173000.out) hb); have n2_ := Aside0.mk (Kd.R_below (by (with_reducible repeat (first | apply Kd.R_alloc | apply Kd.R_drewN | apply Kd.R_drew)); exact HO_179000.out) hb); have n3_ := Aside0.mk (Kd.R_below (by (with_reducible repeat (first | apply Kd.R_alloc | apply Kd.R_drewN | apply Kd.R_drew)); exact HO_201000.out) hb); have n4_ := Aside0.mk (blk_below (g := gb156) (o := .cells #[.slice A0_0 l0_0.length c0_0, .int .i64 a0_1] 34 (0, 0)) (by (with_reducible repeat (first | refine blk_drewN ?_ _ | refine blk_drew ?_ | refine blk_alloc ?_ _)); exact BK156.out) hb); have n5_ := Aside0.mk (blk_below (g := gb167) (o := .cells #[.slice Ao20 t162.length co20, .int .i64 t165] 24 (0, 0)) (by (with_reducible repeat (first | refine blk_drewN ?_ _ | refine blk_drew ?_ | refine blk_alloc ?_ _)); exact BK167.out) hb); have n6_ := Aside0.mk (blk_below (g := gb172) (o := .cells #[.slice Ao26 t186.length co26, .int .i64 t171] 24 (0, 0)) (by (with_reducible repeat (first | refine blk_drewN ?_ _ | refine blk_drew ?_ | refine blk_alloc ?_ _)); exact BK172.out) hb); have n7_ := Aside0.mk (blk_below (g := gb178) (o := .cells #[.slice Ao32 t189.length co32, .int .i64 t176] 24 (0, 0)) (by (with_reducible repeat (first | refine blk_drewN ?_ _ | refine blk_drew ?_ | refine blk_alloc ?_ _)); exact BK178.out) hb); have n8_ := Aside0.mk (blk_below (g := gb200) (o := .cells #[.slice Ao118 t195.length co118, .int .i64 t198] 24 (0, 0)) (by (with_reducible repeat (first | refine blk_drewN ?_ _ | refine blk_drew ?_ | refine blk_alloc ?_ _)); exact BK200.out) hb); have n9_ := Aside0.mk (below_step (by repeat (first | (with_reducible first | exact HB.out | apply below_alloc | apply pw_below_drewN | apply below_drew1 | refine below_set ?_ GE156.out | refine below_set ?_ GE167.out | refine below_set ?_ GE172.out | refine below_set ?_ GE178.out | refine below_set ?_ GE200.out) | exact HB.out)) hb); clear HO_168000; clear HO_173000; clear HO_179000; clear HO_201000; clear BK156; clear BK167; clear BK172; clear BK178; clear BK200; clear HB; have HO_168000 := n0_; have HO_173000 := n1_; have HO_179000 := n2_; have HO_201000 := n3_; have BK156 := n4_; have BK167 := n5_; have BK172 := n6_; have BK178 := n7_; have BK200 := n8_; have HB := n9_; clear n0_ n1_ n2_ n3_ n4_ n5_ n6_ n7_ n8_ n9_; (try clear hb); (try clear hb2); (try clear hk); (try clear hi)))
                              go_ret
                              exact ⟨by first | rfl | (simp [errW_none, errW_some] <;> rfl) | (simp [*, errW_none, errW_some] <;> rfl), by repeat (first | (with_reducible first | exact HB.out | apply below_alloc | apply pw_below_drewN | apply below_drew1 | refine below_set ?_ GE156.out | refine below_set ?_ GE167.out | refine below_set ?_ GE172.out | refine below_set ?_ GE178.out | refine below_set ?_ GE200.out) | exact HB.out)⟩
                            · rw [if_neg c148] at H
                              have c148b0 : decide (t202 < 0) = false := decide_eq_false c148
                              clear c148
                              by_cases c155 : t202 = t188
                              · rw [if_pos c155] at H
                                have c155b0 : (t202 == t188) = true := beq_iff_eq.mpr c155
                                have c155b1 : (t202 != t188) = false := bne_eq_false_iff_eq.mpr c155
                                clear c155
                                obtain rfl := Option.some.inj H
                                have hnb156 := NB178_156.out
                                have hnc156 := NB156_178.out
                                have hnb157 := NB178_167.out
                                have hnc157 := NB167_178.out
                                have hnb158 := NB178_172.out
                                have hnc158 := NB172_178.out
                                have hnb159 := NB178_200.out
                                have hnc159 := NB200_178.out
                                have hcz160_0 : wc.cell? ⟨gb178, 0, none⟩ = some (.slice Ao32 t189.length co32) := (blk_cell BK178.out 0).trans rfl
                                have hcz160_1 : wc.cell? ⟨gb178, 1, none⟩ = some (.int .i64 t176) := (blk_cell BK178.out 1).trans rfl
                                have hfz160_0 := blk_frozen BK178.out 0
                                have hfz160_1 := blk_frozen BK178.out 1
                                go_wp2_with (first | ((with_reducible refine gate_callee (f := 15) rfl ?_); refine goesL_ (some 90) rfl rfl Try.func15 (by kernel_rfl) rfl #[.agg #[.slice Ao32 t189.length co32, .int .i64 t176], .int .i64 1] rfl (by (try simp only [List.map_toArray, List.map_cons, List.map_nil]); first | done | rfl | (simp only [List.length_drop, List.length_take]; rfl)) ?_; (with_reducible refine (laws_heldSketch.calls kj102 _ _ t189 t176 1 t202 _ ?side1 ?side2 A147.out).mono ?_); (case side1 => repeat (first | exact (Kd.R_reads' HO_179000.out).2.2 | (with_reducible refine Kd.C_alloc ?_ _) | (with_reducible refine Kd.C_drewN ?_ _) | (with_reducible refine Kd.C_drew ?_))); (case side2 => exact (Kd.R_reads' HO_179000.out).2.1); rintro e w161 ⟨rfl, hb⟩; refine ⟨_, rfl, ?_⟩; have n0_ := Aside0.mk (Kd.R_below (by (with_reducible repeat (first | apply Kd.R_alloc | apply Kd.R_drewN | apply Kd.R_drew)); exact HO_168000.out) hb); have n1_ := Aside0.mk (Kd.R_below (by (with_reducible repeat (first | apply Kd.R_alloc | apply Kd.R_drewN | apply Kd.R_drew)); exact HO_173000.out) hb); have n2_ := Aside0.mk (Kd.R_below (by (with_reducible repeat (first | apply Kd.R_alloc | apply Kd.R_drewN | apply Kd.R_drew)); exact HO_179000.out) hb); have n3_ := Aside0.mk (Kd.R_below (by (with_reducible repeat (first | apply Kd.R_alloc | apply Kd.R_drewN | apply Kd.R_drew)); exact HO_201000.out) hb); have n4_ := Aside0.mk (blk_below (g := gb156) (o := .cells #[.slice A0_0 l0_0.length c0_0, .int .i64 a0_1] 34 (0, 0)) (by (with_reducible repeat (first | refine blk_drewN ?_ _ | refine blk_drew ?_ | refine blk_alloc ?_ _)); exact BK156.out) hb); have n5_ := Aside0.mk (blk_below (g := gb167) (o := .cells #[.slice Ao20 t162.length co20, .int .i64 t165] 24 (0, 0)) (by (with_reducible repeat (first | refine blk_drewN ?_ _ | refine blk_drew ?_ | refine blk_alloc ?_ _)); exact BK167.out) hb); have n6_ := Aside0.mk (blk_below (g := gb172) (o := .cells #[.slice Ao26 t186.length co26, .int .i64 t171] 24 (0, 0)) (by (with_reducible repeat (first | refine blk_drewN ?_ _ | refine blk_drew ?_ | refine blk_alloc ?_ _)); exact BK172.out) hb); have n7_ := Aside0.mk (blk_below (g := gb178) (o := .cells #[.slice Ao32 t189.length co32, .int .i64 t176] 24 (0, 0)) (by (with_reducible repeat (first | refine blk_drewN ?_ _ | refine blk_drew ?_ | refine blk_alloc ?_ _)); exact BK178.out) hb); have n8_ := Aside0.mk (blk_below (g := gb200) (o := .cells #[.slice Ao118 t195.length co118, .int .i64 t198] 24 (0, 0)) (by (with_reducible repeat (first | refine blk_drewN ?_ _ | refine blk_drew ?_ | refine blk_alloc ?_ _)); exact BK200.out) hb); have n9_ := Aside0.mk (below_step (by repeat (first | (with_reducible first | exact HB.out | apply below_alloc | apply pw_below_drewN | apply below_drew1 | refine below_set ?_ GE156.out | refine below_set ?_ GE167.out | refine below_set ?_ GE172.out | refine below_set ?_ GE178.out | refine below_set ?_ GE200.out) | exact HB.out)) hb); clear HO_168000; clear HO_173000; clear HO_179000; clear HO_201000; clear BK156; clear BK167; clear BK172; clear BK178; clear BK200; clear HB; have HO_168000 := n0_; have HO_173000 := n1_; have HO_179000 := n2_; have HO_201000 := n3_; have BK156 := n4_; have BK167 := n5_; have BK172 := n6_; have BK178 := n7_; have BK200 := n8_; have HB := n9_; clear n0_ n1_ n2_ n3_ n4_ n5_ n6_ n7_ n8_ n9_; (try clear hb); (try clear hb2); (try clear hk); (try clear hi)))
                                go_ret
                                exact ⟨by first | rfl | (simp [errW_none, errW_some] <;> rfl) | (simp [*, errW_none, errW_some] <;> rfl), by repeat (first | (with_reducible first | exact HB.out | apply below_alloc | apply pw_below_drewN | apply below_drew1 | refine below_set ?_ GE156.out | refine below_set ?_ GE167.out | refine below_set ?_ GE172.out | refine below_set ?_ GE178.out | refine below_set ?_ GE200.out) | exact HB.out)⟩
                              · rw [if_neg c155] at H
                                have c155b0 : (t202 == t188) = false := beq_eq_false_iff_ne.mpr c155
                                have c155b1 : (t202 != t188) = true := bne_iff_ne.mpr c155
                                obtain rfl := Option.some.inj H
                                have hnb162 := NB178_156.out
                                have hnc162 := NB156_178.out
                                have hnb163 := NB178_167.out
                                have hnc163 := NB167_178.out
                                have hnb164 := NB178_172.out
                                have hnc164 := NB172_178.out
                                have hnb165 := NB178_200.out
                                have hnc165 := NB200_178.out
                                have hcz166_0 : wc.cell? ⟨gb178, 0, none⟩ = some (.slice Ao32 t189.length co32) := (blk_cell BK178.out 0).trans rfl
                                have hcz166_1 : wc.cell? ⟨gb178, 1, none⟩ = some (.int .i64 t176) := (blk_cell BK178.out 1).trans rfl
                                have hfz166_0 := blk_frozen BK178.out 0
                                have hfz166_1 := blk_frozen BK178.out 1
                                go_wp2_with (first | ((with_reducible refine gate_callee (f := 15) rfl ?_); refine goesL_ (some 90) rfl rfl Try.func15 (by kernel_rfl) rfl #[.agg #[.slice Ao32 t189.length co32, .int .i64 t176], .int .i64 1] rfl (by (try simp only [List.map_toArray, List.map_cons, List.map_nil]); first | done | rfl | (simp only [List.length_drop, List.length_take]; rfl)) ?_; (with_reducible refine (laws_heldSketch.calls kj102 _ _ t189 t176 1 t202 _ ?side1 ?side2 A147.out).mono ?_); (case side1 => repeat (first | exact (Kd.R_reads' HO_179000.out).2.2 | (with_reducible refine Kd.C_alloc ?_ _) | (with_reducible refine Kd.C_drewN ?_ _) | (with_reducible refine Kd.C_drew ?_))); (case side2 => exact (Kd.R_reads' HO_179000.out).2.1); rintro e w167 ⟨rfl, hb⟩; refine ⟨_, rfl, ?_⟩; have n0_ := Aside0.mk (Kd.R_below (by (with_reducible repeat (first | apply Kd.R_alloc | apply Kd.R_drewN | apply Kd.R_drew)); exact HO_168000.out) hb); have n1_ := Aside0.mk (Kd.R_below (by (with_reducible repeat (first | apply Kd.R_alloc | apply Kd.R_drewN | apply Kd.R_drew)); exact HO_173000.out) hb); have n2_ := Aside0.mk (Kd.R_below (by (with_reducible repeat (first | apply Kd.R_alloc | apply Kd.R_drewN | apply Kd.R_drew)); exact HO_179000.out) hb); have n3_ := Aside0.mk (Kd.R_below (by (with_reducible repeat (first | apply Kd.R_alloc | apply Kd.R_drewN | apply Kd.R_drew)); exact HO_201000.out) hb); have n4_ := Aside0.mk (blk_below (g := gb156) (o := .cells #[.slice A0_0 l0_0.length c0_0, .int .i64 a0_1] 34 (0, 0)) (by (with_reducible repeat (first | refine blk_drewN ?_ _ | refine blk_drew ?_ | refine blk_alloc ?_ _)); exact BK156.out) hb); have n5_ := Aside0.mk (blk_below (g := gb167) (o := .cells #[.slice Ao20 t162.length co20, .int .i64 t165] 24 (0, 0)) (by (with_reducible repeat (first | refine blk_drewN ?_ _ | refine blk_drew ?_ | refine blk_alloc ?_ _)); exact BK167.out) hb); have n6_ := Aside0.mk (blk_below (g := gb172) (o := .cells #[.slice Ao26 t186.length co26, .int .i64 t171] 24 (0, 0)) (by (with_reducible repeat (first | refine blk_drewN ?_ _ | refine blk_drew ?_ | refine blk_alloc ?_ _)); exact BK172.out) hb); have n7_ := Aside0.mk (blk_below (g := gb178) (o := .cells #[.slice Ao32 t189.length co32, .int .i64 t176] 24 (0, 0)) (by (with_reducible repeat (first | refine blk_drewN ?_ _ | refine blk_drew ?_ | refine blk_alloc ?_ _)); exact BK178.out) hb); have n8_ := Aside0.mk (blk_below (g := gb200) (o := .cells #[.slice Ao118 t195.length co118, .int .i64 t198] 24 (0, 0)) (by (with_reducible repeat (first | refine blk_drewN ?_ _ | refine blk_drew ?_ | refine blk_alloc ?_ _)); exact BK200.out) hb); have n9_ := Aside0.mk (below_step (by repeat (first | (with_reducible first | exact HB.out | apply below_alloc | apply pw_below_drewN | apply below_drew1 | refine below_set ?_ GE156.out | refine below_set ?_ GE167.out | refine below_set ?_ GE172.out | refine below_set ?_ GE178.out | refine below_set ?_ GE200.out) | exact HB.out)) hb); clear HO_168000; clear HO_173000; clear HO_179000; clear HO_201000; clear BK156; clear BK167; clear BK172; clear BK178; clear BK200; clear HB; have HO_168000 := n0_; have HO_173000 := n1_; have HO_179000 := n2_; have HO_201000 := n3_; have BK156 := n4_; have BK167 := n5_; have BK172 := n6_; have BK178 := n7_; have BK200 := n8_; have HB := n9_; clear n0_ n1_ n2_ n3_ n4_ n5_ n6_ n7_ n8_ n9_; (try clear hb); (try clear hb2); (try clear hk); (try clear hi)))
                                go_ret
                                exact ⟨by first | rfl | (simp [errW_none, errW_some] <;> rfl) | (simp [*, errW_none, errW_some] <;> rfl), by repeat (first | (with_reducible first | exact HB.out | apply below_alloc | apply pw_below_drewN | apply below_drew1 | refine below_set ?_ GE156.out | refine below_set ?_ GE167.out | refine below_set ?_ GE172.out | refine below_set ?_ GE178.out | refine below_set ?_ GE200.out) | exact HB.out)⟩
                    · rw [if_neg c100] at H
                      have c100b0 : (t190 == t188) = false := beq_eq_false_iff_ne.mpr c100
                      have c100b1 : (t190 != t188) = true := bne_iff_ne.mpr c100
                      obtain rfl := Option.some.inj H
                      have hnb168 := NB178_156.out
                      have hnc168 := NB156_178.out
                      have hnb169 := NB178_167.out
                      have hnc169 := NB167_178.out
                      have hnb170 := NB178_172.out
                      have hnc170 := NB172_178.out
                      have hcz171_0 : wc.cell? ⟨gb178, 0, none⟩ = some (.slice Ao32 t173.length co32) := (blk_cell BK178.out 0).trans rfl
                      have hcz171_1 : wc.cell? ⟨gb178, 1, none⟩ = some (.int .i64 t176) := (blk_cell BK178.out 1).trans rfl
                      have hfz171_0 := blk_frozen BK178.out 0
                      have hfz171_1 := blk_frozen BK178.out 1
                      go_wp2_with (first | ((with_reducible refine gate_callee (f := 14) rfl ?_); refine goesL_ (some 64) rfl rfl Try.func14 (by kernel_rfl) rfl #[.agg #[.slice Ao32 t173.length co32, .int .i64 t176], .int .i64 1] rfl (by (try simp only [List.map_toArray, List.map_cons, List.map_nil]); first | done | rfl | (simp only [List.length_drop, List.length_take]; rfl)) ?_; (with_reducible refine (laws_markSketch.calls kj59 (fun k_ => some k_ = (.slice Ao32 t173.length co32 : Value).ownBlock) (.slice Ao32 t173.length co32) t173 t176 1 t188 t189 w _ ?side1 ?side2 A90.out).mono ?_); (case side1 => repeat (first | (with_reducible first | exact HB.out | apply below_alloc | apply pw_below_drewN | apply below_drew1 | refine below_set ?_ GE156.out | refine below_set ?_ GE167.out | refine below_set ?_ GE172.out | refine below_set ?_ GE178.out) | exact HB.out)); (case side2 => exact Kd.R_tight rfl HO_179000.out); rintro e w172 ⟨rfl, hy0, hb, hkp⟩; refine ⟨_, rfl, ?_⟩; have n0_ := Aside0.mk (Kd.R_mono (ok' := fun k_ => some k_ ≠ (.slice Ao26 t186.length co26 : Value).ownBlock ∧ some k_ ≠ (.slice Ao32 t173.length co32 : Value).ownBlock) (Kd.R_keptB (HO_168000.out) hkp (fun k_ hk_ hs_ => (hk_.2) hs_)) (fun k_ hk_ => ⟨hk_.1.1, hk_.1.2⟩)); have n1_ := Aside0.mk (Kd.R_mono (ok' := fun k_ => some k_ ≠ (.slice Ao20 t162.length co20 : Value).ownBlock ∧ some k_ ≠ (.slice Ao32 t173.length co32 : Value).ownBlock) (Kd.R_keptB (HO_173000.out) hkp (fun k_ hk_ hs_ => (hk_.2) hs_)) (fun k_ hk_ => ⟨hk_.1.1, hk_.1.2⟩)); have n2_ := Aside0.mk (Kd.R_reok rfl hy0 (fun k_ e_ => HO_179000.out.1 k_ e_)); have n3_ := Aside0.mk (blk_kept (by (with_reducible repeat (first | refine blk_drewN ?_ _ | refine blk_drew ?_ | refine blk_alloc ?_ _)); exact BK156.out) hkp (fun hs_ => (fun e_ => (Kd.R_ne HO_179000.out BK156.out (by decide)) e_) hs_)); have n4_ := Aside0.mk (blk_kept (by (with_reducible repeat (first | refine blk_drewN ?_ _ | refine blk_drew ?_ | refine blk_alloc ?_ _)); exact BK167.out) hkp (fun hs_ => (fun e_ => (Kd.R_ne HO_179000.out BK167.out (by decide)) e_) hs_)); have n5_ := Aside0.mk (blk_kept (by (with_reducible repeat (first | refine blk_drewN ?_ _ | refine blk_drew ?_ | refine blk_alloc ?_ _)); exact BK172.out) hkp (fun hs_ => (fun e_ => (Kd.R_ne HO_179000.out BK172.out (by decide)) e_) hs_)); have n6_ := Aside0.mk (blk_kept (by (with_reducible repeat (first | refine blk_drewN ?_ _ | refine blk_drew ?_ | refine blk_alloc ?_ _)); exact BK178.out) hkp (fun hs_ => (fun e_ => (Kd.R_ne HO_179000.out BK178.out (by decide)) e_) hs_)); have n7_ := Aside0.mk (hb); clear HO_168000; clear HO_173000; clear HO_179000; clear BK156; clear BK167; clear BK172; clear BK178; clear HB; have HO_168000 := n0_; have HO_173000 := n1_; have HO_179000 := n2_; have BK156 := n3_; have BK167 := n4_; have BK172 := n5_; have BK178 := n6_; have HB := n7_; clear n0_ n1_ n2_ n3_ n4_ n5_ n6_ n7_; (try clear hb); (try clear hkp); (try clear hy0); have hcz173_0 : w172.cell? ⟨gb178, 0, none⟩ = some (.slice Ao32 t173.length co32) := (blk_cell BK178.out 0).trans rfl; have hcz173_1 : w172.cell? ⟨gb178, 1, none⟩ = some (.int .i64 t176) := (blk_cell BK178.out 1).trans rfl; have hfz173_0 := blk_frozen BK178.out 0; have hfz173_1 := blk_frozen BK178.out 1) | ((with_reducible refine gate_callee (f := 15) rfl ?_); refine goesL_ (some 67) rfl rfl Try.func15 (by kernel_rfl) rfl #[.agg #[.slice Ao32 t189.length co32, .int .i64 t176], .int .i64 1] rfl (by (try simp only [List.map_toArray, List.map_cons, List.map_nil]); first | done | (rw [show t189.length = t173.length from (Kd.R_reads' HO_179000.out).1.symm] <;> rfl) | rfl | (simp only [List.length_drop, List.length_take]; rfl)) ?_; (with_reducible refine (laws_heldSketch.calls kj59 _ _ t189 t176 1 t190 _ ?side1 ?side2 A91.out).mono ?_); (case side1 => repeat (first | exact (Kd.R_reads' HO_179000.out).2.2 | (with_reducible refine Kd.C_alloc ?_ _) | (with_reducible refine Kd.C_drewN ?_ _) | (with_reducible refine Kd.C_drew ?_))); (case side2 => rw [show t189.length = t173.length from (Kd.R_reads' HO_179000.out).1.symm]; exact (Kd.R_reads' HO_179000.out).2.1); rintro e w174 ⟨rfl, hb⟩; refine ⟨_, rfl, ?_⟩; have n0_ := Aside0.mk (Kd.R_below (by (with_reducible repeat (first | apply Kd.R_alloc | apply Kd.R_drewN | apply Kd.R_drew)); exact HO_168000.out) hb); have n1_ := Aside0.mk (Kd.R_below (by (with_reducible repeat (first | apply Kd.R_alloc | apply Kd.R_drewN | apply Kd.R_drew)); exact HO_173000.out) hb); have n2_ := Aside0.mk (Kd.R_below (by (with_reducible repeat (first | apply Kd.R_alloc | apply Kd.R_drewN | apply Kd.R_drew)); exact HO_179000.out) hb); have n3_ := Aside0.mk (blk_below (g := gb156) (o := .cells #[.slice A0_0 l0_0.length c0_0, .int .i64 a0_1] 34 (0, 0)) (by (with_reducible repeat (first | refine blk_drewN ?_ _ | refine blk_drew ?_ | refine blk_alloc ?_ _)); exact BK156.out) hb); have n4_ := Aside0.mk (blk_below (g := gb167) (o := .cells #[.slice Ao20 t162.length co20, .int .i64 t165] 24 (0, 0)) (by (with_reducible repeat (first | refine blk_drewN ?_ _ | refine blk_drew ?_ | refine blk_alloc ?_ _)); exact BK167.out) hb); have n5_ := Aside0.mk (blk_below (g := gb172) (o := .cells #[.slice Ao26 t186.length co26, .int .i64 t171] 24 (0, 0)) (by (with_reducible repeat (first | refine blk_drewN ?_ _ | refine blk_drew ?_ | refine blk_alloc ?_ _)); exact BK172.out) hb); have n6_ := Aside0.mk (blk_below (g := gb178) (o := .cells #[.slice Ao32 t173.length co32, .int .i64 t176] 24 (0, 0)) (by (with_reducible repeat (first | refine blk_drewN ?_ _ | refine blk_drew ?_ | refine blk_alloc ?_ _)); exact BK178.out) hb); have n7_ := Aside0.mk (below_step (by repeat (first | (with_reducible first | exact HB.out | apply below_alloc | apply pw_below_drewN | apply below_drew1 | refine below_set ?_ GE156.out | refine below_set ?_ GE167.out | refine below_set ?_ GE172.out | refine below_set ?_ GE178.out) | exact HB.out)) hb); clear HO_168000; clear HO_173000; clear HO_179000; clear BK156; clear BK167; clear BK172; clear BK178; clear HB; have HO_168000 := n0_; have HO_173000 := n1_; have HO_179000 := n2_; have BK156 := n3_; have BK167 := n4_; have BK172 := n5_; have BK178 := n6_; have HB := n7_; clear n0_ n1_ n2_ n3_ n4_ n5_ n6_ n7_; (try clear hb); (try clear hb2); (try clear hk); (try clear hi)))
                      go_ret
                      exact ⟨by first | rfl | (simp [errW_none, errW_some] <;> rfl) | (simp [*, errW_none, errW_some] <;> rfl), by repeat (first | (with_reducible first | exact HB.out | apply below_alloc | apply pw_below_drewN | apply below_drew1 | refine below_set ?_ GE156.out | refine below_set ?_ GE167.out | refine below_set ?_ GE172.out | refine below_set ?_ GE178.out) | exact HB.out)⟩
          · replace c58 := Bool.eq_false_iff.mpr c58
            subst c58
            have H1 : (some false) = some r := by rw [if_neg (show ¬ (false = true) by decide)] at H; exact H
            clear H
            have H := H1
            clear H1
            obtain rfl := Option.some.inj H
            try go_wp2
            have n0_ := Aside0.mk (Kd.R_drew HO_168000.out)
            have n1_ := Aside0.mk (Kd.R_drew HO_173000.out)
            have n2_ := Aside0.mk (Kd.R_drew HO_179000.out)
            have n3_ := Aside0.mk (blk_drew BK156.out)
            have n4_ := Aside0.mk (blk_drew BK167.out)
            have n5_ := Aside0.mk (blk_drew BK172.out)
            have n6_ := Aside0.mk (blk_drew BK178.out)
            have n7_ := Aside0.mk (below_drew1 HB.out)
            clear HO_168000
            clear HO_173000
            clear HO_179000
            clear BK156
            clear BK167
            clear BK172
            clear BK178
            clear HB
            have HO_168000 := n0_
            have HO_173000 := n1_
            have HO_179000 := n2_
            have BK156 := n3_
            have BK167 := n4_
            have BK172 := n5_
            have BK178 := n6_
            have HB := n7_
            clear n0_ n1_ n2_ n3_ n4_ n5_ n6_ n7_
            refine start_ (n := 5) (S := fun w' => w'.cell? ⟨gb172, 0, none⟩ = some (.slice Ao26 t168.length co26) ∧ w'.cell? ⟨gb172, 1, none⟩ = some (.int .i64 t171) ∧ w'.cell? ⟨gb156, 0, none⟩ = some (.slice A0_0 l0_0.length c0_0) ∧ w'.cell? ⟨gb156, 1, none⟩ = some (.int .i64 a0_1)) (ds := []) #[false, false, false, false, false] (by kernel_rfl) rfl rfl ⟨(blk_cell BK172.out 0).trans rfl, (blk_cell BK172.out 1).trans rfl, (blk_cell BK156.out 0).trans rfl, (blk_cell BK156.out 1).trans rfl⟩ (fun hHeld => ?_)
            generalize wc.drew = w175 at HO_168000 HO_173000 HO_179000 BK156 BK167 BK172 BK178 HB hHeld ⊢
            refine take_ (i := 0) (N := some 41) (v := ?_) (a' := ?_) #[true, false, false, false, false] rfl rfl (by kernel_rfl) (fun _ _ _ h => h) (Or.inl ⟨by rfl, ?_⟩) hHeld ?_ ?_
            rotate_left
            · rintro w' ⟨s0, s1, s2, s3⟩
              go_simp
              with_reducible rfl
            rotate_left
            · simp only [Act.put, List.setIfInBounds_toArray, List.set_cons_zero, List.set_cons_succ, i64_w, i32_w]
              rfl
            refine take_ (i := 1) (N := some 42) (v := ?_) (a' := ?_) #[true, true, false, false, false] rfl rfl (by kernel_rfl) (fun _ _ _ h => h) (Or.inl ⟨by rfl, ?_⟩) hHeld ?_ ?_
            rotate_left
            · rintro w' ⟨s0, s1, s2, s3⟩
              go_simp
              with_reducible rfl
            rotate_left
            · simp only [Act.put, List.setIfInBounds_toArray, List.set_cons_zero, List.set_cons_succ, i64_w, i32_w]
              rfl
            refine one_ (i := 2) (N := some 43) #[true, true, true, false, false] rfl rfl (by kernel_rfl) (by decide) (fun K hK => ?_)
            refine goes_ Try.func23 (by kernel_rfl) rfl #[.agg #[.slice A0_0 l0_0.length c0_0, .int .i64 a0_1]] (by rfl) rfl rfl (by (try simp only [List.map_toArray, List.map_cons, List.map_nil]); first | done | rfl | (simp only [List.length_drop, List.length_take]; rfl)) ?_
            with_reducible refine (laws_toSketch.calls kj10 _ _ l0_0 a0_1 t180 t183 _ ?side1 ?side2 A56.out).mono ?_
            (case side1 => repeat (first | exact (Kd.C_below HR0_0.out HB.out) | (with_reducible refine Kd.C_alloc ?_ _) | (with_reducible refine Kd.C_drewN ?_ _) | (with_reducible refine Kd.C_drew ?_)))
            (case side2 => exact HC0_0.out)
            rintro e w176 ⟨v181, rfl, ho0, hb⟩
            refine ⟨_, rfl, ?_⟩
            have n0_ := Aside0.mk (Kd.R_elder' (by (with_reducible repeat (first | apply Kd.R_alloc | apply Kd.R_drewN | apply Kd.R_drew)); exact HO_168000.out) (Kd.R_base ho0) hb)
            have n1_ := Aside0.mk (Kd.R_elder' (by (with_reducible repeat (first | apply Kd.R_alloc | apply Kd.R_drewN | apply Kd.R_drew)); exact HO_173000.out) (Kd.R_base ho0) hb)
            have n2_ := Aside0.mk (Kd.R_elder' (by (with_reducible repeat (first | apply Kd.R_alloc | apply Kd.R_drewN | apply Kd.R_drew)); exact HO_179000.out) (Kd.R_base ho0) hb)
            have n3_ := Aside0.mk (Kd.R_lower (Kd.R_new' (Kd.R_new' (Kd.R_new' ho0 (Kd.R_lt (by (with_reducible repeat (first | apply Kd.R_alloc | apply Kd.R_drewN | apply Kd.R_drew)); exact HO_168000.out))) (Kd.R_lt (by (with_reducible repeat (first | apply Kd.R_alloc | apply Kd.R_drewN | apply Kd.R_drew)); exact HO_173000.out))) (Kd.R_lt (by (with_reducible repeat (first | apply Kd.R_alloc | apply Kd.R_drewN | apply Kd.R_drew)); exact HO_179000.out))) (below_size (by repeat (first | (with_reducible first | exact HB.out | apply below_alloc | apply pw_below_drewN | apply below_drew1 | refine below_set ?_ GE156.out | refine below_set ?_ GE167.out | refine below_set ?_ GE172.out | refine below_set ?_ GE178.out) | exact HB.out))))
            have n4_ := Aside0.mk (blk_below (g := gb156) (o := .cells #[.slice A0_0 l0_0.length c0_0, .int .i64 a0_1] 34 (0, 0)) (by (with_reducible repeat (first | refine blk_drewN ?_ _ | refine blk_drew ?_ | refine blk_alloc ?_ _)); exact BK156.out) hb)
            have n5_ := Aside0.mk (blk_below (g := gb167) (o := .cells #[.slice Ao20 t162.length co20, .int .i64 t165] 24 (0, 0)) (by (with_reducible repeat (first | refine blk_drewN ?_ _ | refine blk_drew ?_ | refine blk_alloc ?_ _)); exact BK167.out) hb)
            have n6_ := Aside0.mk (blk_below (g := gb172) (o := .cells #[.slice Ao26 t168.length co26, .int .i64 t171] 24 (0, 0)) (by (with_reducible repeat (first | refine blk_drewN ?_ _ | refine blk_drew ?_ | refine blk_alloc ?_ _)); exact BK172.out) hb)
            have n7_ := Aside0.mk (blk_below (g := gb178) (o := .cells #[.slice Ao32 t173.length co32, .int .i64 t176] 24 (0, 0)) (by (with_reducible repeat (first | refine blk_drewN ?_ _ | refine blk_drew ?_ | refine blk_alloc ?_ _)); exact BK178.out) hb)
            have n8_ := Aside0.mk (below_step (by repeat (first | (with_reducible first | exact HB.out | apply below_alloc | apply pw_below_drewN | apply below_drew1 | refine below_set ?_ GE156.out | refine below_set ?_ GE167.out | refine below_set ?_ GE172.out | refine below_set ?_ GE178.out) | exact HB.out)) hb)
            clear HO_168000
            clear HO_173000
            clear HO_179000
            clear BK156
            clear BK167
            clear BK172
            clear BK178
            clear HB
            have HO_168000 := n0_
            have HO_173000 := n1_
            have HO_179000 := n2_
            have HO182 := n3_
            have BK156 := n4_
            have BK167 := n5_
            have BK172 := n6_
            have BK178 := n7_
            have HB := n8_
            clear n0_ n1_ n2_ n3_ n4_ n5_ n6_ n7_ n8_
            (try clear hb)
            (try clear hb2)
            (try clear hk)
            (try clear hi)
            (try clear ho0)
            obtain ⟨Ao177, co177, eo177⟩ := Kd.R_slice HO182.out
            (first | subst eo177 | (injection eo177 with f1_ f2_ f3_; have f4_ := f1_.symm; have f5_ := f3_.symm; clear f1_ f2_ f3_; subst f4_; subst f5_))
            refine hK.out _ _ ⟨(blk_cell BK172.out 0).trans rfl, (blk_cell BK172.out 1).trans rfl, (blk_cell BK156.out 0).trans rfl, (blk_cell BK156.out 1).trans rfl⟩ (fun hHeld => ?_)
            clear hK K
            refine norm_ (a' := ?_) ?_ ?_
            rotate_left
            · show Act.put _ (some 43) _ = _
              simp only [Act.put, List.setIfInBounds_toArray, List.set_cons_zero, List.set_cons_succ, i64_w, i32_w]
              rfl
            refine one_ (i := 3) (N := some 44) #[true, true, true, true, false] rfl rfl (by kernel_rfl) (by decide) (fun K hK => ?_)
            refine goes_ Try.func13 (by kernel_rfl) rfl #[.agg #[.slice Ao26 t168.length co26, .int .i64 t171], .agg #[.slice Ao177 t180.length co177, .int .i64 t183]] (by rfl) rfl rfl (by (try simp only [List.map_toArray, List.map_cons, List.map_nil]); first | done | rfl | (simp only [List.length_drop, List.length_take]; rfl)) ?_
            with_reducible refine (laws_eqSketch.calls kj10 _ _ t168 t171 _ _ t180 t183 false _ ?side1 ?side2 ?side3 ?side4 A57.out).mono ?_
            (case side1 => repeat (first | exact (Kd.R_reads' HO_173000.out).2.2 | (with_reducible refine Kd.C_alloc ?_ _) | (with_reducible refine Kd.C_drewN ?_ _) | (with_reducible refine Kd.C_drew ?_)))
            (case side2 => exact (Kd.R_reads' HO_173000.out).2.1)
            (case side3 => repeat (first | exact (Kd.R_reads' HO182.out).2.2 | (with_reducible refine Kd.C_alloc ?_ _) | (with_reducible refine Kd.C_drewN ?_ _) | (with_reducible refine Kd.C_drew ?_)))
            (case side4 => exact (Kd.R_reads' HO182.out).2.1)
            rintro e w178 ⟨rfl, hb⟩
            refine ⟨_, rfl, ?_⟩
            have n0_ := Aside0.mk (Kd.R_below (by (with_reducible repeat (first | apply Kd.R_alloc | apply Kd.R_drewN | apply Kd.R_drew)); exact HO_168000.out) hb)
            have n1_ := Aside0.mk (Kd.R_below (by (with_reducible repeat (first | apply Kd.R_alloc | apply Kd.R_drewN | apply Kd.R_drew)); exact HO_173000.out) hb)
            have n2_ := Aside0.mk (Kd.R_below (by (with_reducible repeat (first | apply Kd.R_alloc | apply Kd.R_drewN | apply Kd.R_drew)); exact HO_179000.out) hb)
            have n3_ := Aside0.mk (Kd.R_below (by (with_reducible repeat (first | apply Kd.R_alloc | apply Kd.R_drewN | apply Kd.R_drew)); exact HO182.out) hb)
            have n4_ := Aside0.mk (blk_below (g := gb156) (o := .cells #[.slice A0_0 l0_0.length c0_0, .int .i64 a0_1] 34 (0, 0)) (by (with_reducible repeat (first | refine blk_drewN ?_ _ | refine blk_drew ?_ | refine blk_alloc ?_ _)); exact BK156.out) hb)
            have n5_ := Aside0.mk (blk_below (g := gb167) (o := .cells #[.slice Ao20 t162.length co20, .int .i64 t165] 24 (0, 0)) (by (with_reducible repeat (first | refine blk_drewN ?_ _ | refine blk_drew ?_ | refine blk_alloc ?_ _)); exact BK167.out) hb)
            have n6_ := Aside0.mk (blk_below (g := gb172) (o := .cells #[.slice Ao26 t168.length co26, .int .i64 t171] 24 (0, 0)) (by (with_reducible repeat (first | refine blk_drewN ?_ _ | refine blk_drew ?_ | refine blk_alloc ?_ _)); exact BK172.out) hb)
            have n7_ := Aside0.mk (blk_below (g := gb178) (o := .cells #[.slice Ao32 t173.length co32, .int .i64 t176] 24 (0, 0)) (by (with_reducible repeat (first | refine blk_drewN ?_ _ | refine blk_drew ?_ | refine blk_alloc ?_ _)); exact BK178.out) hb)
            have n8_ := Aside0.mk (below_step (by repeat (first | (with_reducible first | exact HB.out | apply below_alloc | apply pw_below_drewN | apply below_drew1 | refine below_set ?_ GE156.out | refine below_set ?_ GE167.out | refine below_set ?_ GE172.out | refine below_set ?_ GE178.out) | exact HB.out)) hb)
            clear HO_168000
            clear HO_173000
            clear HO_179000
            clear HO182
            clear BK156
            clear BK167
            clear BK172
            clear BK178
            clear HB
            have HO_168000 := n0_
            have HO_173000 := n1_
            have HO_179000 := n2_
            have HO182 := n3_
            have BK156 := n4_
            have BK167 := n5_
            have BK172 := n6_
            have BK178 := n7_
            have HB := n8_
            clear n0_ n1_ n2_ n3_ n4_ n5_ n6_ n7_ n8_
            (try clear hb)
            (try clear hb2)
            (try clear hk)
            (try clear hi)
            refine hK.out _ _ ⟨(blk_cell BK172.out 0).trans rfl, (blk_cell BK172.out 1).trans rfl, (blk_cell BK156.out 0).trans rfl, (blk_cell BK156.out 1).trans rfl⟩ (fun hHeld => ?_)
            clear hK K
            refine norm_ (a' := ?_) ?_ ?_
            rotate_left
            · show Act.put _ (some 44) _ = _
              simp only [Act.put, List.setIfInBounds_toArray, List.set_cons_zero, List.set_cons_succ, i64_w, i32_w]
              rfl
            refine pure_ (i := 4) (N := some 45) (v := ?_) (a' := ?_) #[true, true, true, true, true] rfl rfl (by kernel_rfl) (fun _ _ _ h => h) (Or.inl ⟨by rfl, ?_⟩) ?_ ?_
            rotate_left
            · intro w'
              go_simp
              with_reducible rfl
            rotate_left
            · simp only [Act.put, List.setIfInBounds_toArray, List.set_cons_zero, List.set_cons_succ, i64_w, i32_w]
              rfl
            refine done_ (by kernel_rfl) ?_
            try go_wp2
            go_ret
            exact ⟨by first | rfl | (simp [errW_none, errW_some] <;> rfl) | (simp [*, errW_none, errW_some] <;> rfl), by repeat (first | (with_reducible first | exact HB.out | apply below_alloc | apply pw_below_drewN | apply below_drew1 | refine below_set ?_ GE156.out | refine below_set ?_ GE167.out | refine below_set ?_ GE172.out | refine below_set ?_ GE178.out) | exact HB.out)⟩

/-- THE ONE PURE STATEMENT of laws_FnExactHalveSketch: yours. -/
def laws_FnExactHalveSketch.Pure : Prop := ∀ (l0_0 : List Int) (a0_1 : Int), l0_0.length ≤ maxLen → (∀ x ∈ l0_0, (Lit.int .i64 x).wf = true) → (Lit.int .i64 a0_1).wf = true → ∃ k, laws_FnExactHalveSketch.f k l0_0 a0_1 = some true
theorem laws_FnExactHalveSketch.walk (P : laws_FnExactHalveSketch.Pure) (a0_0 : Option Addr) (len0_0 cap0_0 : Nat) (z0_0 : List Int) (a0_1 : Int) (w : World) (w0_0 : (a0_0 = none ∧ len0_0 = 0 ∧ cap0_0 = 0 ∧ z0_0 = []) ∨ ∃ x, a0_0 = some x ∧ len0_0 ≤ cap0_0 ∧ cap0_0 ≤ maxLen ∧ z0_0.length = cap0_0 ∧ (∀ i, i < z0_0.length → w.cell? (x.add i) = some (.int .i64 (z0_0.getD i 0))) ∧ ∀ n ∈ z0_0, (Lit.int .i64 n).wf = true) (w0_1 : (Lit.int .i64 a0_1).wf = true) :
    Calls Try.prog 9 #[.agg #[.slice a0_0 len0_0 cap0_0, .int .i64 a0_1]] w fun e w' => e = .returned (.bool true) ∧ Below w.heap.size w w' := by
  obtain ⟨l0_0, rfl, hr0_0, hm0_0, hw0_0, hc0_0⟩ := ReadsInt.ofRowC w0_0
  obtain ⟨k, h⟩ := P l0_0 a0_1 hm0_0 hw0_0 w0_1
  refine (laws_FnExactHalveSketch.calls k _ _ l0_0 a0_1 true w (Kd.C_of_reads (d := (0 : Int)) (h1 := fun _ => rfl) hr0_0) hc0_0 h).mono ?_
  rintro e w' ⟨rfl, hd⟩
  exact ⟨rfl, hd⟩

end Go.Proofs.Ytbimpkfffcnlhaa.PFnExactHalveSketch
