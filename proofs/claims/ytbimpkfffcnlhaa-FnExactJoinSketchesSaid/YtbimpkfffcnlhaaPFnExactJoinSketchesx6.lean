-- Written by a program of this project (xprint.py) out of the translation; Lean checks it.
import Derived.Test.YtbimpkfffcnlhaaPFnExactJoinSketchesx0
import Derived.Test.YtbimpkfffcnlhaaPFnExactJoinSketchesx1
import Derived.Test.YtbimpkfffcnlhaaPFnExactJoinSketchesx3
import Derived.Test.YtbimpkfffcnlhaaPFnExactJoinSketchesx5
namespace Go.Proofs.Ytbimpkfffcnlhaa.PFnExactJoinSketches
open Go.RowKit Go.Proofs.YtbimpkfffcnlhaaW.PrintWords Go.Proofs.YtbimpkfffcnlhaaW.PrintLast Go.Proofs.YtbimpkfffcnlhaaW.PrintMore
attribute [local go_sem] max2_int min2_int max_two min_two max_three min_three max_four min_four   -- for this text's walks alone
set_option linter.unusedVariables false
set_option linter.unusedSimpArgs false

/-! ### laws_FnExactJoinSketches: function 8 -/
mutual
def laws_FnExactJoinSketches.j0 : Nat → Bool → Bool → Bool → List Int → Int → List Int → Int → List Int → Int → List Int → Int → List Int → Int → List Int → Int → Option (Bool)
 | 0, _, _, _, _, _, _, _, _, _, _, _, _, _, _, _ => none
 | k + 1, x7, x11, x53, x162000, x162001, x163000, x163001, x179000, x179001, x184000, x184001, x189000, x189001, x195000, x195001 => if x53 = true then (some false) else ((laws_toSketch.f k x162000 x162001).bind fun bt196 => ((laws_eqSketch.f k x184000 x184001 bt196.1 bt196.2).bind fun t200 => (if t200 = true then ((laws_toSketch.f k x163000 x163001).bind fun bt201 => ((laws_eqSketch.f k x189000 x189001 bt201.1 bt201.2).bind fun t205 => (if t205 = true then ((laws_markSketch.f k x184000 x184001 1).bind fun bt206 => ((laws_markSketch.f k x189000 x189001 bt206.1).bind fun bt208 => (if bt208.1 < 0 then (laws_FnExactJoinSketches.j1 k x7 true x162000 x162001 x163000 x163001 x179000 x179001 x195000 x195001) else ((laws_eqSketch.f k x195000 x195001 x179000 x179001).bind fun t210 => (if t210 = true then (laws_FnExactJoinSketches.j1 k x7 (x11 != x7) x162000 x162001 x163000 x163001 x179000 x179001 x195000 x195001) else (laws_FnExactJoinSketches.j1 k x7 true x162000 x162001 x163000 x163001 x179000 x179001 x195000 x195001)))))) else (some false)))) else (some false))))
def laws_FnExactJoinSketches.j1 : Nat → Bool → Bool → List Int → Int → List Int → Int → List Int → Int → List Int → Int → Option (Bool)
 | 0, _, _, _, _, _, _, _, _, _, _ => none
 | k + 1, x7, x82, x162000, x162001, x163000, x163001, x179000, x179001, x195000, x195001 => if x82 = true then (some false) else ((laws_markSketch.f k x195000 x195001 1).bind fun bt211 => ((laws_heldSketch.f k bt211.2 x195001 1).bind fun t213 => (if t213 < 0 then (some false) else (if t213 = bt211.1 then ((laws_toSketch.f k x162000 x162001).bind fun bt214 => ((laws_toSketch.f k x163000 x163001).bind fun bt218 => ((impl_JoinSketches.f k bt214.1 bt214.2 bt218.1 bt218.2).bind fun bt222 => ((laws_eqSketch.f k bt222.1 bt222.2.1 x179000 x179001).bind fun t228 => (if t228 = true then (laws_FnExactJoinSketches.j2 k bt211.1 (bt222.2.2 != x7) bt211.2 x195001) else (laws_FnExactJoinSketches.j2 k bt211.1 true bt211.2 x195001)))))) else (some false)))))
def laws_FnExactJoinSketches.j2 : Nat → Int → Bool → List Int → Int → Option (Bool)
 | 0, _, _, _, _ => none
 | k + 1, x13, x110, x195000, x195001 => if x110 = true then (some false) else ((laws_heldSketch.f k x195000 x195001 1).bind fun t229 => (if t229 < 0 then (some false) else (if t229 = x13 then (some true) else (some false))))
end
def laws_FnExactJoinSketches.f (k : Nat) (l0_0 : List Int) (a0_1 : Int) (l1_0 : List Int) (a1_1 : Int) : Option (Bool) := (laws_szSketch.f l0_0 a0_1 1048576).bind fun t163 => (if t163 < 0 then (some true) else ((laws_szSketch.f l1_0 a1_1 t163).bind fun t164 => (if t164 < 0 then (some true) else ((laws_toSketch.f k l0_0 a0_1).bind fun bt165 => ((laws_toSketch.f k l1_0 a1_1).bind fun bt169 => ((spec_JoinSketches.f k bt165.1 bt165.2 bt169.1 bt169.2).bind fun bt173 => ((laws_toSketch.f k l0_0 a0_1).bind fun bt179 => ((laws_toSketch.f k l1_0 a1_1).bind fun bt184 => ((impl_JoinSketches.f k bt179.1 bt179.2 bt184.1 bt184.2).bind fun bt189 => ((laws_eqSketch.f k bt189.1 bt189.2.1 bt173.1 bt173.2.1).bind fun t195 => (if t195 = true then (laws_FnExactJoinSketches.j0 k bt173.2.2 bt189.2.2 (bt189.2.2 != bt173.2.2) l0_0 a0_1 l1_0 a1_1 bt173.1 bt173.2.1 bt179.1 bt179.2 bt184.1 bt184.2 bt189.1 bt189.2.1) else (laws_FnExactJoinSketches.j0 k bt173.2.2 bt189.2.2 true l0_0 a0_1 l1_0 a1_1 bt173.1 bt173.2.1 bt179.1 bt179.2 bt184.1 bt184.2 bt189.1 bt189.2.1))))))))))))
theorem laws_FnExactJoinSketches.mono_l : ∀ k, (∀ y0 y1 y2 y3 y4 y5 y6 y7 y8 y9 y10 y11 y12 y13 y14, LeO (laws_FnExactJoinSketches.j0 k y0 y1 y2 y3 y4 y5 y6 y7 y8 y9 y10 y11 y12 y13 y14) (laws_FnExactJoinSketches.j0 (k + 1) y0 y1 y2 y3 y4 y5 y6 y7 y8 y9 y10 y11 y12 y13 y14)) ∧ (∀ y0 y1 y2 y3 y4 y5 y6 y7 y8 y9, LeO (laws_FnExactJoinSketches.j1 k y0 y1 y2 y3 y4 y5 y6 y7 y8 y9) (laws_FnExactJoinSketches.j1 (k + 1) y0 y1 y2 y3 y4 y5 y6 y7 y8 y9)) ∧ (∀ y0 y1 y2 y3, LeO (laws_FnExactJoinSketches.j2 k y0 y1 y2 y3) (laws_FnExactJoinSketches.j2 (k + 1) y0 y1 y2 y3))
 | 0 => ⟨fun _ _ _ _ _ _ _ _ _ _ _ _ _ _ _ r h => by simp [laws_FnExactJoinSketches.j0] at h, fun _ _ _ _ _ _ _ _ _ _ r h => by simp [laws_FnExactJoinSketches.j1] at h, fun _ _ _ _ r h => by simp [laws_FnExactJoinSketches.j2] at h⟩
 | k + 1 => by
  obtain ⟨ih0, ih1, ih2⟩ := laws_FnExactJoinSketches.mono_l k
  refine ⟨?_, ?_, ?_⟩
  ·intro y0 y1 y2 y3 y4 y5 y6 y7 y8 y9 y10 y11 y12 y13 y14
   unfold laws_FnExactJoinSketches.j0
   repeat' first
   | (with_reducible exact ih0 _ _ _ _ _ _ _ _ _ _ _ _ _ _ _)
   | (with_reducible exact ih1 _ _ _ _ _ _ _ _ _ _)
   | (with_reducible exact ih2 _ _ _ _)
   | (with_reducible exact impl_JoinSketches.mono _ _ _ _ _)
   | (with_reducible exact laws_eqSketch.mono _ _ _ _ _)
   | (with_reducible exact laws_heldSketch.mono _ _ _ _)
   | (with_reducible exact laws_markSketch.mono _ _ _ _)
   | (with_reducible exact laws_toSketch.mono _ _ _)
   | (with_reducible exact spec_JoinSketches.mono _ _ _ _ _)
   | (with_reducible exact LeO.refl _)
   | (with_reducible exact LeO.none _)
   | (with_reducible refine LeO.ite ?_ ?_)
   | (with_reducible refine LeO.bind ?_ (fun _ => ?_))
   | exact ih0 _ _ _ _ _ _ _ _ _ _ _ _ _ _ _
   | exact ih1 _ _ _ _ _ _ _ _ _ _
   | exact ih2 _ _ _ _
   | exact impl_JoinSketches.mono _ _ _ _ _
   | exact laws_eqSketch.mono _ _ _ _ _
   | exact laws_heldSketch.mono _ _ _ _
   | exact laws_markSketch.mono _ _ _ _
   | exact laws_toSketch.mono _ _ _
   | exact spec_JoinSketches.mono _ _ _ _ _
   | exact LeO.none _
   | refine LeO.ite ?_ ?_
   | refine LeO.bind ?_ (fun _ => ?_)
  ·intro y0 y1 y2 y3 y4 y5 y6 y7 y8 y9
   unfold laws_FnExactJoinSketches.j1
   repeat' first
   | (with_reducible exact ih0 _ _ _ _ _ _ _ _ _ _ _ _ _ _ _)
   | (with_reducible exact ih1 _ _ _ _ _ _ _ _ _ _)
   | (with_reducible exact ih2 _ _ _ _)
   | (with_reducible exact impl_JoinSketches.mono _ _ _ _ _)
   | (with_reducible exact laws_eqSketch.mono _ _ _ _ _)
   | (with_reducible exact laws_heldSketch.mono _ _ _ _)
   | (with_reducible exact laws_markSketch.mono _ _ _ _)
   | (with_reducible exact laws_toSketch.mono _ _ _)
   | (with_reducible exact spec_JoinSketches.mono _ _ _ _ _)
   | (with_reducible exact LeO.refl _)
   | (with_reducible exact LeO.none _)
   | (with_reducible refine LeO.ite ?_ ?_)
   | (with_reducible refine LeO.bind ?_ (fun _ => ?_))
   | exact ih0 _ _ _ _ _ _ _ _ _ _ _ _ _ _ _
   | exact ih1 _ _ _ _ _ _ _ _ _ _
   | exact ih2 _ _ _ _
   | exact impl_JoinSketches.mono _ _ _ _ _
   | exact laws_eqSketch.mono _ _ _ _ _
   | exact laws_heldSketch.mono _ _ _ _
   | exact laws_markSketch.mono _ _ _ _
   | exact laws_toSketch.mono _ _ _
   | exact spec_JoinSketches.mono _ _ _ _ _
   | exact LeO.none _
   | refine LeO.ite ?_ ?_
   | refine LeO.bind ?_ (fun _ => ?_)
  ·intro y0 y1 y2 y3
   unfold laws_FnExactJoinSketches.j2
   repeat' first
   | (with_reducible exact ih0 _ _ _ _ _ _ _ _ _ _ _ _ _ _ _)
   | (with_reducible exact ih1 _ _ _ _ _ _ _ _ _ _)
   | (with_reducible exact ih2 _ _ _ _)
   | (with_reducible exact impl_JoinSketches.mono _ _ _ _ _)
   | (with_reducible exact laws_eqSketch.mono _ _ _ _ _)
   | (with_reducible exact laws_heldSketch.mono _ _ _ _)
   | (with_reducible exact laws_markSketch.mono _ _ _ _)
   | (with_reducible exact laws_toSketch.mono _ _ _)
   | (with_reducible exact spec_JoinSketches.mono _ _ _ _ _)
   | (with_reducible exact LeO.refl _)
   | (with_reducible exact LeO.none _)
   | (with_reducible refine LeO.ite ?_ ?_)
   | (with_reducible refine LeO.bind ?_ (fun _ => ?_))
   | exact ih0 _ _ _ _ _ _ _ _ _ _ _ _ _ _ _
   | exact ih1 _ _ _ _ _ _ _ _ _ _
   | exact ih2 _ _ _ _
   | exact impl_JoinSketches.mono _ _ _ _ _
   | exact laws_eqSketch.mono _ _ _ _ _
   | exact laws_heldSketch.mono _ _ _ _
   | exact laws_markSketch.mono _ _ _ _
   | exact laws_toSketch.mono _ _ _
   | exact spec_JoinSketches.mono _ _ _ _ _
   | exact LeO.none _
   | refine LeO.ite ?_ ?_
   | refine LeO.bind ?_ (fun _ => ?_)
theorem laws_FnExactJoinSketches.mono : ∀ a0 a1 a2 a3 k, LeO (laws_FnExactJoinSketches.f k a0 a1 a2 a3) (laws_FnExactJoinSketches.f (k + 1) a0 a1 a2 a3) := by
 intro a0 a1 a2 a3 k
 obtain ⟨ih0, ih1, ih2⟩ := laws_FnExactJoinSketches.mono_l k
 unfold laws_FnExactJoinSketches.f
 repeat' first
   | (with_reducible exact ih0 _ _ _ _ _ _ _ _ _ _ _ _ _ _ _)
   | (with_reducible exact ih1 _ _ _ _ _ _ _ _ _ _)
   | (with_reducible exact ih2 _ _ _ _)
   | (with_reducible exact impl_JoinSketches.mono _ _ _ _ _)
   | (with_reducible exact laws_eqSketch.mono _ _ _ _ _)
   | (with_reducible exact laws_heldSketch.mono _ _ _ _)
   | (with_reducible exact laws_markSketch.mono _ _ _ _)
   | (with_reducible exact laws_toSketch.mono _ _ _)
   | (with_reducible exact spec_JoinSketches.mono _ _ _ _ _)
   | (with_reducible exact LeO.refl _)
   | (with_reducible exact LeO.none _)
   | (with_reducible refine LeO.ite ?_ ?_)
   | (with_reducible refine LeO.bind ?_ (fun _ => ?_))
   | exact ih0 _ _ _ _ _ _ _ _ _ _ _ _ _ _ _
   | exact ih1 _ _ _ _ _ _ _ _ _ _
   | exact ih2 _ _ _ _
   | exact impl_JoinSketches.mono _ _ _ _ _
   | exact laws_eqSketch.mono _ _ _ _ _
   | exact laws_heldSketch.mono _ _ _ _
   | exact laws_markSketch.mono _ _ _ _
   | exact laws_toSketch.mono _ _ _
   | exact spec_JoinSketches.mono _ _ _ _ _
   | exact LeO.none _
   | refine LeO.ite ?_ ?_
   | refine LeO.bind ?_ (fun _ => ?_)
def laws_FnExactJoinSketches.T8 : Bool × List (List Nat × List Nat) := (true, [([], []), ([0], [0]), ([], []), ([2, 1], [2]), ([1, 3, 3], [1, 3]), ([4], [4]), ([5], [5]), ([5], [5]), ([], []), ([8, 6, 4, 0, 1, 2, 3, 4, 5, 6, 8], [6, 8]), ([7, 9, 0, 1, 2, 3, 4, 5, 6, 7, 8, 9], [7])])
def laws_FnExactJoinSketches.B8 : List Nat := [0, 1, 0, 7, 15, 31, 63, 63, 0, 383, 1023]
theorem laws_FnExactJoinSketches.tab8 : rtab .any (opsOf Try.f8 8) = laws_FnExactJoinSketches.T8 := by kernel_rfl
theorem laws_FnExactJoinSketches.bits8 : waitsOk laws_FnExactJoinSketches.T8.2 laws_FnExactJoinSketches.B8 = true := by kernel_rfl
def laws_FnExactJoinSketches.T31 : Bool × List (List Nat × List Nat) := (true, [([], []), ([0], [0]), ([], []), ([2, 1], [2]), ([1, 3, 3], [1, 3]), ([4], [4]), ([5], [5]), ([5], [5]), ([], []), ([8, 6, 4, 0, 1, 2, 3, 4, 5, 6, 8], [6, 8]), ([7, 9, 0, 1, 2, 3, 4, 5, 6, 7, 8, 9], [7])])
def laws_FnExactJoinSketches.B31 : List Nat := [0, 1, 0, 7, 15, 31, 63, 63, 0, 383, 1023]
theorem laws_FnExactJoinSketches.tab31 : rtab .any (opsOf Try.f8 31) = laws_FnExactJoinSketches.T31 := by kernel_rfl
theorem laws_FnExactJoinSketches.bits31 : waitsOk laws_FnExactJoinSketches.T31.2 laws_FnExactJoinSketches.B31 = true := by kernel_rfl
set_option maxHeartbeats 8000000 in
set_option maxRecDepth 100000 in
theorem laws_FnExactJoinSketches.calls (k : Nat) (A0_0 : Option Addr) (c0_0 : Nat) (l0_0 : List Int) (a0_1 : Int) (A1_0 : Option Addr) (c1_0 : Nat) (l1_0 : List Int) (a1_1 : Int) (r : Bool) (w : World) (hr0_0 : Kd.C (Kd.int .i64) w A0_0 l0_0.length l0_0) (hc0_0 : l0_0.length ≤ c0_0) (hr1_0 : Kd.C (Kd.int .i64) w A1_0 l1_0.length l1_0) (hc1_0 : l1_0.length ≤ c1_0) (h : laws_FnExactJoinSketches.f k l0_0 a0_1 l1_0 a1_1 = some r) :
  Calls Try.prog 8 #[.agg #[.slice A0_0 l0_0.length c0_0, .int .i64 a0_1], .agg #[.slice A1_0 l1_0.length c1_0, .int .i64 a1_1]] w fun e w' => e = .returned (.bool r) ∧ Below w.heap.size w w' := by
 have hu34 := Try.underlying34
 have hu24 := Try.underlying24
 have HR0_0 := Aside0.mk hr0_0
 have HC0_0 := Aside0.mk hc0_0
 clear hr0_0 hc0_0
 have HR1_0 := Aside0.mk hr1_0
 have HC1_0 := Aside0.mk hc1_0
 clear hr1_0 hc1_0
 have HB := Aside0.mk (Below.refl w.heap.size w)
 have H : ((laws_szSketch.f l0_0 a0_1 1048576).bind fun t163 => (if t163 < 0 then (some true) else ((laws_szSketch.f l1_0 a1_1 t163).bind fun t164 => (if t164 < 0 then (some true) else ((laws_toSketch.f k l0_0 a0_1).bind fun bt165 => ((laws_toSketch.f k l1_0 a1_1).bind fun bt169 => ((spec_JoinSketches.f k bt165.1 bt165.2 bt169.1 bt169.2).bind fun bt173 => ((laws_toSketch.f k l0_0 a0_1).bind fun bt179 => ((laws_toSketch.f k l1_0 a1_1).bind fun bt184 => ((impl_JoinSketches.f k bt179.1 bt179.2 bt184.1 bt184.2).bind fun bt189 => ((laws_eqSketch.f k bt189.1 bt189.2.1 bt173.1 bt173.2.1).bind fun t195 => (if t195 = true then (laws_FnExactJoinSketches.j0 k bt173.2.2 bt189.2.2 (bt189.2.2 != bt173.2.2) l0_0 a0_1 l1_0 a1_1 bt173.1 bt173.2.1 bt179.1 bt179.2 bt184.1 bt184.2 bt189.1 bt189.2.1) else (laws_FnExactJoinSketches.j0 k bt173.2.2 bt189.2.2 true l0_0 a0_1 l1_0 a1_1 bt173.1 bt173.2.1 bt179.1 bt179.2 bt184.1 bt184.2 bt189.1 bt189.2.1))))))))))))) = some r := h
 clear h
 replace H := Option.bind_eq_some_iff.mp H
 obtain ⟨t163, A30, H⟩ := H
 replace H : (if t163 < 0 then (some true) else ((laws_szSketch.f l1_0 a1_1 t163).bind fun t164 => (if t164 < 0 then (some true) else ((laws_toSketch.f k l0_0 a0_1).bind fun bt165 => ((laws_toSketch.f k l1_0 a1_1).bind fun bt169 => ((spec_JoinSketches.f k bt165.1 bt165.2 bt169.1 bt169.2).bind fun bt173 => ((laws_toSketch.f k l0_0 a0_1).bind fun bt179 => ((laws_toSketch.f k l1_0 a1_1).bind fun bt184 => ((impl_JoinSketches.f k bt179.1 bt179.2 bt184.1 bt184.2).bind fun bt189 => ((laws_eqSketch.f k bt189.1 bt189.2.1 bt173.1 bt173.2.1).bind fun t195 => (if t195 = true then (laws_FnExactJoinSketches.j0 k bt173.2.2 bt189.2.2 (bt189.2.2 != bt173.2.2) l0_0 a0_1 l1_0 a1_1 bt173.1 bt173.2.1 bt179.1 bt179.2 bt184.1 bt184.2 bt189.1 bt189.2.1) else (laws_FnExactJoinSketches.j0 k bt173.2.2 bt189.2.2 true l0_0 a0_1 l1_0 a1_1 bt173.1 bt173.2.1 bt179.1 bt179.2 bt184.1 bt184.2 bt189.1 bt189.2.1)))))))))))) = some r := H
 have A3 := Aside0.mk A30
 clear A30
 by_cases c4 : t163 < 0
 ·rw [if_pos c4] at H
  have c4b0 : decide (t163 < 0) = true := decide_eq_true c4
  clear c4
  obtain rfl := Option.some.inj H
  go_enter Try.func8, Try.ntmps8
  go_wp2_with (first | ((with_reducible refine gate_dst (N := 2) rfl ?_); refine xbe_ (N := 2) (cs := #[.slice A0_0 l0_0.length c0_0, .int .i64 a0_1]) (t := 34) ?_; intro gb161 hg w5 hbox hb; have BK161 := Aside0.mk (hbox); have GW161 := xge_ HB hg; have GE161 := xge_ HB hg; replace HB := xws_ HB hb; clear hb hbox hg) | ((with_reducible refine gate_dst (N := 3) rfl ?_); refine xbe_ (N := 3) (cs := #[.slice A1_0 l1_0.length c1_0, .int .i64 a1_1]) (t := 34) ?_; intro gb162 hg w6 hbox hb; have BK162 := Aside0.mk (hbox); have GW162 := xge_ HB hg; have GE162 := xge_ HB hg; replace HB := xws_ HB hb; have NB161_162 := xlt_ BK161 hg; have NB162_161 := xgt_ BK161 hg; replace BK161 := xbb_ BK161 hb; clear hb hbox hg; have hnb7 := NB161_162.out; have hnc7 := NB162_161.out; have hcz8_0 : w6.cell? ⟨gb161, 0, none⟩ = some (.slice A0_0 l0_0.length c0_0) := xk_ BK161 0; have hcz8_1 : w6.cell? ⟨gb161, 1, none⟩ = some (.int .i64 a0_1) := xk_ BK161 1; have hfz8_0 := blk_frozen BK161.out 0; have hfz8_1 := blk_frozen BK161.out 1) | ((with_reducible refine gate_callee (f := 21) rfl ?_); refine xgl_ (some 19) Try.func21 #[.agg #[.slice A0_0 l0_0.length c0_0, .int .i64 a0_1], .int .i64 1048576] ?_; (with_reducible refine (laws_szSketch.calls _ _ l0_0 a0_1 1048576 t163 _ ?side1 ?side2 A3.out).mono ?_); (case side1 => exact xc_ ((Kd.C_below HR0_0.out HB.out))); (case side2 => exact HC0_0.out); rintro e w9 ⟨rfl, hb⟩; refine ⟨_, rfl, ?_⟩; replace BK161 := xbb_ BK161 hb; replace BK162 := xbb_ BK162 hb; replace HB := xws_ HB hb; (try clear hb); (try clear hb2); (try clear hk); (try clear hi)))
  go_ret
  exact ⟨by first | rfl | (simp [errW_none, errW_some] <;> rfl) | (simp [*, errW_none, errW_some] <;> rfl), xw_ HB⟩
 ·rw [if_neg c4] at H
  have c4b0 : decide (t163 < 0) = false := decide_eq_false c4
  clear c4
  replace H := Option.bind_eq_some_iff.mp H
  obtain ⟨t164, A100, H⟩ := H
  replace H : (if t164 < 0 then (some true) else ((laws_toSketch.f k l0_0 a0_1).bind fun bt165 => ((laws_toSketch.f k l1_0 a1_1).bind fun bt169 => ((spec_JoinSketches.f k bt165.1 bt165.2 bt169.1 bt169.2).bind fun bt173 => ((laws_toSketch.f k l0_0 a0_1).bind fun bt179 => ((laws_toSketch.f k l1_0 a1_1).bind fun bt184 => ((impl_JoinSketches.f k bt179.1 bt179.2 bt184.1 bt184.2).bind fun bt189 => ((laws_eqSketch.f k bt189.1 bt189.2.1 bt173.1 bt173.2.1).bind fun t195 => (if t195 = true then (laws_FnExactJoinSketches.j0 k bt173.2.2 bt189.2.2 (bt189.2.2 != bt173.2.2) l0_0 a0_1 l1_0 a1_1 bt173.1 bt173.2.1 bt179.1 bt179.2 bt184.1 bt184.2 bt189.1 bt189.2.1) else (laws_FnExactJoinSketches.j0 k bt173.2.2 bt189.2.2 true l0_0 a0_1 l1_0 a1_1 bt173.1 bt173.2.1 bt179.1 bt179.2 bt184.1 bt184.2 bt189.1 bt189.2.1)))))))))) = some r := H
  have A10 := Aside0.mk A100
  clear A100
  by_cases c11 : t164 < 0
  ·rw [if_pos c11] at H
   have c11b0 : decide (t164 < 0) = true := decide_eq_true c11
   clear c11
   obtain rfl := Option.some.inj H
   go_enter Try.func8, Try.ntmps8
   go_wp2_with (first | ((with_reducible refine gate_dst (N := 2) rfl ?_); refine xbe_ (N := 2) (cs := #[.slice A0_0 l0_0.length c0_0, .int .i64 a0_1]) (t := 34) ?_; intro gb161 hg w12 hbox hb; have BK161 := Aside0.mk (hbox); have GW161 := xge_ HB hg; have GE161 := xge_ HB hg; replace HB := xws_ HB hb; clear hb hbox hg) | ((with_reducible refine gate_dst (N := 3) rfl ?_); refine xbe_ (N := 3) (cs := #[.slice A1_0 l1_0.length c1_0, .int .i64 a1_1]) (t := 34) ?_; intro gb162 hg w13 hbox hb; have BK162 := Aside0.mk (hbox); have GW162 := xge_ HB hg; have GE162 := xge_ HB hg; replace HB := xws_ HB hb; have NB161_162 := xlt_ BK161 hg; have NB162_161 := xgt_ BK161 hg; replace BK161 := xbb_ BK161 hb; clear hb hbox hg; have hnb14 := NB161_162.out; have hnc14 := NB162_161.out; have hcz15_0 : w13.cell? ⟨gb161, 0, none⟩ = some (.slice A0_0 l0_0.length c0_0) := xk_ BK161 0; have hcz15_1 : w13.cell? ⟨gb161, 1, none⟩ = some (.int .i64 a0_1) := xk_ BK161 1; have hfz15_0 := blk_frozen BK161.out 0; have hfz15_1 := blk_frozen BK161.out 1) | ((with_reducible refine gate_callee (f := 21) rfl ?_); refine xgl_ (some 19) Try.func21 #[.agg #[.slice A0_0 l0_0.length c0_0, .int .i64 a0_1], .int .i64 1048576] ?_; (with_reducible refine (laws_szSketch.calls _ _ l0_0 a0_1 1048576 t163 _ ?side1 ?side2 A3.out).mono ?_); (case side1 => exact xc_ ((Kd.C_below HR0_0.out HB.out))); (case side2 => exact HC0_0.out); rintro e w16 ⟨rfl, hb⟩; refine ⟨_, rfl, ?_⟩; replace BK161 := xbb_ BK161 hb; replace BK162 := xbb_ BK162 hb; replace HB := xws_ HB hb; (try clear hb); (try clear hb2); (try clear hk); (try clear hi); have hcz17_0 : w16.cell? ⟨gb162, 0, none⟩ = some (.slice A1_0 l1_0.length c1_0) := xk_ BK162 0; have hcz17_1 : w16.cell? ⟨gb162, 1, none⟩ = some (.int .i64 a1_1) := xk_ BK162 1; have hfz17_0 := blk_frozen BK162.out 0; have hfz17_1 := blk_frozen BK162.out 1) | ((with_reducible refine gate_callee (f := 21) rfl ?_); refine xgl_ (some 24) Try.func21 #[.agg #[.slice A1_0 l1_0.length c1_0, .int .i64 a1_1], .int .i64 t163] ?_; (with_reducible refine (laws_szSketch.calls _ _ l1_0 a1_1 t163 t164 _ ?side1 ?side2 A10.out).mono ?_); (case side1 => exact xc_ ((Kd.C_below HR1_0.out HB.out))); (case side2 => exact HC1_0.out); rintro e w18 ⟨rfl, hb⟩; refine ⟨_, rfl, ?_⟩; replace BK161 := xbb_ BK161 hb; replace BK162 := xbb_ BK162 hb; replace HB := xws_ HB hb; (try clear hb); (try clear hb2); (try clear hk); (try clear hi)))
   go_ret
   exact ⟨by first | rfl | (simp [errW_none, errW_some] <;> rfl) | (simp [*, errW_none, errW_some] <;> rfl), xw_ HB⟩
  ·rw [if_neg c11] at H
   have c11b0 : decide (t164 < 0) = false := decide_eq_false c11
   clear c11
   replace H := Option.bind_eq_some_iff.mp H
   obtain ⟨⟨t165, t168⟩, A190, H⟩ := H
   replace H : ((laws_toSketch.f k l1_0 a1_1).bind fun bt169 => ((spec_JoinSketches.f k t165 t168 bt169.1 bt169.2).bind fun bt173 => ((laws_toSketch.f k l0_0 a0_1).bind fun bt179 => ((laws_toSketch.f k l1_0 a1_1).bind fun bt184 => ((impl_JoinSketches.f k bt179.1 bt179.2 bt184.1 bt184.2).bind fun bt189 => ((laws_eqSketch.f k bt189.1 bt189.2.1 bt173.1 bt173.2.1).bind fun t195 => (if t195 = true then (laws_FnExactJoinSketches.j0 k bt173.2.2 bt189.2.2 (bt189.2.2 != bt173.2.2) l0_0 a0_1 l1_0 a1_1 bt173.1 bt173.2.1 bt179.1 bt179.2 bt184.1 bt184.2 bt189.1 bt189.2.1) else (laws_FnExactJoinSketches.j0 k bt173.2.2 bt189.2.2 true l0_0 a0_1 l1_0 a1_1 bt173.1 bt173.2.1 bt179.1 bt179.2 bt184.1 bt184.2 bt189.1 bt189.2.1)))))))) = some r := H
   have A19 := Aside0.mk A190
   clear A190
   replace H := Option.bind_eq_some_iff.mp H
   obtain ⟨⟨t169, t172⟩, A200, H⟩ := H
   replace H : ((spec_JoinSketches.f k t165 t168 t169 t172).bind fun bt173 => ((laws_toSketch.f k l0_0 a0_1).bind fun bt179 => ((laws_toSketch.f k l1_0 a1_1).bind fun bt184 => ((impl_JoinSketches.f k bt179.1 bt179.2 bt184.1 bt184.2).bind fun bt189 => ((laws_eqSketch.f k bt189.1 bt189.2.1 bt173.1 bt173.2.1).bind fun t195 => (if t195 = true then (laws_FnExactJoinSketches.j0 k bt173.2.2 bt189.2.2 (bt189.2.2 != bt173.2.2) l0_0 a0_1 l1_0 a1_1 bt173.1 bt173.2.1 bt179.1 bt179.2 bt184.1 bt184.2 bt189.1 bt189.2.1) else (laws_FnExactJoinSketches.j0 k bt173.2.2 bt189.2.2 true l0_0 a0_1 l1_0 a1_1 bt173.1 bt173.2.1 bt179.1 bt179.2 bt184.1 bt184.2 bt189.1 bt189.2.1))))))) = some r := H
   have A20 := Aside0.mk A200
   clear A200
   replace H := Option.bind_eq_some_iff.mp H
   obtain ⟨⟨t173, t176, t177⟩, A210, H⟩ := H
   replace H : ((laws_toSketch.f k l0_0 a0_1).bind fun bt179 => ((laws_toSketch.f k l1_0 a1_1).bind fun bt184 => ((impl_JoinSketches.f k bt179.1 bt179.2 bt184.1 bt184.2).bind fun bt189 => ((laws_eqSketch.f k bt189.1 bt189.2.1 t173 t176).bind fun t195 => (if t195 = true then (laws_FnExactJoinSketches.j0 k t177 bt189.2.2 (bt189.2.2 != t177) l0_0 a0_1 l1_0 a1_1 t173 t176 bt179.1 bt179.2 bt184.1 bt184.2 bt189.1 bt189.2.1) else (laws_FnExactJoinSketches.j0 k t177 bt189.2.2 true l0_0 a0_1 l1_0 a1_1 t173 t176 bt179.1 bt179.2 bt184.1 bt184.2 bt189.1 bt189.2.1)))))) = some r := H
   have A21 := Aside0.mk A210
   clear A210
   replace H := Option.bind_eq_some_iff.mp H
   obtain ⟨⟨t179, t182⟩, A220, H⟩ := H
   replace H : ((laws_toSketch.f k l1_0 a1_1).bind fun bt184 => ((impl_JoinSketches.f k t179 t182 bt184.1 bt184.2).bind fun bt189 => ((laws_eqSketch.f k bt189.1 bt189.2.1 t173 t176).bind fun t195 => (if t195 = true then (laws_FnExactJoinSketches.j0 k t177 bt189.2.2 (bt189.2.2 != t177) l0_0 a0_1 l1_0 a1_1 t173 t176 t179 t182 bt184.1 bt184.2 bt189.1 bt189.2.1) else (laws_FnExactJoinSketches.j0 k t177 bt189.2.2 true l0_0 a0_1 l1_0 a1_1 t173 t176 t179 t182 bt184.1 bt184.2 bt189.1 bt189.2.1))))) = some r := H
   have A22 := Aside0.mk A220
   clear A220
   replace H := Option.bind_eq_some_iff.mp H
   obtain ⟨⟨t184, t187⟩, A230, H⟩ := H
   replace H : ((impl_JoinSketches.f k t179 t182 t184 t187).bind fun bt189 => ((laws_eqSketch.f k bt189.1 bt189.2.1 t173 t176).bind fun t195 => (if t195 = true then (laws_FnExactJoinSketches.j0 k t177 bt189.2.2 (bt189.2.2 != t177) l0_0 a0_1 l1_0 a1_1 t173 t176 t179 t182 t184 t187 bt189.1 bt189.2.1) else (laws_FnExactJoinSketches.j0 k t177 bt189.2.2 true l0_0 a0_1 l1_0 a1_1 t173 t176 t179 t182 t184 t187 bt189.1 bt189.2.1)))) = some r := H
   have A23 := Aside0.mk A230
   clear A230
   replace H := Option.bind_eq_some_iff.mp H
   obtain ⟨⟨t189, t192, t193⟩, A240, H⟩ := H
   replace H : ((laws_eqSketch.f k t189 t192 t173 t176).bind fun t195 => (if t195 = true then (laws_FnExactJoinSketches.j0 k t177 t193 (t193 != t177) l0_0 a0_1 l1_0 a1_1 t173 t176 t179 t182 t184 t187 t189 t192) else (laws_FnExactJoinSketches.j0 k t177 t193 true l0_0 a0_1 l1_0 a1_1 t173 t176 t179 t182 t184 t187 t189 t192))) = some r := H
   have A24 := Aside0.mk A240
   clear A240
   have HC25 := Aside0.mk H
   clear H
   go_enter Try.func8, Try.ntmps8
   try go_wp2_with (first | ((with_reducible refine gate_dst (N := 2) rfl ?_); refine xbe_ (N := 2) (cs := #[.slice A0_0 l0_0.length c0_0, .int .i64 a0_1]) (t := 34) ?_; intro gb161 hg w26 hbox hb; have BK161 := Aside0.mk (hbox); have GW161 := xge_ HB hg; have GE161 := xge_ HB hg; replace HB := xws_ HB hb; clear hb hbox hg) | ((with_reducible refine gate_dst (N := 3) rfl ?_); refine xbe_ (N := 3) (cs := #[.slice A1_0 l1_0.length c1_0, .int .i64 a1_1]) (t := 34) ?_; intro gb162 hg w27 hbox hb; have BK162 := Aside0.mk (hbox); have GW162 := xge_ HB hg; have GE162 := xge_ HB hg; replace HB := xws_ HB hb; have NB161_162 := xlt_ BK161 hg; have NB162_161 := xgt_ BK161 hg; replace BK161 := xbb_ BK161 hb; clear hb hbox hg; have hnb28 := NB161_162.out; have hnc28 := NB162_161.out; have hcz29_0 : w27.cell? ⟨gb161, 0, none⟩ = some (.slice A0_0 l0_0.length c0_0) := xk_ BK161 0; have hcz29_1 : w27.cell? ⟨gb161, 1, none⟩ = some (.int .i64 a0_1) := xk_ BK161 1; have hfz29_0 := blk_frozen BK161.out 0; have hfz29_1 := blk_frozen BK161.out 1) | ((with_reducible refine gate_callee (f := 21) rfl ?_); refine xgl_ (some 19) Try.func21 #[.agg #[.slice A0_0 l0_0.length c0_0, .int .i64 a0_1], .int .i64 1048576] ?_; (with_reducible refine (laws_szSketch.calls _ _ l0_0 a0_1 1048576 t163 _ ?side1 ?side2 A3.out).mono ?_); (case side1 => exact xc_ ((Kd.C_below HR0_0.out HB.out))); (case side2 => exact HC0_0.out); rintro e w30 ⟨rfl, hb⟩; refine ⟨_, rfl, ?_⟩; replace BK161 := xbb_ BK161 hb; replace BK162 := xbb_ BK162 hb; replace HB := xws_ HB hb; (try clear hb); (try clear hb2); (try clear hk); (try clear hi); have hcz31_0 : w30.cell? ⟨gb162, 0, none⟩ = some (.slice A1_0 l1_0.length c1_0) := xk_ BK162 0; have hcz31_1 : w30.cell? ⟨gb162, 1, none⟩ = some (.int .i64 a1_1) := xk_ BK162 1; have hfz31_0 := blk_frozen BK162.out 0; have hfz31_1 := blk_frozen BK162.out 1) | ((with_reducible refine gate_callee (f := 21) rfl ?_); refine xgl_ (some 24) Try.func21 #[.agg #[.slice A1_0 l1_0.length c1_0, .int .i64 a1_1], .int .i64 t163] ?_; (with_reducible refine (laws_szSketch.calls _ _ l1_0 a1_1 t163 t164 _ ?side1 ?side2 A10.out).mono ?_); (case side1 => exact xc_ ((Kd.C_below HR1_0.out HB.out))); (case side2 => exact HC1_0.out); rintro e w32 ⟨rfl, hb⟩; refine ⟨_, rfl, ?_⟩; replace BK161 := xbb_ BK161 hb; replace BK162 := xbb_ BK162 hb; replace HB := xws_ HB hb; (try clear hb); (try clear hb2); (try clear hk); (try clear hi)))
   replace BK161 := Aside0.mk (blk_drew BK161.out)
   replace BK162 := Aside0.mk (blk_drew BK162.out)
   replace HB := Aside0.mk (below_drew1 HB.out)
   refine start_ (n := 11) (S := fun w' => w'.cell? ⟨gb161, 0, none⟩ = some (.slice A0_0 l0_0.length c0_0) ∧ w'.cell? ⟨gb161, 1, none⟩ = some (.int .i64 a0_1) ∧ w'.cell? ⟨gb162, 0, none⟩ = some (.slice A1_0 l1_0.length c1_0) ∧ w'.cell? ⟨gb162, 1, none⟩ = some (.int .i64 a1_1)) (ds := []) #[false, false, false, false, false, false, false, false, false, false, false] (by kernel_rfl) rfl rfl ⟨xk_ BK161 0, xk_ BK161 1, xk_ BK162 0, xk_ BK162 1⟩ (fun hHeld => ?_); refine with_tabW laws_FnExactJoinSketches.tab8 laws_FnExactJoinSketches.bits8 (fun HT_ HW_ => ?_)
   generalize w32.drew = w33 at BK161 BK162 HB hHeld ⊢
   refine take_ (i := 0) (N := some 28) (v := ?_) (a' := ?_) #[true, false, false, false, false, false, false, false, false, false, false] rfl rfl (take_ofW HT_.out HW_.out (by kernel_rfl)) (fun _ _ _ h => h) (Or.inl ⟨by rfl, ?_⟩) hHeld ?_ ?_
   rotate_left
   ·rintro w' ⟨s0, s1, s2, s3⟩
    go_simp
    with_reducible rfl
   rotate_left
   ·simp only [Act.put, List.setIfInBounds_toArray, List.set_cons_zero, List.set_cons_succ, i64_w, i32_w]
    rfl
   refine take_ (i := 2) (N := some 30) (v := ?_) (a' := ?_) #[true, false, true, false, false, false, false, false, false, false, false] rfl rfl (take_ofW HT_.out HW_.out (by kernel_rfl)) (fun _ _ _ h => h) (Or.inl ⟨by rfl, ?_⟩) hHeld ?_ ?_
   rotate_left
   ·rintro w' ⟨s0, s1, s2, s3⟩
    go_simp
    with_reducible rfl
   rotate_left
   ·simp only [Act.put, List.setIfInBounds_toArray, List.set_cons_zero, List.set_cons_succ, i64_w, i32_w]
    rfl
   refine join_ (σ := Value × Value × Value × Nat) 2 #[true, true, true, true, true, true, true, true, true, false, false] (fun s_ => [(29, .agg #[s_.1, .int .i64 t168]), (31, .agg #[s_.2.1, .int .i64 t172]), (32, .tuple #[.agg #[s_.2.2.1, .int .i64 t176], .bool t177]), (6, .pointer (some ⟨s_.2.2.2, 0, none⟩)), (27, .tuple #[.agg #[s_.2.2.1, .int .i64 t176], .bool t177]), (33, .agg #[s_.2.2.1, .int .i64 t176]), (34, .bool t177)]) (fun s_ w' => (w'.cell? ⟨gb161, 0, none⟩ = some (.slice A0_0 l0_0.length c0_0) ∧ w'.cell? ⟨gb161, 1, none⟩ = some (.int .i64 a0_1) ∧ w'.cell? ⟨gb162, 0, none⟩ = some (.slice A1_0 l1_0.length c1_0) ∧ w'.cell? ⟨gb162, 1, none⟩ = some (.int .i64 a1_1)) ∧ (Kd.R (Kd.int .i64) 3 w' w.heap.size (fun k_ => some k_ ≠ (s_.2.1 : Value).ownBlock ∧ some k_ ≠ (s_.2.2.1 : Value).ownBlock) s_.1 t165) ∧ (Kd.R (Kd.int .i64) 3 w' w.heap.size (fun k_ => some k_ ≠ (s_.1 : Value).ownBlock ∧ some k_ ≠ (s_.2.2.1 : Value).ownBlock) s_.2.1 t169) ∧ (Kd.R (Kd.int .i64) 3 w' w.heap.size (fun k_ => some k_ ≠ (s_.1 : Value).ownBlock ∧ some k_ ≠ (s_.2.1 : Value).ownBlock) s_.2.2.1 t173) ∧ (w'.heap[gb161]? = some (.cells #[.slice A0_0 l0_0.length c0_0, .int .i64 a0_1] 34 (0, 0))) ∧ (w'.heap[gb162]? = some (.cells #[.slice A1_0 l1_0.length c1_0, .int .i64 a1_1] 34 (0, 0))) ∧ (w'.heap[s_.2.2.2]? = some (.cells #[.slice none 0 0, .int .i64 0] 24 (0, 0))) ∧ (w.heap.size ≤ s_.2.2.2) ∧ (w.heap.size ≤ s_.2.2.2) ∧ (gb161 ≠ s_.2.2.2) ∧ (s_.2.2.2 ≠ gb161) ∧ (gb162 ≠ s_.2.2.2) ∧ (s_.2.2.2 ≠ gb162) ∧ (Below w.heap.size w w')) ?_ ?_
   rotate_left
   ·intro hCont
    refine two_ (i := 1) (j := 8) (Ni := some 29) (Nj := some 6) #[true, true, true, false, false, false, false, false, false, false, false] #[true, false, true, false, false, false, false, false, true, false, false] rfl rfl rfl rfl (two_of HT_.out (by kernel_rfl)) (by decide) (by decide) (fun K hK => ?_) (fun K hK => ?_)
    ·skip
     refine xgo_ Try.func23 #[.agg #[.slice A0_0 l0_0.length c0_0, .int .i64 a0_1]] ?_
     with_reducible refine (laws_toSketch.calls k _ _ l0_0 a0_1 t165 t168 _ ?side1 ?side2 A19.out).mono ?_
     (case side1 => exact xc_ ((Kd.C_below HR0_0.out HB.out)))
     (case side2 => exact HC0_0.out)
     rintro e w34 ⟨v166, rfl, ho0, hb⟩
     refine ⟨_, rfl, ?_⟩
     have HO167 := Aside0.mk (Kd.R_lower ho0 (below_size (xw_ HB)))
     replace BK161 := xbb_ BK161 hb
     replace BK162 := xbb_ BK162 hb
     replace HB := xws_ HB hb
     (try clear hb)
     (try clear hb2)
     (try clear hk)
     (try clear hi)
     (try clear ho0)
     refine hK.out _ _ ⟨xk_ BK161 0, xk_ BK161 1, xk_ BK162 0, xk_ BK162 1⟩ (fun hHeld => ?_)
     clear hK K
     refine norm_ (a' := ?_) ?_ ?_
     rotate_left
     ·show Act.put _ (some 29) _ = _
      simp only [Act.put, List.setIfInBounds_toArray, List.set_cons_zero, List.set_cons_succ, i64_w, i32_w]
      rfl
     refine two_ (i := 3) (j := 8) (Ni := some 31) (Nj := some 6) #[true, true, true, true, false, false, false, false, false, false, false] #[true, true, true, false, false, false, false, false, true, false, false] rfl rfl rfl rfl (two_of HT_.out (by kernel_rfl)) (by decide) (by decide) (fun K hK => ?_) (fun K hK => ?_)
     ·skip
      refine xgo_ Try.func23 #[.agg #[.slice A1_0 l1_0.length c1_0, .int .i64 a1_1]] ?_
      with_reducible refine (laws_toSketch.calls k _ _ l1_0 a1_1 t169 t172 _ ?side1 ?side2 A20.out).mono ?_
      (case side1 => exact xc_ ((Kd.C_below HR1_0.out HB.out)))
      (case side2 => exact HC1_0.out)
      rintro e w35 ⟨v170, rfl, ho0, hb⟩
      refine ⟨_, rfl, ?_⟩
      have HO171 := Aside0.mk (Kd.R_lower (Kd.R_new' ho0 (Kd.R_lt (xr_ HO167))) (below_size (xw_ HB)))
      replace HO167 := xre_ HO167 ho0 hb
      replace BK161 := xbb_ BK161 hb
      replace BK162 := xbb_ BK162 hb
      replace HB := xws_ HB hb
      (try clear hb)
      (try clear hb2)
      (try clear hk)
      (try clear hi)
      (try clear ho0)
      obtain ⟨Ao36, co36, eo36⟩ := Kd.R_slice HO167.out
      (first | subst eo36 | (injection eo36 with f1_ f2_ f3_; have f4_ := f1_.symm; have f5_ := f3_.symm; clear f1_ f2_ f3_; subst f4_; subst f5_))
      obtain ⟨Ao37, co37, eo37⟩ := Kd.R_slice HO171.out
      (first | subst eo37 | (injection eo37 with f1_ f2_ f3_; have f4_ := f1_.symm; have f5_ := f3_.symm; clear f1_ f2_ f3_; subst f4_; subst f5_))
      refine hK.out _ _ ⟨xk_ BK161 0, xk_ BK161 1, xk_ BK162 0, xk_ BK162 1⟩ (fun hHeld => ?_)
      clear hK K
      refine norm_ (a' := ?_) ?_ ?_
      rotate_left
      ·show Act.put _ (some 31) _ = _
       simp only [Act.put, List.setIfInBounds_toArray, List.set_cons_zero, List.set_cons_succ, i64_w, i32_w]
       rfl
      refine two_ (i := 4) (j := 8) (Ni := some 32) (Nj := some 6) #[true, true, true, true, true, false, false, false, false, false, false] #[true, true, true, true, false, false, false, false, true, false, false] rfl rfl rfl rfl (two_of HT_.out (by kernel_rfl)) (by decide) (by decide) (fun K hK => ?_) (fun K hK => ?_)
      ·skip
       refine xgo_ Try.func29 #[.agg #[.slice Ao36 t165.length co36, .int .i64 t168], .agg #[.slice Ao37 t169.length co37, .int .i64 t172]] ?_
       with_reducible refine (spec_JoinSketches.calls k _ _ t165 t168 _ _ t169 t172 t173 t176 t177 _ ?side1 ?side2 ?side3 ?side4 A21.out).mono ?_
       (case side1 => exact xc_ ((Kd.R_reads' HO167.out).2.2))
       (case side2 => exact (Kd.R_reads' HO167.out).2.1)
       (case side3 => exact xc_ ((Kd.R_reads' HO171.out).2.2))
       (case side4 => exact (Kd.R_reads' HO171.out).2.1)
       rintro e w38 ⟨v174, rfl, ho0, hb⟩
       refine ⟨_, rfl, ?_⟩
       have HO175 := Aside0.mk (Kd.R_lower (Kd.R_new' (Kd.R_new' ho0 (Kd.R_lt (xr_ HO167))) (Kd.R_lt (xr_ HO171))) (below_size (xw_ HB)))
       replace HO167 := xre_ HO167 ho0 hb
       replace HO171 := xre_ HO171 ho0 hb
       replace BK161 := xbb_ BK161 hb
       replace BK162 := xbb_ BK162 hb
       replace HB := xws_ HB hb
       (try clear hb)
       (try clear hb2)
       (try clear hk)
       (try clear hi)
       (try clear ho0)
       refine hK.out _ _ ⟨xk_ BK161 0, xk_ BK161 1, xk_ BK162 0, xk_ BK162 1⟩ (fun hHeld => ?_)
       clear hK K
       refine norm_ (a' := ?_) ?_ ?_
       rotate_left
       ·show Act.put _ (some 32) _ = _
        simp only [Act.put, List.setIfInBounds_toArray, List.set_cons_zero, List.set_cons_succ, i64_w, i32_w]
        rfl
       refine pure_ (i := 5) (N := some 27) (v := ?_) (a' := ?_) #[true, true, true, true, true, true, false, false, false, false, false] rfl rfl (any_of HT_.out (by kernel_rfl)) (fun _ _ _ h => h) (Or.inl ⟨by rfl, ?_⟩) ?_ ?_
       rotate_left
       ·intro w'
        go_simp
        with_reducible rfl
       rotate_left
       ·simp only [Act.put, List.setIfInBounds_toArray, List.set_cons_zero, List.set_cons_succ, i64_w, i32_w]
        rfl
       refine pure_ (i := 6) (N := some 33) (v := ?_) (a' := ?_) #[true, true, true, true, true, true, true, false, false, false, false] rfl rfl (any_of HT_.out (by kernel_rfl)) (fun _ _ _ h => h) (Or.inl ⟨by rfl, ?_⟩) ?_ ?_
       rotate_left
       ·intro w'
        go_simp
        with_reducible rfl
       rotate_left
       ·simp only [Act.put, List.setIfInBounds_toArray, List.set_cons_zero, List.set_cons_succ, i64_w, i32_w]
        rfl
       refine pure_ (i := 7) (N := some 34) (v := ?_) (a' := ?_) #[true, true, true, true, true, true, true, true, false, false, false] rfl rfl (any_of HT_.out (by kernel_rfl)) (fun _ _ _ h => h) (Or.inl ⟨by rfl, ?_⟩) ?_ ?_
       rotate_left
       ·intro w'
        go_simp
        with_reducible rfl
       rotate_left
       ·simp only [Act.put, List.setIfInBounds_toArray, List.set_cons_zero, List.set_cons_succ, i64_w, i32_w]
        rfl
       refine one_ (i := 8) (N := some 6) #[true, true, true, true, true, true, true, true, true, false, false] rfl rfl (one_of HT_.out (by kernel_rfl)) (by decide) (fun K hK => ?_)
       refine box_step ?hg (N := 6) ?hd (cs := #[.slice none 0 0, .int .i64 0]) (t := 24) ?hr ?_; (case hd => rfl); (case hg => rfl); (case hr => first | (go_simp; done) | (go_simp; rfl))
       intro gb178 hg w39 hbox hb
       replace HO167 := xrb_ HO167 hb
       replace HO171 := xrb_ HO171 hb
       replace HO175 := xrb_ HO175 hb
       have BK178 := Aside0.mk (hbox)
       have GW178 := xge_ HB hg
       have GE178 := xge_ HB hg
       replace HB := xws_ HB hb
       have NB161_178 := xlt_ BK161 hg
       have NB178_161 := xgt_ BK161 hg
       replace BK161 := xbb_ BK161 hb
       have NB162_178 := xlt_ BK162 hg
       have NB178_162 := xgt_ BK162 hg
       replace BK162 := xbb_ BK162 hb
       clear hb hbox hg
       refine hK.out _ _ ⟨xk_ BK161 0, xk_ BK161 1, xk_ BK162 0, xk_ BK162 1⟩ (fun hHeld => ?_)
       clear hK K
       refine norm_ (a' := ?_) ?_ ?_
       rotate_left
       ·show Act.put _ (some 6) _ = _
        simp only [Act.put, List.setIfInBounds_toArray, List.set_cons_zero, List.set_cons_succ, i64_w, i32_w]
        rfl
       exact norm_ (by simp only [putAll, Act.put, List.setIfInBounds_toArray, List.set_cons_zero, List.set_cons_succ]) (hCont (.slice Ao36 t165.length co36, .slice Ao37 t169.length co37, v174, gb178) _ ⟨hHeld, (xrt_ (Kd.R_mono HO167.out (fun _ hk => ⟨hk.1.2, hk.2⟩))), (xrt_ (Kd.R_mono HO171.out (fun _ hk => ⟨hk.1.2, hk.2⟩))), (xrt_ (Kd.R_mono HO175.out (fun _ hk => ⟨hk.1.2, hk.2⟩))), xb_ BK161, xb_ BK162, xb_ BK178, GW178.out, GE178.out, NB161_178.out, NB178_161.out, NB162_178.out, NB178_162.out, xw_ HB⟩)
      ·skip
       refine box_step ?hg (N := 6) ?hd (cs := #[.slice none 0 0, .int .i64 0]) (t := 24) ?hr ?_; (case hd => rfl); (case hg => rfl); (case hr => first | (go_simp; done) | (go_simp; rfl))
       intro gb178 hg w36 hbox hb
       replace HO167 := xrb_ HO167 hb
       replace HO171 := xrb_ HO171 hb
       have BK178 := Aside0.mk (hbox)
       have GW178 := xge_ HB hg
       have GE178 := xge_ HB hg
       replace HB := xws_ HB hb
       have NB161_178 := xlt_ BK161 hg
       have NB178_161 := xgt_ BK161 hg
       replace BK161 := xbb_ BK161 hb
       have NB162_178 := xlt_ BK162 hg
       have NB178_162 := xgt_ BK162 hg
       replace BK162 := xbb_ BK162 hb
       clear hb hbox hg
       obtain ⟨Ao37, co37, eo37⟩ := Kd.R_slice HO167.out
       (first | subst eo37 | (injection eo37 with f1_ f2_ f3_; have f4_ := f1_.symm; have f5_ := f3_.symm; clear f1_ f2_ f3_; subst f4_; subst f5_))
       obtain ⟨Ao38, co38, eo38⟩ := Kd.R_slice HO171.out
       (first | subst eo38 | (injection eo38 with f1_ f2_ f3_; have f4_ := f1_.symm; have f5_ := f3_.symm; clear f1_ f2_ f3_; subst f4_; subst f5_))
       refine hK.out _ _ ⟨xk_ BK161 0, xk_ BK161 1, xk_ BK162 0, xk_ BK162 1⟩ (fun hHeld => ?_)
       clear hK K
       refine norm_ (a' := ?_) ?_ ?_
       rotate_left
       ·show Act.put _ (some 6) _ = _
        simp only [Act.put, List.setIfInBounds_toArray, List.set_cons_zero, List.set_cons_succ, i64_w, i32_w]
        rfl
       refine one_ (i := 4) (N := some 32) #[true, true, true, true, true, false, false, false, true, false, false] rfl rfl (one_of HT_.out (by kernel_rfl)) (by decide) (fun K hK => ?_)
       refine xgo_ Try.func29 #[.agg #[.slice Ao37 t165.length co37, .int .i64 t168], .agg #[.slice Ao38 t169.length co38, .int .i64 t172]] ?_
       with_reducible refine (spec_JoinSketches.calls k _ _ t165 t168 _ _ t169 t172 t173 t176 t177 _ ?side1 ?side2 ?side3 ?side4 A21.out).mono ?_
       (case side1 => exact xc_ ((Kd.R_reads' HO167.out).2.2))
       (case side2 => exact (Kd.R_reads' HO167.out).2.1)
       (case side3 => exact xc_ ((Kd.R_reads' HO171.out).2.2))
       (case side4 => exact (Kd.R_reads' HO171.out).2.1)
       rintro e w39 ⟨v174, rfl, ho0, hb⟩
       refine ⟨_, rfl, ?_⟩
       have HO175 := Aside0.mk (Kd.R_lower (Kd.R_new' (Kd.R_new' ho0 (Kd.R_lt (xr_ HO167))) (Kd.R_lt (xr_ HO171))) (below_size (xw_ HB)))
       replace HO167 := xre_ HO167 ho0 hb
       replace HO171 := xre_ HO171 ho0 hb
       replace BK161 := xbb_ BK161 hb
       replace BK162 := xbb_ BK162 hb
       replace BK178 := xbb_ BK178 hb
       replace HB := xws_ HB hb
       (try clear hb)
       (try clear hb2)
       (try clear hk)
       (try clear hi)
       (try clear ho0)
       refine hK.out _ _ ⟨xk_ BK161 0, xk_ BK161 1, xk_ BK162 0, xk_ BK162 1⟩ (fun hHeld => ?_)
       clear hK K
       refine norm_ (a' := ?_) ?_ ?_
       rotate_left
       ·show Act.put _ (some 32) _ = _
        simp only [Act.put, List.setIfInBounds_toArray, List.set_cons_zero, List.set_cons_succ, i64_w, i32_w]
        rfl
       refine pure_ (i := 5) (N := some 27) (v := ?_) (a' := ?_) #[true, true, true, true, true, true, false, false, true, false, false] rfl rfl (any_of HT_.out (by kernel_rfl)) (fun _ _ _ h => h) (Or.inl ⟨by rfl, ?_⟩) ?_ ?_
       rotate_left
       ·intro w'
        go_simp
        with_reducible rfl
       rotate_left
       ·simp only [Act.put, List.setIfInBounds_toArray, List.set_cons_zero, List.set_cons_succ, i64_w, i32_w]
        rfl
       refine pure_ (i := 6) (N := some 33) (v := ?_) (a' := ?_) #[true, true, true, true, true, true, true, false, true, false, false] rfl rfl (any_of HT_.out (by kernel_rfl)) (fun _ _ _ h => h) (Or.inl ⟨by rfl, ?_⟩) ?_ ?_
       rotate_left
       ·intro w'
        go_simp
        with_reducible rfl
       rotate_left
       ·simp only [Act.put, List.setIfInBounds_toArray, List.set_cons_zero, List.set_cons_succ, i64_w, i32_w]
        rfl
       refine pure_ (i := 7) (N := some 34) (v := ?_) (a' := ?_) #[true, true, true, true, true, true, true, true, true, false, false] rfl rfl (any_of HT_.out (by kernel_rfl)) (fun _ _ _ h => h) (Or.inl ⟨by rfl, ?_⟩) ?_ ?_
       rotate_left
       ·intro w'
        go_simp
        with_reducible rfl
       rotate_left
       ·simp only [Act.put, List.setIfInBounds_toArray, List.set_cons_zero, List.set_cons_succ, i64_w, i32_w]
        rfl
       exact norm_ (by simp only [putAll, Act.put, List.setIfInBounds_toArray, List.set_cons_zero, List.set_cons_succ]) (hCont (.slice Ao37 t165.length co37, .slice Ao38 t169.length co38, v174, gb178) _ ⟨hHeld, (xrt_ (Kd.R_mono HO167.out (fun _ hk => ⟨hk.1.2, hk.2⟩))), (xrt_ (Kd.R_mono HO171.out (fun _ hk => ⟨hk.1.2, hk.2⟩))), (xrt_ (Kd.R_mono HO175.out (fun _ hk => ⟨hk.1.2, hk.2⟩))), xb_ BK161, xb_ BK162, xb_ BK178, GW178.out, GE178.out, NB161_178.out, NB178_161.out, NB162_178.out, NB178_162.out, xw_ HB⟩)
     ·skip
      refine box_step ?hg (N := 6) ?hd (cs := #[.slice none 0 0, .int .i64 0]) (t := 24) ?hr ?_; (case hd => rfl); (case hg => rfl); (case hr => first | (go_simp; done) | (go_simp; rfl))
      intro gb178 hg w35 hbox hb
      replace HO167 := xrb_ HO167 hb
      have BK178 := Aside0.mk (hbox)
      have GW178 := xge_ HB hg
      have GE178 := xge_ HB hg
      replace HB := xws_ HB hb
      have NB161_178 := xlt_ BK161 hg
      have NB178_161 := xgt_ BK161 hg
      replace BK161 := xbb_ BK161 hb
      have NB162_178 := xlt_ BK162 hg
      have NB178_162 := xgt_ BK162 hg
      replace BK162 := xbb_ BK162 hb
      clear hb hbox hg
      refine hK.out _ _ ⟨xk_ BK161 0, xk_ BK161 1, xk_ BK162 0, xk_ BK162 1⟩ (fun hHeld => ?_)
      clear hK K
      refine norm_ (a' := ?_) ?_ ?_
      rotate_left
      ·show Act.put _ (some 6) _ = _
       simp only [Act.put, List.setIfInBounds_toArray, List.set_cons_zero, List.set_cons_succ, i64_w, i32_w]
       rfl
      refine one_ (i := 3) (N := some 31) #[true, true, true, true, false, false, false, false, true, false, false] rfl rfl (one_of HT_.out (by kernel_rfl)) (by decide) (fun K hK => ?_)
      refine xgo_ Try.func23 #[.agg #[.slice A1_0 l1_0.length c1_0, .int .i64 a1_1]] ?_
      with_reducible refine (laws_toSketch.calls k _ _ l1_0 a1_1 t169 t172 _ ?side1 ?side2 A20.out).mono ?_
      (case side1 => exact xc_ ((Kd.C_below HR1_0.out HB.out)))
      (case side2 => exact HC1_0.out)
      rintro e w36 ⟨v170, rfl, ho0, hb⟩
      refine ⟨_, rfl, ?_⟩
      have HO171 := Aside0.mk (Kd.R_lower (Kd.R_new' ho0 (Kd.R_lt (xr_ HO167))) (below_size (xw_ HB)))
      replace HO167 := xre_ HO167 ho0 hb
      replace BK161 := xbb_ BK161 hb
      replace BK162 := xbb_ BK162 hb
      replace BK178 := xbb_ BK178 hb
      replace HB := xws_ HB hb
      (try clear hb)
      (try clear hb2)
      (try clear hk)
      (try clear hi)
      (try clear ho0)
      obtain ⟨Ao37, co37, eo37⟩ := Kd.R_slice HO167.out
      (first | subst eo37 | (injection eo37 with f1_ f2_ f3_; have f4_ := f1_.symm; have f5_ := f3_.symm; clear f1_ f2_ f3_; subst f4_; subst f5_))
      obtain ⟨Ao38, co38, eo38⟩ := Kd.R_slice HO171.out
      (first | subst eo38 | (injection eo38 with f1_ f2_ f3_; have f4_ := f1_.symm; have f5_ := f3_.symm; clear f1_ f2_ f3_; subst f4_; subst f5_))
      refine hK.out _ _ ⟨xk_ BK161 0, xk_ BK161 1, xk_ BK162 0, xk_ BK162 1⟩ (fun hHeld => ?_)
      clear hK K
      refine norm_ (a' := ?_) ?_ ?_
      rotate_left
      ·show Act.put _ (some 31) _ = _
       simp only [Act.put, List.setIfInBounds_toArray, List.set_cons_zero, List.set_cons_succ, i64_w, i32_w]
       rfl
      refine one_ (i := 4) (N := some 32) #[true, true, true, true, true, false, false, false, true, false, false] rfl rfl (one_of HT_.out (by kernel_rfl)) (by decide) (fun K hK => ?_)
      refine xgo_ Try.func29 #[.agg #[.slice Ao37 t165.length co37, .int .i64 t168], .agg #[.slice Ao38 t169.length co38, .int .i64 t172]] ?_
      with_reducible refine (spec_JoinSketches.calls k _ _ t165 t168 _ _ t169 t172 t173 t176 t177 _ ?side1 ?side2 ?side3 ?side4 A21.out).mono ?_
      (case side1 => exact xc_ ((Kd.R_reads' HO167.out).2.2))
      (case side2 => exact (Kd.R_reads' HO167.out).2.1)
      (case side3 => exact xc_ ((Kd.R_reads' HO171.out).2.2))
      (case side4 => exact (Kd.R_reads' HO171.out).2.1)
      rintro e w39 ⟨v174, rfl, ho0, hb⟩
      refine ⟨_, rfl, ?_⟩
      have HO175 := Aside0.mk (Kd.R_lower (Kd.R_new' (Kd.R_new' ho0 (Kd.R_lt (xr_ HO167))) (Kd.R_lt (xr_ HO171))) (below_size (xw_ HB)))
      replace HO167 := xre_ HO167 ho0 hb
      replace HO171 := xre_ HO171 ho0 hb
      replace BK161 := xbb_ BK161 hb
      replace BK162 := xbb_ BK162 hb
      replace BK178 := xbb_ BK178 hb
      replace HB := xws_ HB hb
      (try clear hb)
      (try clear hb2)
      (try clear hk)
      (try clear hi)
      (try clear ho0)
      refine hK.out _ _ ⟨xk_ BK161 0, xk_ BK161 1, xk_ BK162 0, xk_ BK162 1⟩ (fun hHeld => ?_)
      clear hK K
      refine norm_ (a' := ?_) ?_ ?_
      rotate_left
      ·show Act.put _ (some 32) _ = _
       simp only [Act.put, List.setIfInBounds_toArray, List.set_cons_zero, List.set_cons_succ, i64_w, i32_w]
       rfl
      refine pure_ (i := 5) (N := some 27) (v := ?_) (a' := ?_) #[true, true, true, true, true, true, false, false, true, false, false] rfl rfl (any_of HT_.out (by kernel_rfl)) (fun _ _ _ h => h) (Or.inl ⟨by rfl, ?_⟩) ?_ ?_
      rotate_left
      ·intro w'
       go_simp
       with_reducible rfl
      rotate_left
      ·simp only [Act.put, List.setIfInBounds_toArray, List.set_cons_zero, List.set_cons_succ, i64_w, i32_w]
       rfl
      refine pure_ (i := 6) (N := some 33) (v := ?_) (a' := ?_) #[true, true, true, true, true, true, true, false, true, false, false] rfl rfl (any_of HT_.out (by kernel_rfl)) (fun _ _ _ h => h) (Or.inl ⟨by rfl, ?_⟩) ?_ ?_
      rotate_left
      ·intro w'
       go_simp
       with_reducible rfl
      rotate_left
      ·simp only [Act.put, List.setIfInBounds_toArray, List.set_cons_zero, List.set_cons_succ, i64_w, i32_w]
       rfl
      refine pure_ (i := 7) (N := some 34) (v := ?_) (a' := ?_) #[true, true, true, true, true, true, true, true, true, false, false] rfl rfl (any_of HT_.out (by kernel_rfl)) (fun _ _ _ h => h) (Or.inl ⟨by rfl, ?_⟩) ?_ ?_
      rotate_left
      ·intro w'
       go_simp
       with_reducible rfl
      rotate_left
      ·simp only [Act.put, List.setIfInBounds_toArray, List.set_cons_zero, List.set_cons_succ, i64_w, i32_w]
       rfl
      exact norm_ (by simp only [putAll, Act.put, List.setIfInBounds_toArray, List.set_cons_zero, List.set_cons_succ]) (hCont (.slice Ao37 t165.length co37, .slice Ao38 t169.length co38, v174, gb178) _ ⟨hHeld, (xrt_ (Kd.R_mono HO167.out (fun _ hk => ⟨hk.1.2, hk.2⟩))), (xrt_ (Kd.R_mono HO171.out (fun _ hk => ⟨hk.1.2, hk.2⟩))), (xrt_ (Kd.R_mono HO175.out (fun _ hk => ⟨hk.1.2, hk.2⟩))), xb_ BK161, xb_ BK162, xb_ BK178, GW178.out, GE178.out, NB161_178.out, NB178_161.out, NB162_178.out, NB178_162.out, xw_ HB⟩)
    ·skip
     refine box_step ?hg (N := 6) ?hd (cs := #[.slice none 0 0, .int .i64 0]) (t := 24) ?hr ?_; (case hd => rfl); (case hg => rfl); (case hr => first | (go_simp; done) | (go_simp; rfl))
     intro gb178 hg w34 hbox hb
     have BK178 := Aside0.mk (hbox)
     have GW178 := xge_ HB hg
     have GE178 := xge_ HB hg
     replace HB := xws_ HB hb
     have NB161_178 := xlt_ BK161 hg
     have NB178_161 := xgt_ BK161 hg
     replace BK161 := xbb_ BK161 hb
     have NB162_178 := xlt_ BK162 hg
     have NB178_162 := xgt_ BK162 hg
     replace BK162 := xbb_ BK162 hb
     clear hb hbox hg
     refine hK.out _ _ ⟨xk_ BK161 0, xk_ BK161 1, xk_ BK162 0, xk_ BK162 1⟩ (fun hHeld => ?_)
     clear hK K
     refine norm_ (a' := ?_) ?_ ?_
     rotate_left
     ·show Act.put _ (some 6) _ = _
      simp only [Act.put, List.setIfInBounds_toArray, List.set_cons_zero, List.set_cons_succ, i64_w, i32_w]
      rfl
     refine one_ (i := 1) (N := some 29) #[true, true, true, false, false, false, false, false, true, false, false] rfl rfl (one_of HT_.out (by kernel_rfl)) (by decide) (fun K hK => ?_)
     refine xgo_ Try.func23 #[.agg #[.slice A0_0 l0_0.length c0_0, .int .i64 a0_1]] ?_
     with_reducible refine (laws_toSketch.calls k _ _ l0_0 a0_1 t165 t168 _ ?side1 ?side2 A19.out).mono ?_
     (case side1 => exact xc_ ((Kd.C_below HR0_0.out HB.out)))
     (case side2 => exact HC0_0.out)
     rintro e w35 ⟨v166, rfl, ho0, hb⟩
     refine ⟨_, rfl, ?_⟩
     have HO167 := Aside0.mk (Kd.R_lower ho0 (below_size (xw_ HB)))
     replace BK161 := xbb_ BK161 hb
     replace BK162 := xbb_ BK162 hb
     replace BK178 := xbb_ BK178 hb
     replace HB := xws_ HB hb
     (try clear hb)
     (try clear hb2)
     (try clear hk)
     (try clear hi)
     (try clear ho0)
     refine hK.out _ _ ⟨xk_ BK161 0, xk_ BK161 1, xk_ BK162 0, xk_ BK162 1⟩ (fun hHeld => ?_)
     clear hK K
     refine norm_ (a' := ?_) ?_ ?_
     rotate_left
     ·show Act.put _ (some 29) _ = _
      simp only [Act.put, List.setIfInBounds_toArray, List.set_cons_zero, List.set_cons_succ, i64_w, i32_w]
      rfl
     refine one_ (i := 3) (N := some 31) #[true, true, true, true, false, false, false, false, true, false, false] rfl rfl (one_of HT_.out (by kernel_rfl)) (by decide) (fun K hK => ?_)
     refine xgo_ Try.func23 #[.agg #[.slice A1_0 l1_0.length c1_0, .int .i64 a1_1]] ?_
     with_reducible refine (laws_toSketch.calls k _ _ l1_0 a1_1 t169 t172 _ ?side1 ?side2 A20.out).mono ?_
     (case side1 => exact xc_ ((Kd.C_below HR1_0.out HB.out)))
     (case side2 => exact HC1_0.out)
     rintro e w36 ⟨v170, rfl, ho0, hb⟩
     refine ⟨_, rfl, ?_⟩
     have HO171 := Aside0.mk (Kd.R_lower (Kd.R_new' ho0 (Kd.R_lt (xr_ HO167))) (below_size (xw_ HB)))
     replace HO167 := xre_ HO167 ho0 hb
     replace BK161 := xbb_ BK161 hb
     replace BK162 := xbb_ BK162 hb
     replace BK178 := xbb_ BK178 hb
     replace HB := xws_ HB hb
     (try clear hb)
     (try clear hb2)
     (try clear hk)
     (try clear hi)
     (try clear ho0)
     obtain ⟨Ao37, co37, eo37⟩ := Kd.R_slice HO167.out
     (first | subst eo37 | (injection eo37 with f1_ f2_ f3_; have f4_ := f1_.symm; have f5_ := f3_.symm; clear f1_ f2_ f3_; subst f4_; subst f5_))
     obtain ⟨Ao38, co38, eo38⟩ := Kd.R_slice HO171.out
     (first | subst eo38 | (injection eo38 with f1_ f2_ f3_; have f4_ := f1_.symm; have f5_ := f3_.symm; clear f1_ f2_ f3_; subst f4_; subst f5_))
     refine hK.out _ _ ⟨xk_ BK161 0, xk_ BK161 1, xk_ BK162 0, xk_ BK162 1⟩ (fun hHeld => ?_)
     clear hK K
     refine norm_ (a' := ?_) ?_ ?_
     rotate_left
     ·show Act.put _ (some 31) _ = _
      simp only [Act.put, List.setIfInBounds_toArray, List.set_cons_zero, List.set_cons_succ, i64_w, i32_w]
      rfl
     refine one_ (i := 4) (N := some 32) #[true, true, true, true, true, false, false, false, true, false, false] rfl rfl (one_of HT_.out (by kernel_rfl)) (by decide) (fun K hK => ?_)
     refine xgo_ Try.func29 #[.agg #[.slice Ao37 t165.length co37, .int .i64 t168], .agg #[.slice Ao38 t169.length co38, .int .i64 t172]] ?_
     with_reducible refine (spec_JoinSketches.calls k _ _ t165 t168 _ _ t169 t172 t173 t176 t177 _ ?side1 ?side2 ?side3 ?side4 A21.out).mono ?_
     (case side1 => exact xc_ ((Kd.R_reads' HO167.out).2.2))
     (case side2 => exact (Kd.R_reads' HO167.out).2.1)
     (case side3 => exact xc_ ((Kd.R_reads' HO171.out).2.2))
     (case side4 => exact (Kd.R_reads' HO171.out).2.1)
     rintro e w39 ⟨v174, rfl, ho0, hb⟩
     refine ⟨_, rfl, ?_⟩
     have HO175 := Aside0.mk (Kd.R_lower (Kd.R_new' (Kd.R_new' ho0 (Kd.R_lt (xr_ HO167))) (Kd.R_lt (xr_ HO171))) (below_size (xw_ HB)))
     replace HO167 := xre_ HO167 ho0 hb
     replace HO171 := xre_ HO171 ho0 hb
     replace BK161 := xbb_ BK161 hb
     replace BK162 := xbb_ BK162 hb
     replace BK178 := xbb_ BK178 hb
     replace HB := xws_ HB hb
     (try clear hb)
     (try clear hb2)
     (try clear hk)
     (try clear hi)
     (try clear ho0)
     refine hK.out _ _ ⟨xk_ BK161 0, xk_ BK161 1, xk_ BK162 0, xk_ BK162 1⟩ (fun hHeld => ?_)
     clear hK K
     refine norm_ (a' := ?_) ?_ ?_
     rotate_left
     ·show Act.put _ (some 32) _ = _
      simp only [Act.put, List.setIfInBounds_toArray, List.set_cons_zero, List.set_cons_succ, i64_w, i32_w]
      rfl
     refine pure_ (i := 5) (N := some 27) (v := ?_) (a' := ?_) #[true, true, true, true, true, true, false, false, true, false, false] rfl rfl (any_of HT_.out (by kernel_rfl)) (fun _ _ _ h => h) (Or.inl ⟨by rfl, ?_⟩) ?_ ?_
     rotate_left
     ·intro w'
      go_simp
      with_reducible rfl
     rotate_left
     ·simp only [Act.put, List.setIfInBounds_toArray, List.set_cons_zero, List.set_cons_succ, i64_w, i32_w]
      rfl
     refine pure_ (i := 6) (N := some 33) (v := ?_) (a' := ?_) #[true, true, true, true, true, true, true, false, true, false, false] rfl rfl (any_of HT_.out (by kernel_rfl)) (fun _ _ _ h => h) (Or.inl ⟨by rfl, ?_⟩) ?_ ?_
     rotate_left
     ·intro w'
      go_simp
      with_reducible rfl
     rotate_left
     ·simp only [Act.put, List.setIfInBounds_toArray, List.set_cons_zero, List.set_cons_succ, i64_w, i32_w]
      rfl
     refine pure_ (i := 7) (N := some 34) (v := ?_) (a' := ?_) #[true, true, true, true, true, true, true, true, true, false, false] rfl rfl (any_of HT_.out (by kernel_rfl)) (fun _ _ _ h => h) (Or.inl ⟨by rfl, ?_⟩) ?_ ?_
     rotate_left
     ·intro w'
      go_simp
      with_reducible rfl
     rotate_left
     ·simp only [Act.put, List.setIfInBounds_toArray, List.set_cons_zero, List.set_cons_succ, i64_w, i32_w]
      rfl
     exact norm_ (by simp only [putAll, Act.put, List.setIfInBounds_toArray, List.set_cons_zero, List.set_cons_succ]) (hCont (.slice Ao37 t165.length co37, .slice Ao38 t169.length co38, v174, gb178) _ ⟨hHeld, (xrt_ (Kd.R_mono HO167.out (fun _ hk => ⟨hk.1.2, hk.2⟩))), (xrt_ (Kd.R_mono HO171.out (fun _ hk => ⟨hk.1.2, hk.2⟩))), (xrt_ (Kd.R_mono HO175.out (fun _ hk => ⟨hk.1.2, hk.2⟩))), xb_ BK161, xb_ BK162, xb_ BK178, GW178.out, GE178.out, NB161_178.out, NB178_161.out, NB162_178.out, NB178_162.out, xw_ HB⟩)
   rintro ⟨v166, v170, v174, gb178⟩ w40 ⟨hS_, h0_, h1_, h2_, h3_, h4_, h5_, h6_, h7_, h8_, h9_, h10_, h11_, h12_⟩
   have n0_ : Aside0 (Kd.R (Kd.int .i64) 3 w40 w.heap.size (fun k_ => some k_ ≠ (v170 : Value).ownBlock ∧ some k_ ≠ (v174 : Value).ownBlock) v166 t165) := ⟨h0_⟩
   have n1_ : Aside0 (Kd.R (Kd.int .i64) 3 w40 w.heap.size (fun k_ => some k_ ≠ (v166 : Value).ownBlock ∧ some k_ ≠ (v174 : Value).ownBlock) v170 t169) := ⟨h1_⟩
   have n2_ : Aside0 (Kd.R (Kd.int .i64) 3 w40 w.heap.size (fun k_ => some k_ ≠ (v166 : Value).ownBlock ∧ some k_ ≠ (v170 : Value).ownBlock) v174 t173) := ⟨h2_⟩
   have n3_ : Aside0 (w40.heap[gb161]? = some (.cells #[.slice A0_0 l0_0.length c0_0, .int .i64 a0_1] 34 (0, 0))) := ⟨h3_⟩
   have n4_ : Aside0 (w40.heap[gb162]? = some (.cells #[.slice A1_0 l1_0.length c1_0, .int .i64 a1_1] 34 (0, 0))) := ⟨h4_⟩
   have n5_ : Aside0 (w40.heap[gb178]? = some (.cells #[.slice none 0 0, .int .i64 0] 24 (0, 0))) := ⟨h5_⟩
   have n6_ : Aside0 (w.heap.size ≤ gb178) := ⟨h6_⟩
   have n7_ : Aside0 (w.heap.size ≤ gb178) := ⟨h7_⟩
   have n8_ : Aside0 (gb161 ≠ gb178) := ⟨h8_⟩
   have n9_ : Aside0 (gb178 ≠ gb161) := ⟨h9_⟩
   have n10_ : Aside0 (gb162 ≠ gb178) := ⟨h10_⟩
   have n11_ : Aside0 (gb178 ≠ gb162) := ⟨h11_⟩
   have n12_ : Aside0 (Below w.heap.size w w40) := ⟨h12_⟩
   clear BK161
   clear BK162
   clear HB
   clear h0_ h1_ h2_ h3_ h4_ h5_ h6_ h7_ h8_ h9_ h10_ h11_ h12_
   have HO167 := n0_
   have HO171 := n1_
   have HO175 := n2_
   have BK161 := n3_
   have BK162 := n4_
   have BK178 := n5_
   have GW178 := n6_
   have GE178 := n7_
   have NB161_178 := n8_
   have NB178_161 := n9_
   have NB162_178 := n10_
   have NB178_162 := n11_
   have HB := n12_
   clear n0_ n1_ n2_ n3_ n4_ n5_ n6_ n7_ n8_ n9_ n10_ n11_ n12_
   have hHeld : w40.cell? ⟨gb161, 0, none⟩ = some (.slice A0_0 l0_0.length c0_0) ∧ w40.cell? ⟨gb161, 1, none⟩ = some (.int .i64 a0_1) ∧ w40.cell? ⟨gb162, 0, none⟩ = some (.slice A1_0 l1_0.length c1_0) ∧ w40.cell? ⟨gb162, 1, none⟩ = some (.int .i64 a1_1) := hS_
   obtain ⟨Ao41, co41, eo41⟩ := Kd.R_slice HO175.out
   (first | subst eo41 | (injection eo41 with f1_ f2_ f3_; have f4_ := f1_.symm; have f5_ := f3_.symm; clear f1_ f2_ f3_; subst f4_; subst f5_))
   refine norm_ (a' := ?_) ?_ ?_
   rotate_left
   ·simp only [putAll, Act.put, List.setIfInBounds_toArray, List.set_cons_zero, List.set_cons_succ]
    rfl
   refine one_ (i := 9) (N := none) #[true, true, true, true, true, true, true, true, true, true, false] rfl rfl (one_of HT_.out (by kernel_rfl)) (by decide) (fun K hK => ?_)
   have hs42 : w40.cell? ⟨gb178, 0, none⟩ = some (.slice none 0 0) := xk_ BK178 0
   have hfs42 := blk_frozen BK178.out 0
   have hns42_0 := NB161_178.out
   have hns42_1 := NB162_178.out
   have hms42_0 := NB178_161.out
   have hms42_1 := NB178_162.out
   have hs43 : w40.cell? ⟨gb178, 1, none⟩ = some (.int .i64 0) := xk_ BK178 1
   have hfs43 := blk_frozen BK178.out 1
   have hns43_0 := NB161_178.out
   have hns43_1 := NB162_178.out
   have hms43_0 := NB178_161.out
   have hms43_1 := NB178_162.out
   refine skip_ (w1 := ?_) (by rfl) rfl ?_ ?_
   rotate_left
   ·go_simp
    rfl
   refine hK.out _ _ ⟨((cell_far (p := ⟨gb178, _, none⟩) NB161_178.out _).trans (((cell_far (p := ⟨gb178, _, none⟩) NB161_178.out _).trans (hHeld.1)))), ((cell_far (p := ⟨gb178, _, none⟩) NB161_178.out _).trans (((cell_far (p := ⟨gb178, _, none⟩) NB161_178.out _).trans (hHeld.2.1)))), ((cell_far (p := ⟨gb178, _, none⟩) NB162_178.out _).trans (((cell_far (p := ⟨gb178, _, none⟩) NB162_178.out _).trans (hHeld.2.2.1)))), ((cell_far (p := ⟨gb178, _, none⟩) NB162_178.out _).trans (((cell_far (p := ⟨gb178, _, none⟩) NB162_178.out _).trans (hHeld.2.2.2))))⟩ (fun hHeld => ?_)
   clear hK K
   refine pure_ (i := 10) (N := some 7) (v := ?_) (a' := ?_) #[true, true, true, true, true, true, true, true, true, true, true] rfl rfl (any_of HT_.out (by kernel_rfl)) (fun _ _ _ h => h) (Or.inl ⟨by rfl, ?_⟩) ?_ ?_
   rotate_left
   ·intro w'
    go_simp
    with_reducible rfl
   rotate_left
   ·simp only [Act.put, List.setIfInBounds_toArray, List.set_cons_zero, List.set_cons_succ, i64_w, i32_w]
    rfl
   refine done_ (done_of HT_.out (by kernel_rfl)) ?_
   have hnb44 := NB161_178.out
   have hnc44 := NB178_161.out
   have hcz45_0 : w40.cell? ⟨gb161, 0, none⟩ = some (.slice A0_0 l0_0.length c0_0) := xk_ BK161 0
   have hcz45_1 : w40.cell? ⟨gb161, 1, none⟩ = some (.int .i64 a0_1) := xk_ BK161 1
   have hfz45_0 := blk_frozen BK161.out 0
   have hfz45_1 := blk_frozen BK161.out 1
   go_upto_region 12 with (first | ((with_reducible refine gate_callee (f := 23) rfl ?_); refine xgl_ (some 36) Try.func23 #[.agg #[.slice A0_0 l0_0.length c0_0, .int .i64 a0_1]] ?_; (with_reducible refine (laws_toSketch.calls k _ _ l0_0 a0_1 t179 t182 _ ?side1 ?side2 A22.out).mono ?_); (case side1 => exact Kd.C_below HR0_0.out (xw_ HB)); (case side2 => exact HC0_0.out); rintro e w46 ⟨v180, rfl, ho0, hb⟩; refine ⟨_, rfl, ?_⟩; have HO181 := Aside0.mk (Kd.R_lower (Kd.R_new' (Kd.R_new' (Kd.R_new' ho0 (Kd.R_lt (xrt_ ((Kd.R_mono (Kd.R_far (p := ⟨gb178, 1, none⟩) (Kd.R_far (p := ⟨gb178, 0, none⟩) (Kd.R_types HO167.out BK178.out (by decide)) (fun _ hk => hk.2) (.slice Ao41 t173.length co41)) (fun _ hk => hk.2) (.int .i64 t176)) (fun _ h_ => h_.1)))))) (Kd.R_lt (xrt_ ((Kd.R_mono (Kd.R_far (p := ⟨gb178, 1, none⟩) (Kd.R_far (p := ⟨gb178, 0, none⟩) (Kd.R_types HO171.out BK178.out (by decide)) (fun _ hk => hk.2) (.slice Ao41 t173.length co41)) (fun _ hk => hk.2) (.int .i64 t176)) (fun _ h_ => h_.1)))))) (Kd.R_lt (xrt_ ((Kd.R_mono (Kd.R_far (p := ⟨gb178, 1, none⟩) (Kd.R_far (p := ⟨gb178, 0, none⟩) (Kd.R_types HO175.out BK178.out (by decide)) (fun _ hk => hk.2) (.slice Ao41 t173.length co41)) (fun _ hk => hk.2) (.int .i64 t176)) (fun _ h_ => h_.1)))))) (below_size (xw_ HB))); replace HO167 := Aside0.mk (Kd.R_elder' (xrt_ ((Kd.R_mono (Kd.R_far (p := ⟨gb178, 1, none⟩) (Kd.R_far (p := ⟨gb178, 0, none⟩) (Kd.R_types HO167.out BK178.out (by decide)) (fun _ hk => hk.2) (.slice Ao41 t173.length co41)) (fun _ hk => hk.2) (.int .i64 t176)) (fun _ h_ => h_.1)))) (Kd.R_base ho0) hb); replace HO171 := Aside0.mk (Kd.R_elder' (xrt_ ((Kd.R_mono (Kd.R_far (p := ⟨gb178, 1, none⟩) (Kd.R_far (p := ⟨gb178, 0, none⟩) (Kd.R_types HO171.out BK178.out (by decide)) (fun _ hk => hk.2) (.slice Ao41 t173.length co41)) (fun _ hk => hk.2) (.int .i64 t176)) (fun _ h_ => h_.1)))) (Kd.R_base ho0) hb); replace HO175 := Aside0.mk (Kd.R_elder' (xrt_ ((Kd.R_mono (Kd.R_far (p := ⟨gb178, 1, none⟩) (Kd.R_far (p := ⟨gb178, 0, none⟩) (Kd.R_types HO175.out BK178.out (by decide)) (fun _ hk => hk.2) (.slice Ao41 t173.length co41)) (fun _ hk => hk.2) (.int .i64 t176)) (fun _ h_ => h_.1)))) (Kd.R_base ho0) hb); replace BK161 := Aside0.mk (blk_below (g := gb161) (o := .cells #[.slice A0_0 l0_0.length c0_0, .int .i64 a0_1] 34 (0, 0)) (by (with_reducible repeat (first | refine blk_drewN ?_ _ | refine blk_drew ?_ | refine blk_alloc ?_ _)); refine blk_far ?_ NB161_178.out _; (with_reducible repeat (first | refine blk_drewN ?_ _ | refine blk_drew ?_ | refine blk_alloc ?_ _)); refine blk_far ?_ NB161_178.out _; (with_reducible repeat (first | refine blk_drewN ?_ _ | refine blk_drew ?_ | refine blk_alloc ?_ _)); exact BK161.out) hb); replace BK162 := Aside0.mk (blk_below (g := gb162) (o := .cells #[.slice A1_0 l1_0.length c1_0, .int .i64 a1_1] 34 (0, 0)) (by (with_reducible repeat (first | refine blk_drewN ?_ _ | refine blk_drew ?_ | refine blk_alloc ?_ _)); refine blk_far ?_ NB162_178.out _; (with_reducible repeat (first | refine blk_drewN ?_ _ | refine blk_drew ?_ | refine blk_alloc ?_ _)); refine blk_far ?_ NB162_178.out _; (with_reducible repeat (first | refine blk_drewN ?_ _ | refine blk_drew ?_ | refine blk_alloc ?_ _)); exact BK162.out) hb); replace BK178 := Aside0.mk (blk_below (g := gb178) (o := .cells #[.slice Ao41 t173.length co41, .int .i64 t176] 24 (0, 0)) (by (with_reducible repeat (first | refine blk_drewN ?_ _ | refine blk_drew ?_ | refine blk_alloc ?_ _)); refine blk_put (cs := #[.slice Ao41 t173.length co41, .int .i64 0]) ?_ 1 _ rfl; (with_reducible repeat (first | refine blk_drewN ?_ _ | refine blk_drew ?_ | refine blk_alloc ?_ _)); refine blk_put (cs := #[.slice none 0 0, .int .i64 0]) ?_ 0 _ rfl; (with_reducible repeat (first | refine blk_drewN ?_ _ | refine blk_drew ?_ | refine blk_alloc ?_ _)); exact BK178.out) hb); replace HB := xws_ HB hb; (try clear hb); (try clear hb2); (try clear hk); (try clear hi); (try clear ho0)) | ((with_reducible refine gate_dst (N := 8) rfl ?_); refine xbe_ (N := 8) (cs := #[.slice none 0 0, .int .i64 0]) (t := 24) ?_; intro gb183 hg w47 hbox hb; replace HO167 := xrb_ HO167 hb; replace HO171 := xrb_ HO171 hb; replace HO175 := xrb_ HO175 hb; replace HO181 := xrb_ HO181 hb; have BK183 := Aside0.mk (hbox); have GW183 := xge_ HB hg; have GE183 := xge_ HB hg; replace HB := xws_ HB hb; have NB161_183 := xlt_ BK161 hg; have NB183_161 := xgt_ BK161 hg; replace BK161 := xbb_ BK161 hb; have NB162_183 := xlt_ BK162 hg; have NB183_162 := xgt_ BK162 hg; replace BK162 := xbb_ BK162 hb; have NB178_183 := xlt_ BK178 hg; have NB183_178 := xgt_ BK178 hg; replace BK178 := xbb_ BK178 hb; clear hb hbox hg; obtain ⟨Ao48, co48, eo48⟩ := Kd.R_slice HO181.out; subst eo48; have hnb49 := NB183_161.out; have hnc49 := NB161_183.out; have hnb50 := NB183_162.out; have hnc50 := NB162_183.out; have hnb51 := NB183_178.out; have hnc51 := NB178_183.out; have hcz52_0 : w47.cell? ⟨gb183, 0, none⟩ = some (.slice none 0 0) := xk_ BK183 0; have hcz52_1 : w47.cell? ⟨gb183, 1, none⟩ = some (.int .i64 0) := xk_ BK183 1; have hfz52_0 := blk_frozen BK183.out 0; have hfz52_1 := blk_frozen BK183.out 1; have hnb53 := NB162_178.out; have hnc53 := NB178_162.out; have hcz54_0 : w47.cell? ⟨gb162, 0, none⟩ = some (.slice A1_0 l1_0.length c1_0) := xk_ BK162 0; have hcz54_1 : w47.cell? ⟨gb162, 1, none⟩ = some (.int .i64 a1_1) := xk_ BK162 1; have hfz54_0 := blk_frozen BK162.out 0; have hfz54_1 := blk_frozen BK162.out 1) | ((with_reducible refine gate_callee (f := 23) rfl ?_); refine xgl_ (some 38) Try.func23 #[.agg #[.slice A1_0 l1_0.length c1_0, .int .i64 a1_1]] ?_; (with_reducible refine (laws_toSketch.calls k _ _ l1_0 a1_1 t184 t187 _ ?side1 ?side2 A23.out).mono ?_); (case side1 => exact Kd.C_below HR1_0.out (xw_ HB)); (case side2 => exact HC1_0.out); rintro e w55 ⟨v185, rfl, ho0, hb⟩; refine ⟨_, rfl, ?_⟩; have HO186 := Aside0.mk (Kd.R_lower (Kd.R_new' (Kd.R_new' (Kd.R_new' (Kd.R_new' ho0 (Kd.R_lt (xrt_ ((Kd.R_mono (Kd.R_far (p := ⟨gb183, 1, none⟩) (Kd.R_far (p := ⟨gb183, 0, none⟩) (Kd.R_types HO167.out BK183.out (by decide)) (fun _ hk => hk.2) (.slice Ao48 t179.length co48)) (fun _ hk => hk.2) (.int .i64 t182)) (fun _ h_ => h_.1)))))) (Kd.R_lt (xrt_ ((Kd.R_mono (Kd.R_far (p := ⟨gb183, 1, none⟩) (Kd.R_far (p := ⟨gb183, 0, none⟩) (Kd.R_types HO171.out BK183.out (by decide)) (fun _ hk => hk.2) (.slice Ao48 t179.length co48)) (fun _ hk => hk.2) (.int .i64 t182)) (fun _ h_ => h_.1)))))) (Kd.R_lt (xrt_ ((Kd.R_mono (Kd.R_far (p := ⟨gb183, 1, none⟩) (Kd.R_far (p := ⟨gb183, 0, none⟩) (Kd.R_types HO175.out BK183.out (by decide)) (fun _ hk => hk.2) (.slice Ao48 t179.length co48)) (fun _ hk => hk.2) (.int .i64 t182)) (fun _ h_ => h_.1)))))) (Kd.R_lt (xrt_ ((Kd.R_mono (Kd.R_far (p := ⟨gb183, 1, none⟩) (Kd.R_far (p := ⟨gb183, 0, none⟩) (Kd.R_types HO181.out BK183.out (by decide)) (fun _ hk => hk.2) (.slice Ao48 t179.length co48)) (fun _ hk => hk.2) (.int .i64 t182)) (fun _ h_ => h_.1)))))) (below_size (xw_ HB))); replace HO167 := Aside0.mk (Kd.R_elder' (xrt_ ((Kd.R_mono (Kd.R_far (p := ⟨gb183, 1, none⟩) (Kd.R_far (p := ⟨gb183, 0, none⟩) (Kd.R_types HO167.out BK183.out (by decide)) (fun _ hk => hk.2) (.slice Ao48 t179.length co48)) (fun _ hk => hk.2) (.int .i64 t182)) (fun _ h_ => h_.1)))) (Kd.R_base ho0) hb); replace HO171 := Aside0.mk (Kd.R_elder' (xrt_ ((Kd.R_mono (Kd.R_far (p := ⟨gb183, 1, none⟩) (Kd.R_far (p := ⟨gb183, 0, none⟩) (Kd.R_types HO171.out BK183.out (by decide)) (fun _ hk => hk.2) (.slice Ao48 t179.length co48)) (fun _ hk => hk.2) (.int .i64 t182)) (fun _ h_ => h_.1)))) (Kd.R_base ho0) hb); replace HO175 := Aside0.mk (Kd.R_elder' (xrt_ ((Kd.R_mono (Kd.R_far (p := ⟨gb183, 1, none⟩) (Kd.R_far (p := ⟨gb183, 0, none⟩) (Kd.R_types HO175.out BK183.out (by decide)) (fun _ hk => hk.2) (.slice Ao48 t179.length co48)) (fun _ hk => hk.2) (.int .i64 t182)) (fun _ h_ => h_.1)))) (Kd.R_base ho0) hb); replace HO181 := Aside0.mk (Kd.R_elder' (xrt_ ((Kd.R_mono (Kd.R_far (p := ⟨gb183, 1, none⟩) (Kd.R_far (p := ⟨gb183, 0, none⟩) (Kd.R_types HO181.out BK183.out (by decide)) (fun _ hk => hk.2) (.slice Ao48 t179.length co48)) (fun _ hk => hk.2) (.int .i64 t182)) (fun _ h_ => h_.1)))) (Kd.R_base ho0) hb); replace BK161 := Aside0.mk (blk_below (g := gb161) (o := .cells #[.slice A0_0 l0_0.length c0_0, .int .i64 a0_1] 34 (0, 0)) (by (with_reducible repeat (first | refine blk_drewN ?_ _ | refine blk_drew ?_ | refine blk_alloc ?_ _)); refine blk_far ?_ NB161_183.out _; (with_reducible repeat (first | refine blk_drewN ?_ _ | refine blk_drew ?_ | refine blk_alloc ?_ _)); refine blk_far ?_ NB161_183.out _; (with_reducible repeat (first | refine blk_drewN ?_ _ | refine blk_drew ?_ | refine blk_alloc ?_ _)); exact BK161.out) hb); replace BK162 := Aside0.mk (blk_below (g := gb162) (o := .cells #[.slice A1_0 l1_0.length c1_0, .int .i64 a1_1] 34 (0, 0)) (by (with_reducible repeat (first | refine blk_drewN ?_ _ | refine blk_drew ?_ | refine blk_alloc ?_ _)); refine blk_far ?_ NB162_183.out _; (with_reducible repeat (first | refine blk_drewN ?_ _ | refine blk_drew ?_ | refine blk_alloc ?_ _)); refine blk_far ?_ NB162_183.out _; (with_reducible repeat (first | refine blk_drewN ?_ _ | refine blk_drew ?_ | refine blk_alloc ?_ _)); exact BK162.out) hb); replace BK178 := Aside0.mk (blk_below (g := gb178) (o := .cells #[.slice Ao41 t173.length co41, .int .i64 t176] 24 (0, 0)) (by (with_reducible repeat (first | refine blk_drewN ?_ _ | refine blk_drew ?_ | refine blk_alloc ?_ _)); refine blk_far ?_ NB178_183.out _; (with_reducible repeat (first | refine blk_drewN ?_ _ | refine blk_drew ?_ | refine blk_alloc ?_ _)); refine blk_far ?_ NB178_183.out _; (with_reducible repeat (first | refine blk_drewN ?_ _ | refine blk_drew ?_ | refine blk_alloc ?_ _)); exact BK178.out) hb); replace BK183 := Aside0.mk (blk_below (g := gb183) (o := .cells #[.slice Ao48 t179.length co48, .int .i64 t182] 24 (0, 0)) (by (with_reducible repeat (first | refine blk_drewN ?_ _ | refine blk_drew ?_ | refine blk_alloc ?_ _)); refine blk_put (cs := #[.slice Ao48 t179.length co48, .int .i64 0]) ?_ 1 _ rfl; (with_reducible repeat (first | refine blk_drewN ?_ _ | refine blk_drew ?_ | refine blk_alloc ?_ _)); refine blk_put (cs := #[.slice none 0 0, .int .i64 0]) ?_ 0 _ rfl; (with_reducible repeat (first | refine blk_drewN ?_ _ | refine blk_drew ?_ | refine blk_alloc ?_ _)); exact BK183.out) hb); replace HB := xws_ HB hb; (try clear hb); (try clear hb2); (try clear hk); (try clear hi); (try clear ho0)) | ((with_reducible refine gate_dst (N := 9) rfl ?_); refine xbe_ (N := 9) (cs := #[.slice none 0 0, .int .i64 0]) (t := 24) ?_; intro gb188 hg w56 hbox hb; replace HO167 := xrb_ HO167 hb; replace HO171 := xrb_ HO171 hb; replace HO175 := xrb_ HO175 hb; replace HO181 := xrb_ HO181 hb; replace HO186 := xrb_ HO186 hb; have BK188 := Aside0.mk (hbox); have GW188 := xge_ HB hg; have GE188 := xge_ HB hg; replace HB := xws_ HB hb; have NB161_188 := xlt_ BK161 hg; have NB188_161 := xgt_ BK161 hg; replace BK161 := xbb_ BK161 hb; have NB162_188 := xlt_ BK162 hg; have NB188_162 := xgt_ BK162 hg; replace BK162 := xbb_ BK162 hb; have NB178_188 := xlt_ BK178 hg; have NB188_178 := xgt_ BK178 hg; replace BK178 := xbb_ BK178 hb; have NB183_188 := xlt_ BK183 hg; have NB188_183 := xgt_ BK183 hg; replace BK183 := xbb_ BK183 hb; clear hb hbox hg; obtain ⟨Ao57, co57, eo57⟩ := Kd.R_slice HO186.out; subst eo57; have hnb58 := NB188_161.out; have hnc58 := NB161_188.out; have hnb59 := NB188_162.out; have hnc59 := NB162_188.out; have hnb60 := NB188_178.out; have hnc60 := NB178_188.out; have hnb61 := NB188_183.out; have hnc61 := NB183_188.out; have hcz62_0 : w56.cell? ⟨gb188, 0, none⟩ = some (.slice none 0 0) := xk_ BK188 0; have hcz62_1 : w56.cell? ⟨gb188, 1, none⟩ = some (.int .i64 0) := xk_ BK188 1; have hfz62_0 := blk_frozen BK188.out 0; have hfz62_1 := blk_frozen BK188.out 1; have hcz63_0 : w56.cell? ⟨gb183, 0, none⟩ = some (.slice Ao48 t179.length co48) := xk_ BK183 0; have hcz63_1 : w56.cell? ⟨gb183, 1, none⟩ = some (.int .i64 t182) := xk_ BK183 1; have hfz63_0 := blk_frozen BK183.out 0; have hfz63_1 := blk_frozen BK183.out 1) | ((with_reducible refine gate_callee (f := 30) rfl ?_); refine xgl_ (some 42) Try.func30 #[.agg #[.slice Ao48 t179.length co48, .int .i64 t182], .agg #[.slice Ao57 t184.length co57, .int .i64 t187]] ?_; (with_reducible refine (impl_JoinSketches.calls k _ _ t179 t182 _ _ t184 t187 t189 t192 t193 _ ?side1 ?side2 ?side3 ?side4 A24.out).mono ?_); (case side1 => refine (Kd.R_reads' (e := 3) (base := w.heap.size) (ok := fun k_ => ((((True ∧ some k_ ≠ (v166 : Value).ownBlock) ∧ some k_ ≠ (v170 : Value).ownBlock) ∧ some k_ ≠ (.slice Ao41 t173.length co41 : Value).ownBlock) ∧ some k_ ≠ (.slice Ao57 t184.length co57 : Value).ownBlock)) (n := t179.length) (c := co48) ?_).2.2; exact (xrt_ ((Kd.R_mono (Kd.R_far (p := ⟨gb188, 1, none⟩) (Kd.R_far (p := ⟨gb188, 0, none⟩) (Kd.R_types HO181.out BK188.out (by decide)) (fun _ hk => hk.2) (.slice Ao57 t184.length co57)) (fun _ hk => hk.2) (.int .i64 t187)) (fun _ h_ => h_.1))))); (case side2 => exact (Kd.R_reads' HO181.out).2.1); (case side3 => refine (Kd.R_reads' (e := 3) (base := w.heap.size) (ok := fun k_ => ((((True ∧ some k_ ≠ (v166 : Value).ownBlock) ∧ some k_ ≠ (v170 : Value).ownBlock) ∧ some k_ ≠ (.slice Ao41 t173.length co41 : Value).ownBlock) ∧ some k_ ≠ (.slice Ao48 t179.length co48 : Value).ownBlock)) (n := t184.length) (c := co57) ?_).2.2; exact (xrt_ ((Kd.R_mono (Kd.R_far (p := ⟨gb188, 1, none⟩) (Kd.R_far (p := ⟨gb188, 0, none⟩) (Kd.R_types HO186.out BK188.out (by decide)) (fun _ hk => hk.2) (.slice Ao57 t184.length co57)) (fun _ hk => hk.2) (.int .i64 t187)) (fun _ h_ => h_.1))))); (case side4 => exact (Kd.R_reads' HO186.out).2.1); rintro e w64 ⟨v190, rfl, ho0, hb⟩; refine ⟨_, rfl, ?_⟩; have HO191 := Aside0.mk (Kd.R_lower (Kd.R_new' (Kd.R_new' (Kd.R_new' (Kd.R_new' (Kd.R_new' ho0 (Kd.R_lt (xrt_ ((Kd.R_mono (Kd.R_far (p := ⟨gb188, 1, none⟩) (Kd.R_far (p := ⟨gb188, 0, none⟩) (Kd.R_types HO167.out BK188.out (by decide)) (fun _ hk => hk.2) (.slice Ao57 t184.length co57)) (fun _ hk => hk.2) (.int .i64 t187)) (fun _ h_ => h_.1)))))) (Kd.R_lt (xrt_ ((Kd.R_mono (Kd.R_far (p := ⟨gb188, 1, none⟩) (Kd.R_far (p := ⟨gb188, 0, none⟩) (Kd.R_types HO171.out BK188.out (by decide)) (fun _ hk => hk.2) (.slice Ao57 t184.length co57)) (fun _ hk => hk.2) (.int .i64 t187)) (fun _ h_ => h_.1)))))) (Kd.R_lt (xrt_ ((Kd.R_mono (Kd.R_far (p := ⟨gb188, 1, none⟩) (Kd.R_far (p := ⟨gb188, 0, none⟩) (Kd.R_types HO175.out BK188.out (by decide)) (fun _ hk => hk.2) (.slice Ao57 t184.length co57)) (fun _ hk => hk.2) (.int .i64 t187)) (fun _ h_ => h_.1)))))) (Kd.R_lt (xrt_ ((Kd.R_mono (Kd.R_far (p := ⟨gb188, 1, none⟩) (Kd.R_far (p := ⟨gb188, 0, none⟩) (Kd.R_types HO181.out BK188.out (by decide)) (fun _ hk => hk.2) (.slice Ao57 t184.length co57)) (fun _ hk => hk.2) (.int .i64 t187)) (fun _ h_ => h_.1)))))) (Kd.R_lt (xrt_ ((Kd.R_mono (Kd.R_far (p := ⟨gb188, 1, none⟩) (Kd.R_far (p := ⟨gb188, 0, none⟩) (Kd.R_types HO186.out BK188.out (by decide)) (fun _ hk => hk.2) (.slice Ao57 t184.length co57)) (fun _ hk => hk.2) (.int .i64 t187)) (fun _ h_ => h_.1)))))) (below_size (xw_ HB))); replace HO167 := Aside0.mk (Kd.R_elder' (xrt_ ((Kd.R_mono (Kd.R_far (p := ⟨gb188, 1, none⟩) (Kd.R_far (p := ⟨gb188, 0, none⟩) (Kd.R_types HO167.out BK188.out (by decide)) (fun _ hk => hk.2) (.slice Ao57 t184.length co57)) (fun _ hk => hk.2) (.int .i64 t187)) (fun _ h_ => h_.1)))) (Kd.R_base ho0) hb); replace HO171 := Aside0.mk (Kd.R_elder' (xrt_ ((Kd.R_mono (Kd.R_far (p := ⟨gb188, 1, none⟩) (Kd.R_far (p := ⟨gb188, 0, none⟩) (Kd.R_types HO171.out BK188.out (by decide)) (fun _ hk => hk.2) (.slice Ao57 t184.length co57)) (fun _ hk => hk.2) (.int .i64 t187)) (fun _ h_ => h_.1)))) (Kd.R_base ho0) hb); replace HO175 := Aside0.mk (Kd.R_elder' (xrt_ ((Kd.R_mono (Kd.R_far (p := ⟨gb188, 1, none⟩) (Kd.R_far (p := ⟨gb188, 0, none⟩) (Kd.R_types HO175.out BK188.out (by decide)) (fun _ hk => hk.2) (.slice Ao57 t184.length co57)) (fun _ hk => hk.2) (.int .i64 t187)) (fun _ h_ => h_.1)))) (Kd.R_base ho0) hb); replace HO181 := Aside0.mk (Kd.R_elder' (xrt_ ((Kd.R_mono (Kd.R_far (p := ⟨gb188, 1, none⟩) (Kd.R_far (p := ⟨gb188, 0, none⟩) (Kd.R_types HO181.out BK188.out (by decide)) (fun _ hk => hk.2) (.slice Ao57 t184.length co57)) (fun _ hk => hk.2) (.int .i64 t187)) (fun _ h_ => h_.1)))) (Kd.R_base ho0) hb); replace HO186 := Aside0.mk (Kd.R_elder' (xrt_ ((Kd.R_mono (Kd.R_far (p := ⟨gb188, 1, none⟩) (Kd.R_far (p := ⟨gb188, 0, none⟩) (Kd.R_types HO186.out BK188.out (by decide)) (fun _ hk => hk.2) (.slice Ao57 t184.length co57)) (fun _ hk => hk.2) (.int .i64 t187)) (fun _ h_ => h_.1)))) (Kd.R_base ho0) hb); replace BK161 := Aside0.mk (blk_below (g := gb161) (o := .cells #[.slice A0_0 l0_0.length c0_0, .int .i64 a0_1] 34 (0, 0)) (by (with_reducible repeat (first | refine blk_drewN ?_ _ | refine blk_drew ?_ | refine blk_alloc ?_ _)); refine blk_far ?_ NB161_188.out _; (with_reducible repeat (first | refine blk_drewN ?_ _ | refine blk_drew ?_ | refine blk_alloc ?_ _)); refine blk_far ?_ NB161_188.out _; (with_reducible repeat (first | refine blk_drewN ?_ _ | refine blk_drew ?_ | refine blk_alloc ?_ _)); exact BK161.out) hb); replace BK162 := Aside0.mk (blk_below (g := gb162) (o := .cells #[.slice A1_0 l1_0.length c1_0, .int .i64 a1_1] 34 (0, 0)) (by (with_reducible repeat (first | refine blk_drewN ?_ _ | refine blk_drew ?_ | refine blk_alloc ?_ _)); refine blk_far ?_ NB162_188.out _; (with_reducible repeat (first | refine blk_drewN ?_ _ | refine blk_drew ?_ | refine blk_alloc ?_ _)); refine blk_far ?_ NB162_188.out _; (with_reducible repeat (first | refine blk_drewN ?_ _ | refine blk_drew ?_ | refine blk_alloc ?_ _)); exact BK162.out) hb); replace BK178 := Aside0.mk (blk_below (g := gb178) (o := .cells #[.slice Ao41 t173.length co41, .int .i64 t176] 24 (0, 0)) (by (with_reducible repeat (first | refine blk_drewN ?_ _ | refine blk_drew ?_ | refine blk_alloc ?_ _)); refine blk_far ?_ NB178_188.out _; (with_reducible repeat (first | refine blk_drewN ?_ _ | refine blk_drew ?_ | refine blk_alloc ?_ _)); refine blk_far ?_ NB178_188.out _; (with_reducible repeat (first | refine blk_drewN ?_ _ | refine blk_drew ?_ | refine blk_alloc ?_ _)); exact BK178.out) hb); replace BK183 := Aside0.mk (blk_below (g := gb183) (o := .cells #[.slice Ao48 t179.length co48, .int .i64 t182] 24 (0, 0)) (by (with_reducible repeat (first | refine blk_drewN ?_ _ | refine blk_drew ?_ | refine blk_alloc ?_ _)); refine blk_far ?_ NB183_188.out _; (with_reducible repeat (first | refine blk_drewN ?_ _ | refine blk_drew ?_ | refine blk_alloc ?_ _)); refine blk_far ?_ NB183_188.out _; (with_reducible repeat (first | refine blk_drewN ?_ _ | refine blk_drew ?_ | refine blk_alloc ?_ _)); exact BK183.out) hb); replace BK188 := Aside0.mk (blk_below (g := gb188) (o := .cells #[.slice Ao57 t184.length co57, .int .i64 t187] 24 (0, 0)) (by (with_reducible repeat (first | refine blk_drewN ?_ _ | refine blk_drew ?_ | refine blk_alloc ?_ _)); refine blk_put (cs := #[.slice Ao57 t184.length co57, .int .i64 0]) ?_ 1 _ rfl; (with_reducible repeat (first | refine blk_drewN ?_ _ | refine blk_drew ?_ | refine blk_alloc ?_ _)); refine blk_put (cs := #[.slice none 0 0, .int .i64 0]) ?_ 0 _ rfl; (with_reducible repeat (first | refine blk_drewN ?_ _ | refine blk_drew ?_ | refine blk_alloc ?_ _)); exact BK188.out) hb); replace HB := xws_ HB hb; (try clear hb); (try clear hb2); (try clear hk); (try clear hi); (try clear ho0)) | ((with_reducible refine gate_dst (N := 10) rfl ?_); refine xbe_ (N := 10) (cs := #[.slice none 0 0, .int .i64 0]) (t := 24) ?_; intro gb194 hg w65 hbox hb; replace HO167 := xrb_ HO167 hb; replace HO171 := xrb_ HO171 hb; replace HO175 := xrb_ HO175 hb; replace HO181 := xrb_ HO181 hb; replace HO186 := xrb_ HO186 hb; replace HO191 := xrb_ HO191 hb; have BK194 := Aside0.mk (hbox); have GW194 := xge_ HB hg; have GE194 := xge_ HB hg; replace HB := xws_ HB hb; have NB161_194 := xlt_ BK161 hg; have NB194_161 := xgt_ BK161 hg; replace BK161 := xbb_ BK161 hb; have NB162_194 := xlt_ BK162 hg; have NB194_162 := xgt_ BK162 hg; replace BK162 := xbb_ BK162 hb; have NB178_194 := xlt_ BK178 hg; have NB194_178 := xgt_ BK178 hg; replace BK178 := xbb_ BK178 hb; have NB183_194 := xlt_ BK183 hg; have NB194_183 := xgt_ BK183 hg; replace BK183 := xbb_ BK183 hb; have NB188_194 := xlt_ BK188 hg; have NB194_188 := xgt_ BK188 hg; replace BK188 := xbb_ BK188 hb; clear hb hbox hg; obtain ⟨Ao66, co66, eo66⟩ := Kd.R_slice HO191.out; subst eo66; have hnb67 := NB194_161.out; have hnc67 := NB161_194.out; have hnb68 := NB194_162.out; have hnc68 := NB162_194.out; have hnb69 := NB194_178.out; have hnc69 := NB178_194.out; have hnb70 := NB194_183.out; have hnc70 := NB183_194.out; have hnb71 := NB194_188.out; have hnc71 := NB188_194.out; have hcz72_0 : w65.cell? ⟨gb194, 0, none⟩ = some (.slice none 0 0) := xk_ BK194 0; have hcz72_1 : w65.cell? ⟨gb194, 1, none⟩ = some (.int .i64 0) := xk_ BK194 1; have hfz72_0 := blk_frozen BK194.out 0; have hfz72_1 := blk_frozen BK194.out 1))
   (try simp only [Act.put, List.setIfInBounds_toArray, List.set_cons_zero, List.set_cons_succ])
   go_cut [53] (fun v53 wc => ∃ (kq : Nat) (x53_24 : Bool), v53 = .bool x53_24 ∧ Aside0 (laws_FnExactJoinSketches.j0 kq t177 t193 x53_24 l0_0 a0_1 l1_0 a1_1 t173 t176 t179 t182 t184 t187 t189 t192 = some r) ∧ Aside0 (kq ≤ k) ∧ Aside0 (Kd.R (Kd.int .i64) 3 wc w.heap.size (fun k_ => some k_ ≠ ((.slice Ao48 t179.length co48) : Value).ownBlock ∧ some k_ ≠ ((.slice Ao57 t184.length co57) : Value).ownBlock ∧ some k_ ≠ ((.slice Ao66 t189.length co66) : Value).ownBlock) (.slice Ao41 t173.length co41) t173) ∧ Aside0 (Kd.R (Kd.int .i64) 3 wc w.heap.size (fun k_ => some k_ ≠ ((.slice Ao41 t173.length co41) : Value).ownBlock ∧ some k_ ≠ ((.slice Ao57 t184.length co57) : Value).ownBlock ∧ some k_ ≠ ((.slice Ao66 t189.length co66) : Value).ownBlock) (.slice Ao48 t179.length co48) t179) ∧ Aside0 (Kd.R (Kd.int .i64) 3 wc w.heap.size (fun k_ => some k_ ≠ ((.slice Ao41 t173.length co41) : Value).ownBlock ∧ some k_ ≠ ((.slice Ao48 t179.length co48) : Value).ownBlock ∧ some k_ ≠ ((.slice Ao66 t189.length co66) : Value).ownBlock) (.slice Ao57 t184.length co57) t184) ∧ Aside0 (Kd.R (Kd.int .i64) 3 wc w.heap.size (fun k_ => some k_ ≠ ((.slice Ao41 t173.length co41) : Value).ownBlock ∧ some k_ ≠ ((.slice Ao48 t179.length co48) : Value).ownBlock ∧ some k_ ≠ ((.slice Ao57 t184.length co57) : Value).ownBlock) (.slice Ao66 t189.length co66) t189) ∧ Aside0 (wc.heap[gb161]? = some (.cells #[(.slice A0_0 l0_0.length c0_0), .int .i64 a0_1] 34 (0, 0))) ∧ Aside0 (wc.heap[gb162]? = some (.cells #[(.slice A1_0 l1_0.length c1_0), .int .i64 a1_1] 34 (0, 0))) ∧ Aside0 (wc.heap[gb178]? = some (.cells #[(.slice Ao41 t173.length co41), .int .i64 t176] 24 (0, 0))) ∧ Aside0 (wc.heap[gb183]? = some (.cells #[(.slice Ao48 t179.length co48), .int .i64 t182] 24 (0, 0))) ∧ Aside0 (wc.heap[gb188]? = some (.cells #[(.slice Ao57 t184.length co57), .int .i64 t187] 24 (0, 0))) ∧ Aside0 (wc.heap[gb194]? = some (.cells #[(.slice Ao66 t189.length co66), .int .i64 t192] 24 (0, 0))) ∧ Aside0 (Below w.heap.size w wc))
   case first =>
    have H := HC25.out
    clear HC25
    replace H := Option.bind_eq_some_iff.mp H
    obtain ⟨t195, A730, H⟩ := H
    replace H : (if t195 = true then (laws_FnExactJoinSketches.j0 k t177 t193 (t193 != t177) l0_0 a0_1 l1_0 a1_1 t173 t176 t179 t182 t184 t187 t189 t192) else (laws_FnExactJoinSketches.j0 k t177 t193 true l0_0 a0_1 l1_0 a1_1 t173 t176 t179 t182 t184 t187 t189 t192)) = some r := H
    have A73 := Aside0.mk A730
    clear A730
    by_cases c74 : t195 = true
    ·subst c74
     have H1 : (laws_FnExactJoinSketches.j0 k t177 t193 (t193 != t177) l0_0 a0_1 l1_0 a1_1 t173 t176 t179 t182 t184 t187 t189 t192) = some r := by rw [if_pos rfl] at H; exact H
     clear H
     have H := H1
     clear H1
     have H' := Aside0.mk H
     clear H
     have hnb75 := NB194_161.out
     have hnc75 := NB161_194.out
     have hnb76 := NB194_162.out
     have hnc76 := NB162_194.out
     have hnb77 := NB194_178.out
     have hnc77 := NB178_194.out
     have hnb78 := NB194_183.out
     have hnc78 := NB183_194.out
     have hnb79 := NB194_188.out
     have hnc79 := NB188_194.out
     have hcz80_0 : w65.cell? ⟨gb194, 0, none⟩ = some (.slice none 0 0) := xk_ BK194 0
     have hcz80_1 : w65.cell? ⟨gb194, 1, none⟩ = some (.int .i64 0) := xk_ BK194 1
     have hfz80_0 := blk_frozen BK194.out 0
     have hfz80_1 := blk_frozen BK194.out 1
     have hnb81 := NB178_161.out
     have hnc81 := NB161_178.out
     have hnb82 := NB178_162.out
     have hnc82 := NB162_178.out
     have hnb83 := NB178_183.out
     have hnc83 := NB183_178.out
     have hnb84 := NB178_188.out
     have hnc84 := NB188_178.out
     have hcz85_0 : w65.cell? ⟨gb178, 0, none⟩ = some (.slice Ao41 t173.length co41) := xk_ BK178 0
     have hcz85_1 : w65.cell? ⟨gb178, 1, none⟩ = some (.int .i64 t176) := xk_ BK178 1
     have hfz85_0 := blk_frozen BK178.out 0
     have hfz85_1 := blk_frozen BK178.out 1
     go_wp2_with (first | ((with_reducible refine gate_callee (f := 13) rfl ?_); refine xgl_ (some 47) Try.func13 #[.agg #[.slice Ao66 t189.length co66, .int .i64 t192], .agg #[.slice Ao41 t173.length co41, .int .i64 t176]] ?_; (with_reducible refine (laws_eqSketch.calls k _ _ t189 t192 _ _ t173 t176 true _ ?side1 ?side2 ?side3 ?side4 A73.out).mono ?_); (case side1 => refine (Kd.R_reads' (e := 3) (base := w.heap.size) (ok := fun k_ => (((((True ∧ some k_ ≠ (v166 : Value).ownBlock) ∧ some k_ ≠ (v170 : Value).ownBlock) ∧ some k_ ≠ (.slice Ao41 t173.length co41 : Value).ownBlock) ∧ some k_ ≠ (.slice Ao48 t179.length co48 : Value).ownBlock) ∧ some k_ ≠ (.slice Ao57 t184.length co57 : Value).ownBlock)) (n := t189.length) (c := co66) ?_).2.2; exact (xrt_ ((Kd.R_mono (Kd.R_far (p := ⟨gb194, 1, none⟩) (Kd.R_far (p := ⟨gb194, 0, none⟩) (Kd.R_types HO191.out BK194.out (by decide)) (fun _ hk => hk.2) (.slice Ao66 t189.length co66)) (fun _ hk => hk.2) (.int .i64 t192)) (fun _ h_ => h_.1))))); (case side2 => exact (Kd.R_reads' HO191.out).2.1); (case side3 => refine (Kd.R_reads' (e := 3) (base := w.heap.size) (ok := fun k_ => ((((some k_ ≠ (v166 : Value).ownBlock ∧ some k_ ≠ (v170 : Value).ownBlock) ∧ some k_ ≠ (.slice Ao48 t179.length co48 : Value).ownBlock) ∧ some k_ ≠ (.slice Ao57 t184.length co57 : Value).ownBlock) ∧ some k_ ≠ (.slice Ao66 t189.length co66 : Value).ownBlock)) (n := t173.length) (c := co41) ?_).2.2; exact (xrt_ ((Kd.R_mono (Kd.R_far (p := ⟨gb194, 1, none⟩) (Kd.R_far (p := ⟨gb194, 0, none⟩) (Kd.R_types HO175.out BK194.out (by decide)) (fun _ hk => hk.2) (.slice Ao66 t189.length co66)) (fun _ hk => hk.2) (.int .i64 t192)) (fun _ h_ => h_.1))))); (case side4 => exact (Kd.R_reads' HO175.out).2.1); rintro e w86 ⟨rfl, hb⟩; refine ⟨_, rfl, ?_⟩; replace HO167 := Aside0.mk (Kd.R_below (xrt_ ((Kd.R_mono (Kd.R_far (p := ⟨gb194, 1, none⟩) (Kd.R_far (p := ⟨gb194, 0, none⟩) (Kd.R_types HO167.out BK194.out (by decide)) (fun _ hk => hk.2) (.slice Ao66 t189.length co66)) (fun _ hk => hk.2) (.int .i64 t192)) (fun _ h_ => h_.1)))) hb); replace HO171 := Aside0.mk (Kd.R_below (xrt_ ((Kd.R_mono (Kd.R_far (p := ⟨gb194, 1, none⟩) (Kd.R_far (p := ⟨gb194, 0, none⟩) (Kd.R_types HO171.out BK194.out (by decide)) (fun _ hk => hk.2) (.slice Ao66 t189.length co66)) (fun _ hk => hk.2) (.int .i64 t192)) (fun _ h_ => h_.1)))) hb); replace HO175 := Aside0.mk (Kd.R_below (xrt_ ((Kd.R_mono (Kd.R_far (p := ⟨gb194, 1, none⟩) (Kd.R_far (p := ⟨gb194, 0, none⟩) (Kd.R_types HO175.out BK194.out (by decide)) (fun _ hk => hk.2) (.slice Ao66 t189.length co66)) (fun _ hk => hk.2) (.int .i64 t192)) (fun _ h_ => h_.1)))) hb); replace HO181 := Aside0.mk (Kd.R_below (xrt_ ((Kd.R_mono (Kd.R_far (p := ⟨gb194, 1, none⟩) (Kd.R_far (p := ⟨gb194, 0, none⟩) (Kd.R_types HO181.out BK194.out (by decide)) (fun _ hk => hk.2) (.slice Ao66 t189.length co66)) (fun _ hk => hk.2) (.int .i64 t192)) (fun _ h_ => h_.1)))) hb); replace HO186 := Aside0.mk (Kd.R_below (xrt_ ((Kd.R_mono (Kd.R_far (p := ⟨gb194, 1, none⟩) (Kd.R_far (p := ⟨gb194, 0, none⟩) (Kd.R_types HO186.out BK194.out (by decide)) (fun _ hk => hk.2) (.slice Ao66 t189.length co66)) (fun _ hk => hk.2) (.int .i64 t192)) (fun _ h_ => h_.1)))) hb); replace HO191 := Aside0.mk (Kd.R_below (xrt_ ((Kd.R_mono (Kd.R_far (p := ⟨gb194, 1, none⟩) (Kd.R_far (p := ⟨gb194, 0, none⟩) (Kd.R_types HO191.out BK194.out (by decide)) (fun _ hk => hk.2) (.slice Ao66 t189.length co66)) (fun _ hk => hk.2) (.int .i64 t192)) (fun _ h_ => h_.1)))) hb); replace BK161 := Aside0.mk (blk_below (g := gb161) (o := .cells #[.slice A0_0 l0_0.length c0_0, .int .i64 a0_1] 34 (0, 0)) (by (with_reducible repeat (first | refine blk_drewN ?_ _ | refine blk_drew ?_ | refine blk_alloc ?_ _)); refine blk_far ?_ NB161_194.out _; (with_reducible repeat (first | refine blk_drewN ?_ _ | refine blk_drew ?_ | refine blk_alloc ?_ _)); refine blk_far ?_ NB161_194.out _; (with_reducible repeat (first | refine blk_drewN ?_ _ | refine blk_drew ?_ | refine blk_alloc ?_ _)); exact BK161.out) hb); replace BK162 := Aside0.mk (blk_below (g := gb162) (o := .cells #[.slice A1_0 l1_0.length c1_0, .int .i64 a1_1] 34 (0, 0)) (by (with_reducible repeat (first | refine blk_drewN ?_ _ | refine blk_drew ?_ | refine blk_alloc ?_ _)); refine blk_far ?_ NB162_194.out _; (with_reducible repeat (first | refine blk_drewN ?_ _ | refine blk_drew ?_ | refine blk_alloc ?_ _)); refine blk_far ?_ NB162_194.out _; (with_reducible repeat (first | refine blk_drewN ?_ _ | refine blk_drew ?_ | refine blk_alloc ?_ _)); exact BK162.out) hb); replace BK178 := Aside0.mk (blk_below (g := gb178) (o := .cells #[.slice Ao41 t173.length co41, .int .i64 t176] 24 (0, 0)) (by (with_reducible repeat (first | refine blk_drewN ?_ _ | refine blk_drew ?_ | refine blk_alloc ?_ _)); refine blk_far ?_ NB178_194.out _; (with_reducible repeat (first | refine blk_drewN ?_ _ | refine blk_drew ?_ | refine blk_alloc ?_ _)); refine blk_far ?_ NB178_194.out _; (with_reducible repeat (first | refine blk_drewN ?_ _ | refine blk_drew ?_ | refine blk_alloc ?_ _)); exact BK178.out) hb); replace BK183 := Aside0.mk (blk_below (g := gb183) (o := .cells #[.slice Ao48 t179.length co48, .int .i64 t182] 24 (0, 0)) (by (with_reducible repeat (first | refine blk_drewN ?_ _ | refine blk_drew ?_ | refine blk_alloc ?_ _)); refine blk_far ?_ NB183_194.out _; (with_reducible repeat (first | refine blk_drewN ?_ _ | refine blk_drew ?_ | refine blk_alloc ?_ _)); refine blk_far ?_ NB183_194.out _; (with_reducible repeat (first | refine blk_drewN ?_ _ | refine blk_drew ?_ | refine blk_alloc ?_ _)); exact BK183.out) hb); replace BK188 := Aside0.mk (blk_below (g := gb188) (o := .cells #[.slice Ao57 t184.length co57, .int .i64 t187] 24 (0, 0)) (by (with_reducible repeat (first | refine blk_drewN ?_ _ | refine blk_drew ?_ | refine blk_alloc ?_ _)); refine blk_far ?_ NB188_194.out _; (with_reducible repeat (first | refine blk_drewN ?_ _ | refine blk_drew ?_ | refine blk_alloc ?_ _)); refine blk_far ?_ NB188_194.out _; (with_reducible repeat (first | refine blk_drewN ?_ _ | refine blk_drew ?_ | refine blk_alloc ?_ _)); exact BK188.out) hb); replace BK194 := Aside0.mk (blk_below (g := gb194) (o := .cells #[.slice Ao66 t189.length co66, .int .i64 t192] 24 (0, 0)) (by (with_reducible repeat (first | refine blk_drewN ?_ _ | refine blk_drew ?_ | refine blk_alloc ?_ _)); refine blk_put (cs := #[.slice Ao66 t189.length co66, .int .i64 0]) ?_ 1 _ rfl; (with_reducible repeat (first | refine blk_drewN ?_ _ | refine blk_drew ?_ | refine blk_alloc ?_ _)); refine blk_put (cs := #[.slice none 0 0, .int .i64 0]) ?_ 0 _ rfl; (with_reducible repeat (first | refine blk_drewN ?_ _ | refine blk_drew ?_ | refine blk_alloc ?_ _)); exact BK194.out) hb); replace HB := xws_ HB hb; (try clear hb); (try clear hb2); (try clear hk); (try clear hi)))
     go_meet
     case rel => exact ⟨_, ((t193 != t177)), (by first | rfl | (simp; done) | (simp [*]; done)), H', ⟨by first | omega | exact Nat.le_refl _⟩, ⟨xrt_ (Kd.R_mono HO175.out (fun _ hk => ⟨hk.1.1.2, ⟨hk.1.2, hk.2⟩⟩))⟩, ⟨xrt_ (Kd.R_mono HO181.out (fun _ hk => ⟨hk.1.1.2, ⟨hk.1.2, hk.2⟩⟩))⟩, ⟨xrt_ (Kd.R_mono HO186.out (fun _ hk => ⟨hk.1.1.2, ⟨hk.1.2, hk.2⟩⟩))⟩, ⟨xrt_ (Kd.R_mono HO191.out (fun _ hk => ⟨hk.1.1.2, ⟨hk.1.2, hk.2⟩⟩))⟩, ⟨xb_ BK161⟩, ⟨xb_ BK162⟩, ⟨xb_ BK178⟩, ⟨xb_ BK183⟩, ⟨xb_ BK188⟩, ⟨xb_ BK194⟩, ⟨xw_ HB⟩⟩
    ·replace c74 := Bool.eq_false_iff.mpr c74
     subst c74
     have H1 : (laws_FnExactJoinSketches.j0 k t177 t193 true l0_0 a0_1 l1_0 a1_1 t173 t176 t179 t182 t184 t187 t189 t192) = some r := by rw [if_neg (show ¬ (false = true) by decide)] at H; exact H
     clear H
     have H := H1
     clear H1
     have H' := Aside0.mk H
     clear H
     have hnb87 := NB194_161.out
     have hnc87 := NB161_194.out
     have hnb88 := NB194_162.out
     have hnc88 := NB162_194.out
     have hnb89 := NB194_178.out
     have hnc89 := NB178_194.out
     have hnb90 := NB194_183.out
     have hnc90 := NB183_194.out
     have hnb91 := NB194_188.out
     have hnc91 := NB188_194.out
     have hcz92_0 : w65.cell? ⟨gb194, 0, none⟩ = some (.slice none 0 0) := xk_ BK194 0
     have hcz92_1 : w65.cell? ⟨gb194, 1, none⟩ = some (.int .i64 0) := xk_ BK194 1
     have hfz92_0 := blk_frozen BK194.out 0
     have hfz92_1 := blk_frozen BK194.out 1
     have hnb93 := NB178_161.out
     have hnc93 := NB161_178.out
     have hnb94 := NB178_162.out
     have hnc94 := NB162_178.out
     have hnb95 := NB178_183.out
     have hnc95 := NB183_178.out
     have hnb96 := NB178_188.out
     have hnc96 := NB188_178.out
     have hcz97_0 : w65.cell? ⟨gb178, 0, none⟩ = some (.slice Ao41 t173.length co41) := xk_ BK178 0
     have hcz97_1 : w65.cell? ⟨gb178, 1, none⟩ = some (.int .i64 t176) := xk_ BK178 1
     have hfz97_0 := blk_frozen BK178.out 0
     have hfz97_1 := blk_frozen BK178.out 1
     go_wp2_with (first | ((with_reducible refine gate_callee (f := 13) rfl ?_); refine xgl_ (some 47) Try.func13 #[.agg #[.slice Ao66 t189.length co66, .int .i64 t192], .agg #[.slice Ao41 t173.length co41, .int .i64 t176]] ?_; (with_reducible refine (laws_eqSketch.calls k _ _ t189 t192 _ _ t173 t176 false _ ?side1 ?side2 ?side3 ?side4 A73.out).mono ?_); (case side1 => refine (Kd.R_reads' (e := 3) (base := w.heap.size) (ok := fun k_ => (((((True ∧ some k_ ≠ (v166 : Value).ownBlock) ∧ some k_ ≠ (v170 : Value).ownBlock) ∧ some k_ ≠ (.slice Ao41 t173.length co41 : Value).ownBlock) ∧ some k_ ≠ (.slice Ao48 t179.length co48 : Value).ownBlock) ∧ some k_ ≠ (.slice Ao57 t184.length co57 : Value).ownBlock)) (n := t189.length) (c := co66) ?_).2.2; exact (xrt_ ((Kd.R_mono (Kd.R_far (p := ⟨gb194, 1, none⟩) (Kd.R_far (p := ⟨gb194, 0, none⟩) (Kd.R_types HO191.out BK194.out (by decide)) (fun _ hk => hk.2) (.slice Ao66 t189.length co66)) (fun _ hk => hk.2) (.int .i64 t192)) (fun _ h_ => h_.1))))); (case side2 => exact (Kd.R_reads' HO191.out).2.1); (case side3 => refine (Kd.R_reads' (e := 3) (base := w.heap.size) (ok := fun k_ => ((((some k_ ≠ (v166 : Value).ownBlock ∧ some k_ ≠ (v170 : Value).ownBlock) ∧ some k_ ≠ (.slice Ao48 t179.length co48 : Value).ownBlock) ∧ some k_ ≠ (.slice Ao57 t184.length co57 : Value).ownBlock) ∧ some k_ ≠ (.slice Ao66 t189.length co66 : Value).ownBlock)) (n := t173.length) (c := co41) ?_).2.2; exact (xrt_ ((Kd.R_mono (Kd.R_far (p := ⟨gb194, 1, none⟩) (Kd.R_far (p := ⟨gb194, 0, none⟩) (Kd.R_types HO175.out BK194.out (by decide)) (fun _ hk => hk.2) (.slice Ao66 t189.length co66)) (fun _ hk => hk.2) (.int .i64 t192)) (fun _ h_ => h_.1))))); (case side4 => exact (Kd.R_reads' HO175.out).2.1); rintro e w98 ⟨rfl, hb⟩; refine ⟨_, rfl, ?_⟩; replace HO167 := Aside0.mk (Kd.R_below (xrt_ ((Kd.R_mono (Kd.R_far (p := ⟨gb194, 1, none⟩) (Kd.R_far (p := ⟨gb194, 0, none⟩) (Kd.R_types HO167.out BK194.out (by decide)) (fun _ hk => hk.2) (.slice Ao66 t189.length co66)) (fun _ hk => hk.2) (.int .i64 t192)) (fun _ h_ => h_.1)))) hb); replace HO171 := Aside0.mk (Kd.R_below (xrt_ ((Kd.R_mono (Kd.R_far (p := ⟨gb194, 1, none⟩) (Kd.R_far (p := ⟨gb194, 0, none⟩) (Kd.R_types HO171.out BK194.out (by decide)) (fun _ hk => hk.2) (.slice Ao66 t189.length co66)) (fun _ hk => hk.2) (.int .i64 t192)) (fun _ h_ => h_.1)))) hb); replace HO175 := Aside0.mk (Kd.R_below (xrt_ ((Kd.R_mono (Kd.R_far (p := ⟨gb194, 1, none⟩) (Kd.R_far (p := ⟨gb194, 0, none⟩) (Kd.R_types HO175.out BK194.out (by decide)) (fun _ hk => hk.2) (.slice Ao66 t189.length co66)) (fun _ hk => hk.2) (.int .i64 t192)) (fun _ h_ => h_.1)))) hb); replace HO181 := Aside0.mk (Kd.R_below (xrt_ ((Kd.R_mono (Kd.R_far (p := ⟨gb194, 1, none⟩) (Kd.R_far (p := ⟨gb194, 0, none⟩) (Kd.R_types HO181.out BK194.out (by decide)) (fun _ hk => hk.2) (.slice Ao66 t189.length co66)) (fun _ hk => hk.2) (.int .i64 t192)) (fun _ h_ => h_.1)))) hb); replace HO186 := Aside0.mk (Kd.R_below (xrt_ ((Kd.R_mono (Kd.R_far (p := ⟨gb194, 1, none⟩) (Kd.R_far (p := ⟨gb194, 0, none⟩) (Kd.R_types HO186.out BK194.out (by decide)) (fun _ hk => hk.2) (.slice Ao66 t189.length co66)) (fun _ hk => hk.2) (.int .i64 t192)) (fun _ h_ => h_.1)))) hb); replace HO191 := Aside0.mk (Kd.R_below (xrt_ ((Kd.R_mono (Kd.R_far (p := ⟨gb194, 1, none⟩) (Kd.R_far (p := ⟨gb194, 0, none⟩) (Kd.R_types HO191.out BK194.out (by decide)) (fun _ hk => hk.2) (.slice Ao66 t189.length co66)) (fun _ hk => hk.2) (.int .i64 t192)) (fun _ h_ => h_.1)))) hb); replace BK161 := Aside0.mk (blk_below (g := gb161) (o := .cells #[.slice A0_0 l0_0.length c0_0, .int .i64 a0_1] 34 (0, 0)) (by (with_reducible repeat (first | refine blk_drewN ?_ _ | refine blk_drew ?_ | refine blk_alloc ?_ _)); refine blk_far ?_ NB161_194.out _; (with_reducible repeat (first | refine blk_drewN ?_ _ | refine blk_drew ?_ | refine blk_alloc ?_ _)); refine blk_far ?_ NB161_194.out _; (with_reducible repeat (first | refine blk_drewN ?_ _ | refine blk_drew ?_ | refine blk_alloc ?_ _)); exact BK161.out) hb); replace BK162 := Aside0.mk (blk_below (g := gb162) (o := .cells #[.slice A1_0 l1_0.length c1_0, .int .i64 a1_1] 34 (0, 0)) (by (with_reducible repeat (first | refine blk_drewN ?_ _ | refine blk_drew ?_ | refine blk_alloc ?_ _)); refine blk_far ?_ NB162_194.out _; (with_reducible repeat (first | refine blk_drewN ?_ _ | refine blk_drew ?_ | refine blk_alloc ?_ _)); refine blk_far ?_ NB162_194.out _; (with_reducible repeat (first | refine blk_drewN ?_ _ | refine blk_drew ?_ | refine blk_alloc ?_ _)); exact BK162.out) hb); replace BK178 := Aside0.mk (blk_below (g := gb178) (o := .cells #[.slice Ao41 t173.length co41, .int .i64 t176] 24 (0, 0)) (by (with_reducible repeat (first | refine blk_drewN ?_ _ | refine blk_drew ?_ | refine blk_alloc ?_ _)); refine blk_far ?_ NB178_194.out _; (with_reducible repeat (first | refine blk_drewN ?_ _ | refine blk_drew ?_ | refine blk_alloc ?_ _)); refine blk_far ?_ NB178_194.out _; (with_reducible repeat (first | refine blk_drewN ?_ _ | refine blk_drew ?_ | refine blk_alloc ?_ _)); exact BK178.out) hb); replace BK183 := Aside0.mk (blk_below (g := gb183) (o := .cells #[.slice Ao48 t179.length co48, .int .i64 t182] 24 (0, 0)) (by (with_reducible repeat (first | refine blk_drewN ?_ _ | refine blk_drew ?_ | refine blk_alloc ?_ _)); refine blk_far ?_ NB183_194.out _; (with_reducible repeat (first | refine blk_drewN ?_ _ | refine blk_drew ?_ | refine blk_alloc ?_ _)); refine blk_far ?_ NB183_194.out _; (with_reducible repeat (first | refine blk_drewN ?_ _ | refine blk_drew ?_ | refine blk_alloc ?_ _)); exact BK183.out) hb); replace BK188 := Aside0.mk (blk_below (g := gb188) (o := .cells #[.slice Ao57 t184.length co57, .int .i64 t187] 24 (0, 0)) (by (with_reducible repeat (first | refine blk_drewN ?_ _ | refine blk_drew ?_ | refine blk_alloc ?_ _)); refine blk_far ?_ NB188_194.out _; (with_reducible repeat (first | refine blk_drewN ?_ _ | refine blk_drew ?_ | refine blk_alloc ?_ _)); refine blk_far ?_ NB188_194.out _; (with_reducible repeat (first | refine blk_drewN ?_ _ | refine blk_drew ?_ | refine blk_alloc ?_ _)); exact BK188.out) hb); replace BK194 := Aside0.mk (blk_below (g := gb194) (o := .cells #[.slice Ao66 t189.length co66, .int .i64 t192] 24 (0, 0)) (by (with_reducible repeat (first | refine blk_drewN ?_ _ | refine blk_drew ?_ | refine blk_alloc ?_ _)); refine blk_put (cs := #[.slice Ao66 t189.length co66, .int .i64 0]) ?_ 1 _ rfl; (with_reducible repeat (first | refine blk_drewN ?_ _ | refine blk_drew ?_ | refine blk_alloc ?_ _)); refine blk_put (cs := #[.slice none 0 0, .int .i64 0]) ?_ 0 _ rfl; (with_reducible repeat (first | refine blk_drewN ?_ _ | refine blk_drew ?_ | refine blk_alloc ?_ _)); exact BK194.out) hb); replace HB := xws_ HB hb; (try clear hb); (try clear hb2); (try clear hk); (try clear hi)))
     go_meet
     case rel => exact ⟨_, (true), (by first | rfl | (simp; done) | (simp [*]; done)), H', ⟨by first | omega | exact Nat.le_refl _⟩, ⟨xrt_ (Kd.R_mono HO175.out (fun _ hk => ⟨hk.1.1.2, ⟨hk.1.2, hk.2⟩⟩))⟩, ⟨xrt_ (Kd.R_mono HO181.out (fun _ hk => ⟨hk.1.1.2, ⟨hk.1.2, hk.2⟩⟩))⟩, ⟨xrt_ (Kd.R_mono HO186.out (fun _ hk => ⟨hk.1.1.2, ⟨hk.1.2, hk.2⟩⟩))⟩, ⟨xrt_ (Kd.R_mono HO191.out (fun _ hk => ⟨hk.1.1.2, ⟨hk.1.2, hk.2⟩⟩))⟩, ⟨xb_ BK161⟩, ⟨xb_ BK162⟩, ⟨xb_ BK178⟩, ⟨xb_ BK183⟩, ⟨xb_ BK188⟩, ⟨xb_ BK194⟩, ⟨xw_ HB⟩⟩
   case rest =>
    clear HC25
    try clear c1
    try clear c2
    try clear p2
    try clear c3
    try clear c4
    try clear c5
    try clear c6
    try clear c7
    try clear c8
    try clear c9
    try clear c13
    try clear c23
    try clear c29
    try clear c30
    try clear c44
    try clear c49
    try clear c50
    try clear c51
    try clear c53
    try clear c58
    try clear c59
    try clear c60
    try clear c61
    try clear c67
    try clear c68
    try clear c69
    try clear c70
    try clear c71
    try clear c74
    try clear c75
    try clear c76
    try clear c77
    try clear c78
    try clear c79
    try clear c81
    try clear c82
    try clear c83
    try clear c84
    try clear c87
    try clear c88
    try clear c89
    try clear c90
    try clear c91
    try clear c93
    try clear c94
    try clear c95
    try clear c96
    try clear hcz45_0
    try clear hcz45_1
    try clear hcz52_0
    try clear hcz52_1
    try clear hcz54_0
    try clear hcz54_1
    try clear hcz62_0
    try clear hcz62_1
    try clear hcz63_0
    try clear hcz63_1
    try clear hcz72_0
    try clear hcz72_1
    try clear hcz80_0
    try clear hcz80_1
    try clear hcz85_0
    try clear hcz85_1
    try clear hcz92_0
    try clear hcz92_1
    try clear hcz97_0
    try clear hcz97_1
    try clear hfz45_0
    try clear hfz45_1
    try clear hfz52_0
    try clear hfz52_1
    try clear hfz54_0
    try clear hfz54_1
    try clear hfz62_0
    try clear hfz62_1
    try clear hfz63_0
    try clear hfz63_1
    try clear hfz72_0
    try clear hfz72_1
    try clear hfz80_0
    try clear hfz80_1
    try clear hfz85_0
    try clear hfz85_1
    try clear hfz92_0
    try clear hfz92_1
    try clear hfz97_0
    try clear hfz97_1
    obtain ⟨kq, x53_24, rfl, HA, HJ24, HO_179000, HO_184000, HO_189000, HO_195000, BK161, BK162, BK178, BK183, BK188, BK194, HB⟩ := hcut
    cases kq with
    | zero => exact absurd HA.out (by simp [laws_FnExactJoinSketches.j0])
    | succ kj24 =>
     have H := HA.out
     clear HA
     simp only [laws_FnExactJoinSketches.j0] at H
     by_cases c99 : x53_24 = true
     ·subst c99
      have H1 : (some false) = some r := by rw [if_pos rfl] at H; exact H
      clear H
      have H := H1
      clear H1
      obtain rfl := Option.some.inj H
      go_wp2
      go_ret
      exact ⟨by first | rfl | (simp [errW_none, errW_some] <;> rfl) | (simp [*, errW_none, errW_some] <;> rfl), xw_ HB⟩
     ·replace c99 := Bool.eq_false_iff.mpr c99
      subst c99
      have H1 : ((laws_toSketch.f kj24 l0_0 a0_1).bind fun bt196 => ((laws_eqSketch.f kj24 t179 t182 bt196.1 bt196.2).bind fun t200 => (if t200 = true then ((laws_toSketch.f kj24 l1_0 a1_1).bind fun bt201 => ((laws_eqSketch.f kj24 t184 t187 bt201.1 bt201.2).bind fun t205 => (if t205 = true then ((laws_markSketch.f kj24 t179 t182 1).bind fun bt206 => ((laws_markSketch.f kj24 t184 t187 bt206.1).bind fun bt208 => (if bt208.1 < 0 then (laws_FnExactJoinSketches.j1 kj24 t177 true l0_0 a0_1 l1_0 a1_1 t173 t176 t189 t192) else ((laws_eqSketch.f kj24 t189 t192 t173 t176).bind fun t210 => (if t210 = true then (laws_FnExactJoinSketches.j1 kj24 t177 (t193 != t177) l0_0 a0_1 l1_0 a1_1 t173 t176 t189 t192) else (laws_FnExactJoinSketches.j1 kj24 t177 true l0_0 a0_1 l1_0 a1_1 t173 t176 t189 t192)))))) else (some false)))) else (some false)))) = some r := by rw [if_neg (show ¬ (false = true) by decide)] at H; exact H
      clear H
      have H := H1
      clear H1
      replace H := Option.bind_eq_some_iff.mp H
      obtain ⟨⟨t196, t199⟩, A1000, H⟩ := H
      replace H : ((laws_eqSketch.f kj24 t179 t182 t196 t199).bind fun t200 => (if t200 = true then ((laws_toSketch.f kj24 l1_0 a1_1).bind fun bt201 => ((laws_eqSketch.f kj24 t184 t187 bt201.1 bt201.2).bind fun t205 => (if t205 = true then ((laws_markSketch.f kj24 t179 t182 1).bind fun bt206 => ((laws_markSketch.f kj24 t184 t187 bt206.1).bind fun bt208 => (if bt208.1 < 0 then (laws_FnExactJoinSketches.j1 kj24 t177 true l0_0 a0_1 l1_0 a1_1 t173 t176 t189 t192) else ((laws_eqSketch.f kj24 t189 t192 t173 t176).bind fun t210 => (if t210 = true then (laws_FnExactJoinSketches.j1 kj24 t177 (t193 != t177) l0_0 a0_1 l1_0 a1_1 t173 t176 t189 t192) else (laws_FnExactJoinSketches.j1 kj24 t177 true l0_0 a0_1 l1_0 a1_1 t173 t176 t189 t192)))))) else (some false)))) else (some false))) = some r := H
      have A100 := Aside0.mk A1000
      clear A1000
      replace H := Option.bind_eq_some_iff.mp H
      obtain ⟨t200, A1010, H⟩ := H
      replace H : (if t200 = true then ((laws_toSketch.f kj24 l1_0 a1_1).bind fun bt201 => ((laws_eqSketch.f kj24 t184 t187 bt201.1 bt201.2).bind fun t205 => (if t205 = true then ((laws_markSketch.f kj24 t179 t182 1).bind fun bt206 => ((laws_markSketch.f kj24 t184 t187 bt206.1).bind fun bt208 => (if bt208.1 < 0 then (laws_FnExactJoinSketches.j1 kj24 t177 true l0_0 a0_1 l1_0 a1_1 t173 t176 t189 t192) else ((laws_eqSketch.f kj24 t189 t192 t173 t176).bind fun t210 => (if t210 = true then (laws_FnExactJoinSketches.j1 kj24 t177 (t193 != t177) l0_0 a0_1 l1_0 a1_1 t173 t176 t189 t192) else (laws_FnExactJoinSketches.j1 kj24 t177 true l0_0 a0_1 l1_0 a1_1 t173 t176 t189 t192)))))) else (some false)))) else (some false)) = some r := H
      have A101 := Aside0.mk A1010
      clear A1010
      by_cases c102 : t200 = true
      ·subst c102
       have H1 : ((laws_toSketch.f kj24 l1_0 a1_1).bind fun bt201 => ((laws_eqSketch.f kj24 t184 t187 bt201.1 bt201.2).bind fun t205 => (if t205 = true then ((laws_markSketch.f kj24 t179 t182 1).bind fun bt206 => ((laws_markSketch.f kj24 t184 t187 bt206.1).bind fun bt208 => (if bt208.1 < 0 then (laws_FnExactJoinSketches.j1 kj24 t177 true l0_0 a0_1 l1_0 a1_1 t173 t176 t189 t192) else ((laws_eqSketch.f kj24 t189 t192 t173 t176).bind fun t210 => (if t210 = true then (laws_FnExactJoinSketches.j1 kj24 t177 (t193 != t177) l0_0 a0_1 l1_0 a1_1 t173 t176 t189 t192) else (laws_FnExactJoinSketches.j1 kj24 t177 true l0_0 a0_1 l1_0 a1_1 t173 t176 t189 t192)))))) else (some false)))) = some r := by rw [if_pos rfl] at H; exact H
       clear H
       have H := H1
       clear H1
       replace H := Option.bind_eq_some_iff.mp H
       obtain ⟨⟨t201, t204⟩, A1030, H⟩ := H
       replace H : ((laws_eqSketch.f kj24 t184 t187 t201 t204).bind fun t205 => (if t205 = true then ((laws_markSketch.f kj24 t179 t182 1).bind fun bt206 => ((laws_markSketch.f kj24 t184 t187 bt206.1).bind fun bt208 => (if bt208.1 < 0 then (laws_FnExactJoinSketches.j1 kj24 t177 true l0_0 a0_1 l1_0 a1_1 t173 t176 t189 t192) else ((laws_eqSketch.f kj24 t189 t192 t173 t176).bind fun t210 => (if t210 = true then (laws_FnExactJoinSketches.j1 kj24 t177 (t193 != t177) l0_0 a0_1 l1_0 a1_1 t173 t176 t189 t192) else (laws_FnExactJoinSketches.j1 kj24 t177 true l0_0 a0_1 l1_0 a1_1 t173 t176 t189 t192)))))) else (some false))) = some r := H
       have A103 := Aside0.mk A1030
       clear A1030
       replace H := Option.bind_eq_some_iff.mp H
       obtain ⟨t205, A1040, H⟩ := H
       replace H : (if t205 = true then ((laws_markSketch.f kj24 t179 t182 1).bind fun bt206 => ((laws_markSketch.f kj24 t184 t187 bt206.1).bind fun bt208 => (if bt208.1 < 0 then (laws_FnExactJoinSketches.j1 kj24 t177 true l0_0 a0_1 l1_0 a1_1 t173 t176 t189 t192) else ((laws_eqSketch.f kj24 t189 t192 t173 t176).bind fun t210 => (if t210 = true then (laws_FnExactJoinSketches.j1 kj24 t177 (t193 != t177) l0_0 a0_1 l1_0 a1_1 t173 t176 t189 t192) else (laws_FnExactJoinSketches.j1 kj24 t177 true l0_0 a0_1 l1_0 a1_1 t173 t176 t189 t192)))))) else (some false)) = some r := H
       have A104 := Aside0.mk A1040
       clear A1040
       by_cases c105 : t205 = true
       ·subst c105
        have H1 : ((laws_markSketch.f kj24 t179 t182 1).bind fun bt206 => ((laws_markSketch.f kj24 t184 t187 bt206.1).bind fun bt208 => (if bt208.1 < 0 then (laws_FnExactJoinSketches.j1 kj24 t177 true l0_0 a0_1 l1_0 a1_1 t173 t176 t189 t192) else ((laws_eqSketch.f kj24 t189 t192 t173 t176).bind fun t210 => (if t210 = true then (laws_FnExactJoinSketches.j1 kj24 t177 (t193 != t177) l0_0 a0_1 l1_0 a1_1 t173 t176 t189 t192) else (laws_FnExactJoinSketches.j1 kj24 t177 true l0_0 a0_1 l1_0 a1_1 t173 t176 t189 t192)))))) = some r := by rw [if_pos rfl] at H; exact H
        clear H
        have H := H1
        clear H1
        replace H := Option.bind_eq_some_iff.mp H
        obtain ⟨⟨t206, t207⟩, A1060, H⟩ := H
        replace H : ((laws_markSketch.f kj24 t184 t187 t206).bind fun bt208 => (if bt208.1 < 0 then (laws_FnExactJoinSketches.j1 kj24 t177 true l0_0 a0_1 l1_0 a1_1 t173 t176 t189 t192) else ((laws_eqSketch.f kj24 t189 t192 t173 t176).bind fun t210 => (if t210 = true then (laws_FnExactJoinSketches.j1 kj24 t177 (t193 != t177) l0_0 a0_1 l1_0 a1_1 t173 t176 t189 t192) else (laws_FnExactJoinSketches.j1 kj24 t177 true l0_0 a0_1 l1_0 a1_1 t173 t176 t189 t192))))) = some r := H
        have A106 := Aside0.mk A1060
        clear A1060
        replace H := Option.bind_eq_some_iff.mp H
        obtain ⟨⟨t208, t209⟩, A1070, H⟩ := H
        replace H : (if t208 < 0 then (laws_FnExactJoinSketches.j1 kj24 t177 true l0_0 a0_1 l1_0 a1_1 t173 t176 t189 t192) else ((laws_eqSketch.f kj24 t189 t192 t173 t176).bind fun t210 => (if t210 = true then (laws_FnExactJoinSketches.j1 kj24 t177 (t193 != t177) l0_0 a0_1 l1_0 a1_1 t173 t176 t189 t192) else (laws_FnExactJoinSketches.j1 kj24 t177 true l0_0 a0_1 l1_0 a1_1 t173 t176 t189 t192)))) = some r := H
        have A107 := Aside0.mk A1070
        clear A1070
        have HC108 := Aside0.mk H
        clear H
        try go_wp2
        replace HO_179000 := Aside0.mk (Kd.R_drew HO_179000.out)
        replace HO_184000 := Aside0.mk (Kd.R_drew HO_184000.out)
        replace HO_189000 := Aside0.mk (Kd.R_drew HO_189000.out)
        replace HO_195000 := Aside0.mk (Kd.R_drew HO_195000.out)
        replace BK161 := Aside0.mk (blk_drew BK161.out)
        replace BK162 := Aside0.mk (blk_drew BK162.out)
        replace BK178 := Aside0.mk (blk_drew BK178.out)
        replace BK183 := Aside0.mk (blk_drew BK183.out)
        replace BK188 := Aside0.mk (blk_drew BK188.out)
        replace BK194 := Aside0.mk (blk_drew BK194.out)
        replace HB := Aside0.mk (below_drew1 HB.out)
        refine start_ (n := 5) (S := fun w' => w'.cell? ⟨gb183, 0, none⟩ = some (.slice Ao48 t179.length co48) ∧ w'.cell? ⟨gb183, 1, none⟩ = some (.int .i64 t182) ∧ w'.cell? ⟨gb161, 0, none⟩ = some (.slice A0_0 l0_0.length c0_0) ∧ w'.cell? ⟨gb161, 1, none⟩ = some (.int .i64 a0_1)) (ds := []) #[false, false, false, false, false] (by kernel_rfl) rfl rfl ⟨xk_ BK183 0, xk_ BK183 1, xk_ BK161 0, xk_ BK161 1⟩ (fun hHeld => ?_)
        generalize wc.drew = w109 at HO_179000 HO_184000 HO_189000 HO_195000 BK161 BK162 BK178 BK183 BK188 BK194 HB hHeld ⊢
        refine take_ (i := 0) (N := some 54) (v := ?_) (a' := ?_) #[true, false, false, false, false] rfl rfl (by kernel_rfl) (fun _ _ _ h => h) (Or.inl ⟨by rfl, ?_⟩) hHeld ?_ ?_
        rotate_left
        ·rintro w' ⟨s0, s1, s2, s3⟩
         go_simp
         with_reducible rfl
        rotate_left
        ·simp only [Act.put, List.setIfInBounds_toArray, List.set_cons_zero, List.set_cons_succ, i64_w, i32_w]
         rfl
        refine take_ (i := 1) (N := some 55) (v := ?_) (a' := ?_) #[true, true, false, false, false] rfl rfl (by kernel_rfl) (fun _ _ _ h => h) (Or.inl ⟨by rfl, ?_⟩) hHeld ?_ ?_
        rotate_left
        ·rintro w' ⟨s0, s1, s2, s3⟩
         go_simp
         with_reducible rfl
        rotate_left
        ·simp only [Act.put, List.setIfInBounds_toArray, List.set_cons_zero, List.set_cons_succ, i64_w, i32_w]
         rfl
        refine one_ (i := 2) (N := some 56) #[true, true, true, false, false] rfl rfl (by kernel_rfl) (by decide) (fun K hK => ?_)
        refine xgo_ Try.func23 #[.agg #[.slice A0_0 l0_0.length c0_0, .int .i64 a0_1]] ?_
        with_reducible refine (laws_toSketch.calls kj24 _ _ l0_0 a0_1 t196 t199 _ ?side1 ?side2 A100.out).mono ?_
        (case side1 => exact xc_ ((Kd.C_below HR0_0.out HB.out)))
        (case side2 => exact HC0_0.out)
        rintro e w110 ⟨v197, rfl, ho0, hb⟩
        refine ⟨_, rfl, ?_⟩
        have HO198 := Aside0.mk (Kd.R_lower (Kd.R_new' (Kd.R_new' (Kd.R_new' (Kd.R_new' ho0 (Kd.R_lt (xr_ HO_179000))) (Kd.R_lt (xr_ HO_184000))) (Kd.R_lt (xr_ HO_189000))) (Kd.R_lt (xr_ HO_195000))) (below_size (xw_ HB)))
        replace HO_179000 := xre_ HO_179000 ho0 hb
        replace HO_184000 := xre_ HO_184000 ho0 hb
        replace HO_189000 := xre_ HO_189000 ho0 hb
        replace HO_195000 := xre_ HO_195000 ho0 hb
        replace BK161 := xbb_ BK161 hb
        replace BK162 := xbb_ BK162 hb
        replace BK178 := xbb_ BK178 hb
        replace BK183 := xbb_ BK183 hb
        replace BK188 := xbb_ BK188 hb
        replace BK194 := xbb_ BK194 hb
        replace HB := xws_ HB hb
        (try clear hb)
        (try clear hb2)
        (try clear hk)
        (try clear hi)
        (try clear ho0)
        obtain ⟨Ao111, co111, eo111⟩ := Kd.R_slice HO198.out
        (first | subst eo111 | (injection eo111 with f1_ f2_ f3_; have f4_ := f1_.symm; have f5_ := f3_.symm; clear f1_ f2_ f3_; subst f4_; subst f5_))
        refine hK.out _ _ ⟨xk_ BK183 0, xk_ BK183 1, xk_ BK161 0, xk_ BK161 1⟩ (fun hHeld => ?_)
        clear hK K
        refine norm_ (a' := ?_) ?_ ?_
        rotate_left
        ·show Act.put _ (some 56) _ = _
         simp only [Act.put, List.setIfInBounds_toArray, List.set_cons_zero, List.set_cons_succ, i64_w, i32_w]
         rfl
        refine one_ (i := 3) (N := some 57) #[true, true, true, true, false] rfl rfl (by kernel_rfl) (by decide) (fun K hK => ?_)
        refine xgo_ Try.func13 #[.agg #[.slice Ao48 t179.length co48, .int .i64 t182], .agg #[.slice Ao111 t196.length co111, .int .i64 t199]] ?_
        with_reducible refine (laws_eqSketch.calls kj24 _ _ t179 t182 _ _ t196 t199 true _ ?side1 ?side2 ?side3 ?side4 A101.out).mono ?_
        (case side1 => exact xc_ ((Kd.R_reads' HO_184000.out).2.2))
        (case side2 => exact (Kd.R_reads' HO_184000.out).2.1)
        (case side3 => exact xc_ ((Kd.R_reads' HO198.out).2.2))
        (case side4 => exact (Kd.R_reads' HO198.out).2.1)
        rintro e w112 ⟨rfl, hb⟩
        refine ⟨_, rfl, ?_⟩
        replace HO_179000 := xrb_ HO_179000 hb
        replace HO_184000 := xrb_ HO_184000 hb
        replace HO_189000 := xrb_ HO_189000 hb
        replace HO_195000 := xrb_ HO_195000 hb
        replace HO198 := xrb_ HO198 hb
        replace BK161 := xbb_ BK161 hb
        replace BK162 := xbb_ BK162 hb
        replace BK178 := xbb_ BK178 hb
        replace BK183 := xbb_ BK183 hb
        replace BK188 := xbb_ BK188 hb
        replace BK194 := xbb_ BK194 hb
        replace HB := xws_ HB hb
        (try clear hb)
        (try clear hb2)
        (try clear hk)
        (try clear hi)
        refine hK.out _ _ ⟨xk_ BK183 0, xk_ BK183 1, xk_ BK161 0, xk_ BK161 1⟩ (fun hHeld => ?_)
        clear hK K
        refine norm_ (a' := ?_) ?_ ?_
        rotate_left
        ·show Act.put _ (some 57) _ = _
         simp only [Act.put, List.setIfInBounds_toArray, List.set_cons_zero, List.set_cons_succ, i64_w, i32_w]
         rfl
        refine pure_ (i := 4) (N := some 58) (v := ?_) (a' := ?_) #[true, true, true, true, true] rfl rfl (by kernel_rfl) (fun _ _ _ h => h) (Or.inl ⟨by rfl, ?_⟩) ?_ ?_
        rotate_left
        ·intro w'
         go_simp
         with_reducible rfl
        rotate_left
        ·simp only [Act.put, List.setIfInBounds_toArray, List.set_cons_zero, List.set_cons_succ, i64_w, i32_w]
         rfl
        refine done_ (by kernel_rfl) ?_
        try go_wp2
        replace HO_179000 := Aside0.mk (Kd.R_drew HO_179000.out)
        replace HO_184000 := Aside0.mk (Kd.R_drew HO_184000.out)
        replace HO_189000 := Aside0.mk (Kd.R_drew HO_189000.out)
        replace HO_195000 := Aside0.mk (Kd.R_drew HO_195000.out)
        replace HO198 := Aside0.mk (Kd.R_drew HO198.out)
        replace BK161 := Aside0.mk (blk_drew BK161.out)
        replace BK162 := Aside0.mk (blk_drew BK162.out)
        replace BK178 := Aside0.mk (blk_drew BK178.out)
        replace BK183 := Aside0.mk (blk_drew BK183.out)
        replace BK188 := Aside0.mk (blk_drew BK188.out)
        replace BK194 := Aside0.mk (blk_drew BK194.out)
        replace HB := Aside0.mk (below_drew1 HB.out)
        refine start_ (n := 5) (S := fun w' => w'.cell? ⟨gb188, 0, none⟩ = some (.slice Ao57 t184.length co57) ∧ w'.cell? ⟨gb188, 1, none⟩ = some (.int .i64 t187) ∧ w'.cell? ⟨gb162, 0, none⟩ = some (.slice A1_0 l1_0.length c1_0) ∧ w'.cell? ⟨gb162, 1, none⟩ = some (.int .i64 a1_1)) (ds := []) #[false, false, false, false, false] (by kernel_rfl) rfl rfl ⟨xk_ BK188 0, xk_ BK188 1, xk_ BK162 0, xk_ BK162 1⟩ (fun hHeld => ?_)
        generalize w112.drew = w113 at HO_179000 HO_184000 HO_189000 HO_195000 HO198 BK161 BK162 BK178 BK183 BK188 BK194 HB hHeld ⊢
        refine take_ (i := 0) (N := some 59) (v := ?_) (a' := ?_) #[true, false, false, false, false] rfl rfl (by kernel_rfl) (fun _ _ _ h => h) (Or.inl ⟨by rfl, ?_⟩) hHeld ?_ ?_
        rotate_left
        ·rintro w' ⟨s0, s1, s2, s3⟩
         go_simp
         with_reducible rfl
        rotate_left
        ·simp only [Act.put, List.setIfInBounds_toArray, List.set_cons_zero, List.set_cons_succ, i64_w, i32_w]
         rfl
        refine take_ (i := 1) (N := some 60) (v := ?_) (a' := ?_) #[true, true, false, false, false] rfl rfl (by kernel_rfl) (fun _ _ _ h => h) (Or.inl ⟨by rfl, ?_⟩) hHeld ?_ ?_
        rotate_left
        ·rintro w' ⟨s0, s1, s2, s3⟩
         go_simp
         with_reducible rfl
        rotate_left
        ·simp only [Act.put, List.setIfInBounds_toArray, List.set_cons_zero, List.set_cons_succ, i64_w, i32_w]
         rfl
        refine one_ (i := 2) (N := some 61) #[true, true, true, false, false] rfl rfl (by kernel_rfl) (by decide) (fun K hK => ?_)
        refine xgo_ Try.func23 #[.agg #[.slice A1_0 l1_0.length c1_0, .int .i64 a1_1]] ?_
        with_reducible refine (laws_toSketch.calls kj24 _ _ l1_0 a1_1 t201 t204 _ ?side1 ?side2 A103.out).mono ?_
        (case side1 => exact xc_ ((Kd.C_below HR1_0.out HB.out)))
        (case side2 => exact HC1_0.out)
        rintro e w114 ⟨v202, rfl, ho0, hb⟩
        refine ⟨_, rfl, ?_⟩
        have HO203 := Aside0.mk (Kd.R_lower (Kd.R_new' (Kd.R_new' (Kd.R_new' (Kd.R_new' (Kd.R_new' ho0 (Kd.R_lt (xr_ HO_179000))) (Kd.R_lt (xr_ HO_184000))) (Kd.R_lt (xr_ HO_189000))) (Kd.R_lt (xr_ HO_195000))) (Kd.R_lt (xr_ HO198))) (below_size (xw_ HB)))
        replace HO_179000 := xre_ HO_179000 ho0 hb
        replace HO_184000 := xre_ HO_184000 ho0 hb
        replace HO_189000 := xre_ HO_189000 ho0 hb
        replace HO_195000 := xre_ HO_195000 ho0 hb
        replace HO198 := xre_ HO198 ho0 hb
        replace BK161 := xbb_ BK161 hb
        replace BK162 := xbb_ BK162 hb
        replace BK178 := xbb_ BK178 hb
        replace BK183 := xbb_ BK183 hb
        replace BK188 := xbb_ BK188 hb
        replace BK194 := xbb_ BK194 hb
        replace HB := xws_ HB hb
        (try clear hb)
        (try clear hb2)
        (try clear hk)
        (try clear hi)
        (try clear ho0)
        obtain ⟨Ao115, co115, eo115⟩ := Kd.R_slice HO203.out
        (first | subst eo115 | (injection eo115 with f1_ f2_ f3_; have f4_ := f1_.symm; have f5_ := f3_.symm; clear f1_ f2_ f3_; subst f4_; subst f5_))
        refine hK.out _ _ ⟨xk_ BK188 0, xk_ BK188 1, xk_ BK162 0, xk_ BK162 1⟩ (fun hHeld => ?_)
        clear hK K
        refine norm_ (a' := ?_) ?_ ?_
        rotate_left
        ·show Act.put _ (some 61) _ = _
         simp only [Act.put, List.setIfInBounds_toArray, List.set_cons_zero, List.set_cons_succ, i64_w, i32_w]
         rfl
        refine one_ (i := 3) (N := some 62) #[true, true, true, true, false] rfl rfl (by kernel_rfl) (by decide) (fun K hK => ?_)
        refine xgo_ Try.func13 #[.agg #[.slice Ao57 t184.length co57, .int .i64 t187], .agg #[.slice Ao115 t201.length co115, .int .i64 t204]] ?_
        with_reducible refine (laws_eqSketch.calls kj24 _ _ t184 t187 _ _ t201 t204 true _ ?side1 ?side2 ?side3 ?side4 A104.out).mono ?_
        (case side1 => exact xc_ ((Kd.R_reads' HO_189000.out).2.2))
        (case side2 => exact (Kd.R_reads' HO_189000.out).2.1)
        (case side3 => exact xc_ ((Kd.R_reads' HO203.out).2.2))
        (case side4 => exact (Kd.R_reads' HO203.out).2.1)
        rintro e w116 ⟨rfl, hb⟩
        refine ⟨_, rfl, ?_⟩
        replace HO_179000 := xrb_ HO_179000 hb
        replace HO_184000 := xrb_ HO_184000 hb
        replace HO_189000 := xrb_ HO_189000 hb
        replace HO_195000 := xrb_ HO_195000 hb
        replace HO198 := xrb_ HO198 hb
        replace HO203 := xrb_ HO203 hb
        replace BK161 := xbb_ BK161 hb
        replace BK162 := xbb_ BK162 hb
        replace BK178 := xbb_ BK178 hb
        replace BK183 := xbb_ BK183 hb
        replace BK188 := xbb_ BK188 hb
        replace BK194 := xbb_ BK194 hb
        replace HB := xws_ HB hb
        (try clear hb)
        (try clear hb2)
        (try clear hk)
        (try clear hi)
        refine hK.out _ _ ⟨xk_ BK188 0, xk_ BK188 1, xk_ BK162 0, xk_ BK162 1⟩ (fun hHeld => ?_)
        clear hK K
        refine norm_ (a' := ?_) ?_ ?_
        rotate_left
        ·show Act.put _ (some 62) _ = _
         simp only [Act.put, List.setIfInBounds_toArray, List.set_cons_zero, List.set_cons_succ, i64_w, i32_w]
         rfl
        refine pure_ (i := 4) (N := some 63) (v := ?_) (a' := ?_) #[true, true, true, true, true] rfl rfl (by kernel_rfl) (fun _ _ _ h => h) (Or.inl ⟨by rfl, ?_⟩) ?_ ?_
        rotate_left
        ·intro w'
         go_simp
         with_reducible rfl
        rotate_left
        ·simp only [Act.put, List.setIfInBounds_toArray, List.set_cons_zero, List.set_cons_succ, i64_w, i32_w]
         rfl
        refine done_ (by kernel_rfl) ?_
        have hnb117 := NB183_161.out
        have hnc117 := NB161_183.out
        have hnb118 := NB183_162.out
        have hnc118 := NB162_183.out
        have hnb119 := NB183_178.out
        have hnc119 := NB178_183.out
        have hnb120 := NB183_188.out
        have hnc120 := NB188_183.out
        have hnb121 := NB183_194.out
        have hnc121 := NB194_183.out
        have hcz122_0 : w116.cell? ⟨gb183, 0, none⟩ = some (.slice Ao48 t179.length co48) := xk_ BK183 0
        have hcz122_1 : w116.cell? ⟨gb183, 1, none⟩ = some (.int .i64 t182) := xk_ BK183 1
        have hfz122_0 := blk_frozen BK183.out 0
        have hfz122_1 := blk_frozen BK183.out 1
        go_upto_region 21 with (first | ((with_reducible refine gate_callee (f := 14) rfl ?_); refine xgl_ (some 66) Try.func14 #[.agg #[.slice Ao48 t179.length co48, .int .i64 t182], .int .i64 1] ?_; (with_reducible refine (laws_markSketch.calls kj24 (fun k_ => some k_ = (.slice Ao48 t179.length co48 : Value).ownBlock) (.slice Ao48 t179.length co48) t179 t182 1 t206 t207 w _ ?side1 ?side2 A106.out).mono ?_); (case side1 => repeat (first | (with_reducible first | exact HB.out | apply below_alloc | apply pw_below_drewN | apply below_drew1 | refine below_set ?_ GE161.out | refine below_set ?_ GE162.out | refine below_set ?_ GE178.out | refine below_set ?_ GE183.out | refine below_set ?_ GE188.out | refine below_set ?_ GE194.out) | exact HB.out)); (case side2 => exact Kd.R_tight rfl HO_184000.out); rintro e w123 ⟨rfl, hy0, hb, hkp⟩; refine ⟨_, rfl, ?_⟩; replace HO_179000 := Aside0.mk (Kd.R_mono (ok' := fun k_ => some k_ ≠ (.slice Ao48 t179.length co48 : Value).ownBlock ∧ some k_ ≠ (.slice Ao57 t184.length co57 : Value).ownBlock ∧ some k_ ≠ (.slice Ao66 t189.length co66 : Value).ownBlock ∧ some k_ ≠ (.slice Ao111 t196.length co111 : Value).ownBlock ∧ some k_ ≠ (.slice Ao115 t201.length co115 : Value).ownBlock) (Kd.R_keptB (HO_179000.out) hkp (fun k_ hk_ hs_ => (hk_.1.1.1) hs_)) (fun k_ hk_ => ⟨hk_.1.1.1.1, hk_.1.1.1.2.1, hk_.1.1.1.2.2, hk_.1.1.2, hk_.1.2⟩)); replace HO_189000 := Aside0.mk (Kd.R_mono (ok' := fun k_ => some k_ ≠ (.slice Ao41 t173.length co41 : Value).ownBlock ∧ some k_ ≠ (.slice Ao48 t179.length co48 : Value).ownBlock ∧ some k_ ≠ (.slice Ao66 t189.length co66 : Value).ownBlock ∧ some k_ ≠ (.slice Ao111 t196.length co111 : Value).ownBlock ∧ some k_ ≠ (.slice Ao115 t201.length co115 : Value).ownBlock) (Kd.R_keptB (HO_189000.out) hkp (fun k_ hk_ hs_ => (hk_.1.1.2.1) hs_)) (fun k_ hk_ => ⟨hk_.1.1.1.1, hk_.1.1.1.2.1, hk_.1.1.1.2.2, hk_.1.1.2, hk_.1.2⟩)); replace HO_195000 := Aside0.mk (Kd.R_mono (ok' := fun k_ => some k_ ≠ (.slice Ao41 t173.length co41 : Value).ownBlock ∧ some k_ ≠ (.slice Ao48 t179.length co48 : Value).ownBlock ∧ some k_ ≠ (.slice Ao57 t184.length co57 : Value).ownBlock ∧ some k_ ≠ (.slice Ao111 t196.length co111 : Value).ownBlock ∧ some k_ ≠ (.slice Ao115 t201.length co115 : Value).ownBlock) (Kd.R_keptB (HO_195000.out) hkp (fun k_ hk_ hs_ => (hk_.1.1.2.1) hs_)) (fun k_ hk_ => ⟨hk_.1.1.1.1, hk_.1.1.1.2.1, hk_.1.1.1.2.2, hk_.1.1.2, hk_.1.2⟩)); replace BK161 := Aside0.mk (blk_kept (xb_ BK161) hkp (fun hs_ => (fun e_ => (Kd.R_ne HO_184000.out BK161.out (by decide)) e_) hs_)); replace BK162 := Aside0.mk (blk_kept (xb_ BK162) hkp (fun hs_ => (fun e_ => (Kd.R_ne HO_184000.out BK162.out (by decide)) e_) hs_)); replace BK178 := Aside0.mk (blk_kept (xb_ BK178) hkp (fun hs_ => (fun e_ => (Kd.R_ne HO_184000.out BK178.out (by decide)) e_) hs_)); replace BK183 := Aside0.mk (blk_kept (xb_ BK183) hkp (fun hs_ => (fun e_ => (Kd.R_ne HO_184000.out BK183.out (by decide)) e_) hs_)); replace BK188 := Aside0.mk (blk_kept (xb_ BK188) hkp (fun hs_ => (fun e_ => (Kd.R_ne HO_184000.out BK188.out (by decide)) e_) hs_)); replace BK194 := Aside0.mk (blk_kept (xb_ BK194) hkp (fun hs_ => (fun e_ => (Kd.R_ne HO_184000.out BK194.out (by decide)) e_) hs_)); replace HO_184000 := Aside0.mk (Kd.R_reok rfl hy0 (fun k_ e_ => HO_184000.out.1 k_ e_)); replace HO198 := Aside0.mk (Kd.R_mono (ok' := fun k_ => some k_ ≠ (.slice Ao41 t173.length co41 : Value).ownBlock ∧ some k_ ≠ (.slice Ao48 t179.length co48 : Value).ownBlock ∧ some k_ ≠ (.slice Ao57 t184.length co57 : Value).ownBlock ∧ some k_ ≠ (.slice Ao66 t189.length co66 : Value).ownBlock ∧ some k_ ≠ (.slice Ao115 t201.length co115 : Value).ownBlock) (Kd.R_keptB (HO198.out) hkp (fun k_ hk_ hs_ => (hk_.1.1.1.2) hs_)) (fun k_ hk_ => ⟨hk_.1.1.1.1.1.2, hk_.1.1.1.1.2, hk_.1.1.1.2, hk_.1.1.2, hk_.1.2⟩)); replace HO203 := Aside0.mk (Kd.R_mono (ok' := fun k_ => some k_ ≠ (.slice Ao41 t173.length co41 : Value).ownBlock ∧ some k_ ≠ (.slice Ao48 t179.length co48 : Value).ownBlock ∧ some k_ ≠ (.slice Ao57 t184.length co57 : Value).ownBlock ∧ some k_ ≠ (.slice Ao66 t189.length co66 : Value).ownBlock ∧ some k_ ≠ (.slice Ao111 t196.length co111 : Value).ownBlock) (Kd.R_keptB (HO203.out) hkp (fun k_ hk_ hs_ => (hk_.1.1.1.2) hs_)) (fun k_ hk_ => ⟨hk_.1.1.1.1.1.2, hk_.1.1.1.1.2, hk_.1.1.1.2, hk_.1.1.2, hk_.1.2⟩)); replace HB := Aside0.mk (hb); (try clear hb); (try clear hkp); (try clear hy0); have hnb124 := NB188_161.out; have hnc124 := NB161_188.out; have hnb125 := NB188_162.out; have hnc125 := NB162_188.out; have hnb126 := NB188_178.out; have hnc126 := NB178_188.out; have hnb127 := NB188_194.out; have hnc127 := NB194_188.out; have hcz128_0 : w123.cell? ⟨gb188, 0, none⟩ = some (.slice Ao57 t184.length co57) := xk_ BK188 0; have hcz128_1 : w123.cell? ⟨gb188, 1, none⟩ = some (.int .i64 t187) := xk_ BK188 1; have hfz128_0 := blk_frozen BK188.out 0; have hfz128_1 := blk_frozen BK188.out 1) | ((with_reducible refine gate_callee (f := 14) rfl ?_); refine xgl_ (some 69) Try.func14 #[.agg #[.slice Ao57 t184.length co57, .int .i64 t187], .int .i64 t206] ?_; (with_reducible refine (laws_markSketch.calls kj24 (fun k_ => some k_ = (.slice Ao57 t184.length co57 : Value).ownBlock) (.slice Ao57 t184.length co57) t184 t187 t206 t208 t209 w _ ?side1 ?side2 A107.out).mono ?_); (case side1 => repeat (first | (with_reducible first | exact HB.out | apply below_alloc | apply pw_below_drewN | apply below_drew1 | refine below_set ?_ GE161.out | refine below_set ?_ GE162.out | refine below_set ?_ GE178.out | refine below_set ?_ GE183.out | refine below_set ?_ GE188.out | refine below_set ?_ GE194.out) | exact HB.out)); (case side2 => exact Kd.R_tight rfl HO_189000.out); rintro e w129 ⟨rfl, hy0, hb, hkp⟩; refine ⟨_, rfl, ?_⟩; replace HO_179000 := Aside0.mk (Kd.R_mono (ok' := fun k_ => some k_ ≠ (.slice Ao48 t179.length co48 : Value).ownBlock ∧ some k_ ≠ (.slice Ao57 t184.length co57 : Value).ownBlock ∧ some k_ ≠ (.slice Ao66 t189.length co66 : Value).ownBlock ∧ some k_ ≠ (.slice Ao111 t196.length co111 : Value).ownBlock ∧ some k_ ≠ (.slice Ao115 t201.length co115 : Value).ownBlock) (Kd.R_keptB (HO_179000.out) hkp (fun k_ hk_ hs_ => (hk_.2.1) hs_)) (fun k_ hk_ => ⟨hk_.1.1, hk_.1.2.1, hk_.1.2.2.1, hk_.1.2.2.2.1, hk_.1.2.2.2.2⟩)); replace HO_184000 := Aside0.mk (Kd.R_mono (ok' := fun k_ => some k_ ≠ (.slice Ao41 t173.length co41 : Value).ownBlock ∧ some k_ ≠ (.slice Ao57 t184.length co57 : Value).ownBlock ∧ some k_ ≠ (.slice Ao66 t189.length co66 : Value).ownBlock ∧ some k_ ≠ (.slice Ao111 t196.length co111 : Value).ownBlock ∧ some k_ ≠ (.slice Ao115 t201.length co115 : Value).ownBlock) (Kd.R_keptB (HO_184000.out) hkp (fun k_ hk_ hs_ => (hk_.1.1.2.1) hs_)) (fun k_ hk_ => ⟨hk_.1.1.1.1, hk_.1.1.1.2.1, hk_.1.1.1.2.2, hk_.1.1.2, hk_.1.2⟩)); replace HO_195000 := Aside0.mk (Kd.R_mono (ok' := fun k_ => some k_ ≠ (.slice Ao41 t173.length co41 : Value).ownBlock ∧ some k_ ≠ (.slice Ao48 t179.length co48 : Value).ownBlock ∧ some k_ ≠ (.slice Ao57 t184.length co57 : Value).ownBlock ∧ some k_ ≠ (.slice Ao111 t196.length co111 : Value).ownBlock ∧ some k_ ≠ (.slice Ao115 t201.length co115 : Value).ownBlock) (Kd.R_keptB (HO_195000.out) hkp (fun k_ hk_ hs_ => (hk_.2.2.1) hs_)) (fun k_ hk_ => ⟨hk_.1.1, hk_.1.2.1, hk_.1.2.2.1, hk_.1.2.2.2.1, hk_.1.2.2.2.2⟩)); replace BK161 := Aside0.mk (blk_kept (xb_ BK161) hkp (fun hs_ => (fun e_ => (Kd.R_ne HO_189000.out BK161.out (by decide)) e_) hs_)); replace BK162 := Aside0.mk (blk_kept (xb_ BK162) hkp (fun hs_ => (fun e_ => (Kd.R_ne HO_189000.out BK162.out (by decide)) e_) hs_)); replace BK178 := Aside0.mk (blk_kept (xb_ BK178) hkp (fun hs_ => (fun e_ => (Kd.R_ne HO_189000.out BK178.out (by decide)) e_) hs_)); replace BK183 := Aside0.mk (blk_kept (xb_ BK183) hkp (fun hs_ => (fun e_ => (Kd.R_ne HO_189000.out BK183.out (by decide)) e_) hs_)); replace BK188 := Aside0.mk (blk_kept (xb_ BK188) hkp (fun hs_ => (fun e_ => (Kd.R_ne HO_189000.out BK188.out (by decide)) e_) hs_)); replace BK194 := Aside0.mk (blk_kept (xb_ BK194) hkp (fun hs_ => (fun e_ => (Kd.R_ne HO_189000.out BK194.out (by decide)) e_) hs_)); replace HO_189000 := Aside0.mk (Kd.R_reok rfl hy0 (fun k_ e_ => HO_189000.out.1 k_ e_)); replace HO198 := Aside0.mk (Kd.R_mono (ok' := fun k_ => some k_ ≠ (.slice Ao41 t173.length co41 : Value).ownBlock ∧ some k_ ≠ (.slice Ao48 t179.length co48 : Value).ownBlock ∧ some k_ ≠ (.slice Ao57 t184.length co57 : Value).ownBlock ∧ some k_ ≠ (.slice Ao66 t189.length co66 : Value).ownBlock ∧ some k_ ≠ (.slice Ao115 t201.length co115 : Value).ownBlock) (Kd.R_keptB (HO198.out) hkp (fun k_ hk_ hs_ => (hk_.2.2.1) hs_)) (fun k_ hk_ => ⟨hk_.1.1, hk_.1.2.1, hk_.1.2.2.1, hk_.1.2.2.2.1, hk_.1.2.2.2.2⟩)); replace HO203 := Aside0.mk (Kd.R_mono (ok' := fun k_ => some k_ ≠ (.slice Ao41 t173.length co41 : Value).ownBlock ∧ some k_ ≠ (.slice Ao48 t179.length co48 : Value).ownBlock ∧ some k_ ≠ (.slice Ao57 t184.length co57 : Value).ownBlock ∧ some k_ ≠ (.slice Ao66 t189.length co66 : Value).ownBlock ∧ some k_ ≠ (.slice Ao111 t196.length co111 : Value).ownBlock) (Kd.R_keptB (HO203.out) hkp (fun k_ hk_ hs_ => (hk_.2.2.1) hs_)) (fun k_ hk_ => ⟨hk_.1.1, hk_.1.2.1, hk_.1.2.2.1, hk_.1.2.2.2.1, hk_.1.2.2.2.2⟩)); replace HB := Aside0.mk (hb); (try clear hb); (try clear hkp); (try clear hy0)))
        (try simp only [Act.put, List.setIfInBounds_toArray, List.set_cons_zero, List.set_cons_succ])
        go_cut [82] (fun v82 wc => ∃ (kq : Nat) (x82_107 : Bool), v82 = .bool x82_107 ∧ Aside0 (laws_FnExactJoinSketches.j1 kq t177 x82_107 l0_0 a0_1 l1_0 a1_1 t173 t176 t189 t192 = some r) ∧ Aside0 (kq ≤ kj24) ∧ Aside0 (Kd.R (Kd.int .i64) 3 wc w.heap.size (fun k_ => some k_ ≠ ((.slice Ao48 t179.length co48) : Value).ownBlock ∧ some k_ ≠ ((.slice Ao57 t184.length co57) : Value).ownBlock ∧ some k_ ≠ ((.slice Ao66 t189.length co66) : Value).ownBlock) (.slice Ao41 t173.length co41) t173) ∧ Aside0 (Kd.R (Kd.int .i64) 3 wc w.heap.size (fun k_ => some k_ ≠ ((.slice Ao41 t173.length co41) : Value).ownBlock ∧ some k_ ≠ ((.slice Ao57 t184.length co57) : Value).ownBlock ∧ some k_ ≠ ((.slice Ao66 t189.length co66) : Value).ownBlock) (.slice Ao48 t179.length co48) t207) ∧ Aside0 (Kd.R (Kd.int .i64) 3 wc w.heap.size (fun k_ => some k_ ≠ ((.slice Ao41 t173.length co41) : Value).ownBlock ∧ some k_ ≠ ((.slice Ao48 t179.length co48) : Value).ownBlock ∧ some k_ ≠ ((.slice Ao66 t189.length co66) : Value).ownBlock) (.slice Ao57 t184.length co57) t209) ∧ Aside0 (Kd.R (Kd.int .i64) 3 wc w.heap.size (fun k_ => some k_ ≠ ((.slice Ao41 t173.length co41) : Value).ownBlock ∧ some k_ ≠ ((.slice Ao48 t179.length co48) : Value).ownBlock ∧ some k_ ≠ ((.slice Ao57 t184.length co57) : Value).ownBlock) (.slice Ao66 t189.length co66) t189) ∧ Aside0 (wc.heap[gb161]? = some (.cells #[(.slice A0_0 l0_0.length c0_0), .int .i64 a0_1] 34 (0, 0))) ∧ Aside0 (wc.heap[gb162]? = some (.cells #[(.slice A1_0 l1_0.length c1_0), .int .i64 a1_1] 34 (0, 0))) ∧ Aside0 (wc.heap[gb178]? = some (.cells #[(.slice Ao41 t173.length co41), .int .i64 t176] 24 (0, 0))) ∧ Aside0 (wc.heap[gb183]? = some (.cells #[(.slice Ao48 t179.length co48), .int .i64 t182] 24 (0, 0))) ∧ Aside0 (wc.heap[gb188]? = some (.cells #[(.slice Ao57 t184.length co57), .int .i64 t187] 24 (0, 0))) ∧ Aside0 (wc.heap[gb194]? = some (.cells #[(.slice Ao66 t189.length co66), .int .i64 t192] 24 (0, 0))) ∧ Aside0 (Below w.heap.size w wc))
        case first =>
         have H := HC108.out
         clear HC108
         by_cases c130 : t208 < 0
         ·rw [if_pos c130] at H
          have c130b0 : decide (t208 < 0) = true := decide_eq_true c130
          clear c130
          (first | rw [c130b0] | (simp only [i64_w, i32_w]; rw [c130b0]) | skip)
          have H' := Aside0.mk H
          clear H
          go_wp2
          go_meet
          case rel => exact ⟨_, (true), (by first | rfl | (simp; done) | (simp [*]; done)), H', ⟨by have := HJ24.out; first | omega | exact Nat.le_refl _⟩, ⟨xrt_ (Kd.R_mono HO_179000.out (fun _ hk => ⟨hk.1, ⟨hk.2.1, hk.2.2.1⟩⟩))⟩, ⟨xrt_ (Kd.R_mono HO_184000.out (fun _ hk => ⟨hk.1, ⟨hk.2.1, hk.2.2.1⟩⟩))⟩, ⟨xrt_ (Kd.R_mono HO_189000.out (fun _ hk => ⟨hk.1, ⟨hk.2.1, hk.2.2.1⟩⟩))⟩, ⟨xrt_ (Kd.R_mono HO_195000.out (fun _ hk => ⟨hk.1, ⟨hk.2.1, hk.2.2.1⟩⟩))⟩, ⟨xb_ BK161⟩, ⟨xb_ BK162⟩, ⟨xb_ BK178⟩, ⟨xb_ BK183⟩, ⟨xb_ BK188⟩, ⟨xb_ BK194⟩, ⟨xw_ HB⟩⟩
         ·rw [if_neg c130] at H
          have c130b0 : decide (t208 < 0) = false := decide_eq_false c130
          clear c130
          (first | rw [c130b0] | (simp only [i64_w, i32_w]; rw [c130b0]) | skip)
          replace H := Option.bind_eq_some_iff.mp H
          obtain ⟨t210, A1310, H⟩ := H
          replace H : (if t210 = true then (laws_FnExactJoinSketches.j1 kj24 t177 (t193 != t177) l0_0 a0_1 l1_0 a1_1 t173 t176 t189 t192) else (laws_FnExactJoinSketches.j1 kj24 t177 true l0_0 a0_1 l1_0 a1_1 t173 t176 t189 t192)) = some r := H
          have A131 := Aside0.mk A1310
          clear A1310
          by_cases c132 : t210 = true
          ·subst c132
           have H1 : (laws_FnExactJoinSketches.j1 kj24 t177 (t193 != t177) l0_0 a0_1 l1_0 a1_1 t173 t176 t189 t192) = some r := by rw [if_pos rfl] at H; exact H
           clear H
           have H := H1
           clear H1
           have H' := Aside0.mk H
           clear H
           have hnb133 := NB194_161.out
           have hnc133 := NB161_194.out
           have hnb134 := NB194_162.out
           have hnc134 := NB162_194.out
           have hnb135 := NB194_178.out
           have hnc135 := NB178_194.out
           have hnb136 := NB194_183.out
           have hnc136 := NB183_194.out
           have hnb137 := NB194_188.out
           have hnc137 := NB188_194.out
           have hcz138_0 : w129.cell? ⟨gb194, 0, none⟩ = some (.slice Ao66 t189.length co66) := xk_ BK194 0
           have hcz138_1 : w129.cell? ⟨gb194, 1, none⟩ = some (.int .i64 t192) := xk_ BK194 1
           have hfz138_0 := blk_frozen BK194.out 0
           have hfz138_1 := blk_frozen BK194.out 1
           have hnb139 := NB178_161.out
           have hnc139 := NB161_178.out
           have hnb140 := NB178_162.out
           have hnc140 := NB162_178.out
           have hnb141 := NB178_183.out
           have hnc141 := NB183_178.out
           have hnb142 := NB178_188.out
           have hnc142 := NB188_178.out
           have hcz143_0 : w129.cell? ⟨gb178, 0, none⟩ = some (.slice Ao41 t173.length co41) := xk_ BK178 0
           have hcz143_1 : w129.cell? ⟨gb178, 1, none⟩ = some (.int .i64 t176) := xk_ BK178 1
           have hfz143_0 := blk_frozen BK178.out 0
           have hfz143_1 := blk_frozen BK178.out 1
           go_wp2_with (first | (go_at_call 13; (with_reducible refine (laws_eqSketch.calls kj24 _ _ t189 t192 _ _ t173 t176 true _ ?side1 ?side2 ?side3 ?side4 A131.out).mono ?_); (case side1 => exact xc_ ((Kd.R_reads' HO_195000.out).2.2)); (case side2 => exact (Kd.R_reads' HO_195000.out).2.1); (case side3 => exact xc_ ((Kd.R_reads' HO_179000.out).2.2)); (case side4 => exact (Kd.R_reads' HO_179000.out).2.1); rintro e w144 ⟨rfl, hb⟩; replace HO_179000 := xrb_ HO_179000 hb; replace HO_184000 := xrb_ HO_184000 hb; replace HO_189000 := xrb_ HO_189000 hb; replace HO_195000 := xrb_ HO_195000 hb; replace HO198 := xrb_ HO198 hb; replace HO203 := xrb_ HO203 hb; replace BK161 := xbb_ BK161 hb; replace BK162 := xbb_ BK162 hb; replace BK178 := xbb_ BK178 hb; replace BK183 := xbb_ BK183 hb; replace BK188 := xbb_ BK188 hb; replace BK194 := xbb_ BK194 hb; replace HB := xws_ HB hb; (try clear hb); (try clear hb2); (try clear hk); (try clear hi)))
           go_meet
           case rel => exact ⟨_, ((t193 != t177)), (by first | rfl | (simp; done) | (simp [*]; done)), H', ⟨by have := HJ24.out; first | omega | exact Nat.le_refl _⟩, ⟨xrt_ (Kd.R_mono HO_179000.out (fun _ hk => ⟨hk.1, ⟨hk.2.1, hk.2.2.1⟩⟩))⟩, ⟨xrt_ (Kd.R_mono HO_184000.out (fun _ hk => ⟨hk.1, ⟨hk.2.1, hk.2.2.1⟩⟩))⟩, ⟨xrt_ (Kd.R_mono HO_189000.out (fun _ hk => ⟨hk.1, ⟨hk.2.1, hk.2.2.1⟩⟩))⟩, ⟨xrt_ (Kd.R_mono HO_195000.out (fun _ hk => ⟨hk.1, ⟨hk.2.1, hk.2.2.1⟩⟩))⟩, ⟨xb_ BK161⟩, ⟨xb_ BK162⟩, ⟨xb_ BK178⟩, ⟨xb_ BK183⟩, ⟨xb_ BK188⟩, ⟨xb_ BK194⟩, ⟨xw_ HB⟩⟩
          ·replace c132 := Bool.eq_false_iff.mpr c132
           subst c132
           have H1 : (laws_FnExactJoinSketches.j1 kj24 t177 true l0_0 a0_1 l1_0 a1_1 t173 t176 t189 t192) = some r := by rw [if_neg (show ¬ (false = true) by decide)] at H; exact H
           clear H
           have H := H1
           clear H1
           have H' := Aside0.mk H
           clear H
           have hnb145 := NB194_161.out
           have hnc145 := NB161_194.out
           have hnb146 := NB194_162.out
           have hnc146 := NB162_194.out
           have hnb147 := NB194_178.out
           have hnc147 := NB178_194.out
           have hnb148 := NB194_183.out
           have hnc148 := NB183_194.out
           have hnb149 := NB194_188.out
           have hnc149 := NB188_194.out
           have hcz150_0 : w129.cell? ⟨gb194, 0, none⟩ = some (.slice Ao66 t189.length co66) := xk_ BK194 0
           have hcz150_1 : w129.cell? ⟨gb194, 1, none⟩ = some (.int .i64 t192) := xk_ BK194 1
           have hfz150_0 := blk_frozen BK194.out 0
           have hfz150_1 := blk_frozen BK194.out 1
           have hnb151 := NB178_161.out
           have hnc151 := NB161_178.out
           have hnb152 := NB178_162.out
           have hnc152 := NB162_178.out
           have hnb153 := NB178_183.out
           have hnc153 := NB183_178.out
           have hnb154 := NB178_188.out
           have hnc154 := NB188_178.out
           have hcz155_0 : w129.cell? ⟨gb178, 0, none⟩ = some (.slice Ao41 t173.length co41) := xk_ BK178 0
           have hcz155_1 : w129.cell? ⟨gb178, 1, none⟩ = some (.int .i64 t176) := xk_ BK178 1
           have hfz155_0 := blk_frozen BK178.out 0
           have hfz155_1 := blk_frozen BK178.out 1
           go_wp2_with (first | (go_at_call 13; (with_reducible refine (laws_eqSketch.calls kj24 _ _ t189 t192 _ _ t173 t176 false _ ?side1 ?side2 ?side3 ?side4 A131.out).mono ?_); (case side1 => exact xc_ ((Kd.R_reads' HO_195000.out).2.2)); (case side2 => exact (Kd.R_reads' HO_195000.out).2.1); (case side3 => exact xc_ ((Kd.R_reads' HO_179000.out).2.2)); (case side4 => exact (Kd.R_reads' HO_179000.out).2.1); rintro e w156 ⟨rfl, hb⟩; replace HO_179000 := xrb_ HO_179000 hb; replace HO_184000 := xrb_ HO_184000 hb; replace HO_189000 := xrb_ HO_189000 hb; replace HO_195000 := xrb_ HO_195000 hb; replace HO198 := xrb_ HO198 hb; replace HO203 := xrb_ HO203 hb; replace BK161 := xbb_ BK161 hb; replace BK162 := xbb_ BK162 hb; replace BK178 := xbb_ BK178 hb; replace BK183 := xbb_ BK183 hb; replace BK188 := xbb_ BK188 hb; replace BK194 := xbb_ BK194 hb; replace HB := xws_ HB hb; (try clear hb); (try clear hb2); (try clear hk); (try clear hi)))
           go_meet
           case rel => exact ⟨_, (true), (by first | rfl | (simp; done) | (simp [*]; done)), H', ⟨by have := HJ24.out; first | omega | exact Nat.le_refl _⟩, ⟨xrt_ (Kd.R_mono HO_179000.out (fun _ hk => ⟨hk.1, ⟨hk.2.1, hk.2.2.1⟩⟩))⟩, ⟨xrt_ (Kd.R_mono HO_184000.out (fun _ hk => ⟨hk.1, ⟨hk.2.1, hk.2.2.1⟩⟩))⟩, ⟨xrt_ (Kd.R_mono HO_189000.out (fun _ hk => ⟨hk.1, ⟨hk.2.1, hk.2.2.1⟩⟩))⟩, ⟨xrt_ (Kd.R_mono HO_195000.out (fun _ hk => ⟨hk.1, ⟨hk.2.1, hk.2.2.1⟩⟩))⟩, ⟨xb_ BK161⟩, ⟨xb_ BK162⟩, ⟨xb_ BK178⟩, ⟨xb_ BK183⟩, ⟨xb_ BK188⟩, ⟨xb_ BK194⟩, ⟨xw_ HB⟩⟩
        case rest =>
         clear HC108
         try clear c1
         try clear c2
         try clear p2
         try clear c7
         try clear c8
         try clear c9
         try clear c10
         try clear c11
         try clear c12
         try clear c13
         try clear c14
         try clear c15
         try clear c23
         try clear c76
         try clear c77
         try clear c78
         try clear c79
         try clear c81
         try clear c82
         try clear c83
         try clear c84
         try clear c87
         try clear c88
         try clear c89
         try clear c90
         try clear c91
         try clear c93
         try clear c94
         try clear c95
         try clear c96
         try clear c99
         try clear c102
         try clear c105
         try clear c117
         try clear c118
         try clear c119
         try clear c120
         try clear c121
         try clear c124
         try clear c125
         try clear c126
         try clear c127
         try clear c130
         try clear c130b0
         try clear c132
         try clear c133
         try clear c134
         try clear c135
         try clear c136
         try clear c137
         try clear c139
         try clear c140
         try clear c141
         try clear c142
         try clear c145
         try clear c146
         try clear c147
         try clear c148
         try clear c149
         try clear c151
         try clear c152
         try clear c153
         try clear c154
         try clear hcz122_0
         try clear hcz122_1
         try clear hcz128_0
         try clear hcz128_1
         try clear hcz138_0
         try clear hcz138_1
         try clear hcz143_0
         try clear hcz143_1
         try clear hcz150_0
         try clear hcz150_1
         try clear hcz155_0
         try clear hcz155_1
         try clear hcz45_0
         try clear hcz45_1
         try clear hcz52_0
         try clear hcz52_1
         try clear hcz54_0
         try clear hcz54_1
         try clear hcz62_0
         try clear hcz62_1
         try clear hcz63_0
         try clear hcz63_1
         try clear hcz72_0
         try clear hcz72_1
         try clear hcz80_0
         try clear hcz80_1
         try clear hcz85_0
         try clear hcz85_1
         try clear hcz92_0
         try clear hcz92_1
         try clear hcz97_0
         try clear hcz97_1
         try clear hfz122_0
         try clear hfz122_1
         try clear hfz128_0
         try clear hfz128_1
         try clear hfz138_0
         try clear hfz138_1
         try clear hfz143_0
         try clear hfz143_1
         try clear hfz150_0
         try clear hfz150_1
         try clear hfz155_0
         try clear hfz155_1
         try clear hfz45_0
         try clear hfz45_1
         try clear hfz52_0
         try clear hfz52_1
         try clear hfz54_0
         try clear hfz54_1
         try clear hfz62_0
         try clear hfz62_1
         try clear hfz63_0
         try clear hfz63_1
         try clear hfz72_0
         try clear hfz72_1
         try clear hfz80_0
         try clear hfz80_1
         try clear hfz85_0
         try clear hfz85_1
         try clear hfz92_0
         try clear hfz92_1
         try clear hfz97_0
         try clear hfz97_1
         obtain ⟨kq, x82_107, rfl, HA, HJ107, HO_179000, HO_184000, HO_189000, HO_195000, BK161, BK162, BK178, BK183, BK188, BK194, HB⟩ := hcut
         have hl184000_107 := (Kd.R_reads' HO_184000.out).1
         rw [hl184000_107] at HO_184000
         (try simp only [hl184000_107])
         (try simp only [hl184000_107] at BK161)
         (try simp only [hl184000_107] at BK162)
         (try simp only [hl184000_107] at BK178)
         (try simp only [hl184000_107] at BK183)
         (try simp only [hl184000_107] at BK188)
         (try simp only [hl184000_107] at BK194)
         (try simp only [hl184000_107] at HO_179000)
         (try simp only [hl184000_107] at HO_189000)
         (try simp only [hl184000_107] at HO_195000)
         have hl189000_107 := (Kd.R_reads' HO_189000.out).1
         rw [hl189000_107] at HO_189000
         (try simp only [hl189000_107])
         (try simp only [hl189000_107] at BK161)
         (try simp only [hl189000_107] at BK162)
         (try simp only [hl189000_107] at BK178)
         (try simp only [hl189000_107] at BK183)
         (try simp only [hl189000_107] at BK188)
         (try simp only [hl189000_107] at BK194)
         (try simp only [hl189000_107] at HO_179000)
         (try simp only [hl189000_107] at HO_184000)
         (try simp only [hl189000_107] at HO_195000)
         cases kq with
         | zero => exact absurd HA.out (by simp [laws_FnExactJoinSketches.j1])
         | succ kj107 =>
          have H := HA.out
          clear HA
          simp only [laws_FnExactJoinSketches.j1] at H
          by_cases c157 : x82_107 = true
          ·subst c157
           have H1 : (some false) = some r := by rw [if_pos rfl] at H; exact H
           clear H
           have H := H1
           clear H1
           obtain rfl := Option.some.inj H
           go_wp2
           go_ret
           exact ⟨by first | rfl | (simp [errW_none, errW_some] <;> rfl) | (simp [*, errW_none, errW_some] <;> rfl), xw_ HB⟩
          ·replace c157 := Bool.eq_false_iff.mpr c157
           subst c157
           have H1 : ((laws_markSketch.f kj107 t189 t192 1).bind fun bt211 => ((laws_heldSketch.f kj107 bt211.2 t192 1).bind fun t213 => (if t213 < 0 then (some false) else (if t213 = bt211.1 then ((laws_toSketch.f kj107 l0_0 a0_1).bind fun bt214 => ((laws_toSketch.f kj107 l1_0 a1_1).bind fun bt218 => ((impl_JoinSketches.f kj107 bt214.1 bt214.2 bt218.1 bt218.2).bind fun bt222 => ((laws_eqSketch.f kj107 bt222.1 bt222.2.1 t173 t176).bind fun t228 => (if t228 = true then (laws_FnExactJoinSketches.j2 kj107 bt211.1 (bt222.2.2 != t177) bt211.2 t192) else (laws_FnExactJoinSketches.j2 kj107 bt211.1 true bt211.2 t192)))))) else (some false))))) = some r := by rw [if_neg (show ¬ (false = true) by decide)] at H; exact H
           clear H
           have H := H1
           clear H1
           replace H := Option.bind_eq_some_iff.mp H
           obtain ⟨⟨t211, t212⟩, A1580, H⟩ := H
           replace H : ((laws_heldSketch.f kj107 t212 t192 1).bind fun t213 => (if t213 < 0 then (some false) else (if t213 = t211 then ((laws_toSketch.f kj107 l0_0 a0_1).bind fun bt214 => ((laws_toSketch.f kj107 l1_0 a1_1).bind fun bt218 => ((impl_JoinSketches.f kj107 bt214.1 bt214.2 bt218.1 bt218.2).bind fun bt222 => ((laws_eqSketch.f kj107 bt222.1 bt222.2.1 t173 t176).bind fun t228 => (if t228 = true then (laws_FnExactJoinSketches.j2 kj107 t211 (bt222.2.2 != t177) t212 t192) else (laws_FnExactJoinSketches.j2 kj107 t211 true t212 t192)))))) else (some false)))) = some r := H
           have A158 := Aside0.mk A1580
           clear A1580
           replace H := Option.bind_eq_some_iff.mp H
           obtain ⟨t213, A1590, H⟩ := H
           replace H : (if t213 < 0 then (some false) else (if t213 = t211 then ((laws_toSketch.f kj107 l0_0 a0_1).bind fun bt214 => ((laws_toSketch.f kj107 l1_0 a1_1).bind fun bt218 => ((impl_JoinSketches.f kj107 bt214.1 bt214.2 bt218.1 bt218.2).bind fun bt222 => ((laws_eqSketch.f kj107 bt222.1 bt222.2.1 t173 t176).bind fun t228 => (if t228 = true then (laws_FnExactJoinSketches.j2 kj107 t211 (bt222.2.2 != t177) t212 t192) else (laws_FnExactJoinSketches.j2 kj107 t211 true t212 t192)))))) else (some false))) = some r := H
           have A159 := Aside0.mk A1590
           clear A1590
           by_cases c160 : t213 < 0
           ·rw [if_pos c160] at H
            have c160b0 : decide (t213 < 0) = true := decide_eq_true c160
            clear c160
            obtain rfl := Option.some.inj H
            have hnb161 := NB194_161.out
            have hnc161 := NB161_194.out
            have hnb162 := NB194_162.out
            have hnc162 := NB162_194.out
            have hnb163 := NB194_178.out
            have hnc163 := NB178_194.out
            have hnb164 := NB194_183.out
            have hnc164 := NB183_194.out
            have hnb165 := NB194_188.out
            have hnc165 := NB188_194.out
            have hcz166_0 : wc.cell? ⟨gb194, 0, none⟩ = some (.slice Ao66 t189.length co66) := xk_ BK194 0
            have hcz166_1 : wc.cell? ⟨gb194, 1, none⟩ = some (.int .i64 t192) := xk_ BK194 1
            have hfz166_0 := blk_frozen BK194.out 0
            have hfz166_1 := blk_frozen BK194.out 1
            go_wp2_with (first | ((with_reducible refine gate_callee (f := 14) rfl ?_); refine xgl_ (some 85) Try.func14 #[.agg #[.slice Ao66 t189.length co66, .int .i64 t192], .int .i64 1] ?_; (with_reducible refine (laws_markSketch.calls kj107 (fun k_ => some k_ = (.slice Ao66 t189.length co66 : Value).ownBlock) (.slice Ao66 t189.length co66) t189 t192 1 t211 t212 w _ ?side1 ?side2 A158.out).mono ?_); (case side1 => repeat (first | (with_reducible first | exact HB.out | apply below_alloc | apply pw_below_drewN | apply below_drew1 | refine below_set ?_ GE161.out | refine below_set ?_ GE162.out | refine below_set ?_ GE178.out | refine below_set ?_ GE183.out | refine below_set ?_ GE188.out | refine below_set ?_ GE194.out) | exact HB.out)); (case side2 => exact Kd.R_tight rfl HO_195000.out); rintro e w167 ⟨rfl, hy0, hb, hkp⟩; refine ⟨_, rfl, ?_⟩; replace HO_179000 := Aside0.mk (Kd.R_mono (ok' := fun k_ => some k_ ≠ (.slice Ao48 t207.length co48 : Value).ownBlock ∧ some k_ ≠ (.slice Ao57 t209.length co57 : Value).ownBlock ∧ some k_ ≠ (.slice Ao66 t189.length co66 : Value).ownBlock) (Kd.R_keptB (HO_179000.out) hkp (fun k_ hk_ hs_ => (hk_.2.2) hs_)) (fun k_ hk_ => ⟨hk_.1.1, hk_.1.2.1, hk_.1.2.2⟩)); replace HO_184000 := Aside0.mk (Kd.R_mono (ok' := fun k_ => some k_ ≠ (.slice Ao41 t173.length co41 : Value).ownBlock ∧ some k_ ≠ (.slice Ao57 t209.length co57 : Value).ownBlock ∧ some k_ ≠ (.slice Ao66 t189.length co66 : Value).ownBlock) (Kd.R_keptB (HO_184000.out) hkp (fun k_ hk_ hs_ => (hk_.2.2) hs_)) (fun k_ hk_ => ⟨hk_.1.1, hk_.1.2.1, hk_.1.2.2⟩)); replace HO_189000 := Aside0.mk (Kd.R_mono (ok' := fun k_ => some k_ ≠ (.slice Ao41 t173.length co41 : Value).ownBlock ∧ some k_ ≠ (.slice Ao48 t207.length co48 : Value).ownBlock ∧ some k_ ≠ (.slice Ao66 t189.length co66 : Value).ownBlock) (Kd.R_keptB (HO_189000.out) hkp (fun k_ hk_ hs_ => (hk_.2.2) hs_)) (fun k_ hk_ => ⟨hk_.1.1, hk_.1.2.1, hk_.1.2.2⟩)); replace BK161 := Aside0.mk (blk_kept (xb_ BK161) hkp (fun hs_ => (fun e_ => (Kd.R_ne HO_195000.out BK161.out (by decide)) e_) hs_)); replace BK162 := Aside0.mk (blk_kept (xb_ BK162) hkp (fun hs_ => (fun e_ => (Kd.R_ne HO_195000.out BK162.out (by decide)) e_) hs_)); replace BK178 := Aside0.mk (blk_kept (xb_ BK178) hkp (fun hs_ => (fun e_ => (Kd.R_ne HO_195000.out BK178.out (by decide)) e_) hs_)); replace BK183 := Aside0.mk (blk_kept (xb_ BK183) hkp (fun hs_ => (fun e_ => (Kd.R_ne HO_195000.out BK183.out (by decide)) e_) hs_)); replace BK188 := Aside0.mk (blk_kept (xb_ BK188) hkp (fun hs_ => (fun e_ => (Kd.R_ne HO_195000.out BK188.out (by decide)) e_) hs_)); replace BK194 := Aside0.mk (blk_kept (xb_ BK194) hkp (fun hs_ => (fun e_ => (Kd.R_ne HO_195000.out BK194.out (by decide)) e_) hs_)); replace HO_195000 := Aside0.mk (Kd.R_reok rfl hy0 (fun k_ e_ => HO_195000.out.1 k_ e_)); replace HB := Aside0.mk (hb); (try clear hb); (try clear hkp); (try clear hy0); have hcz168_0 : w167.cell? ⟨gb194, 0, none⟩ = some (.slice Ao66 t189.length co66) := xk_ BK194 0; have hcz168_1 : w167.cell? ⟨gb194, 1, none⟩ = some (.int .i64 t192) := xk_ BK194 1; have hfz168_0 := blk_frozen BK194.out 0; have hfz168_1 := blk_frozen BK194.out 1) | ((with_reducible refine gate_callee (f := 15) rfl ?_); refine goesL_ (some 88) rfl rfl Try.func15 (by kernel_rfl) rfl #[.agg #[.slice Ao66 t212.length co66, .int .i64 t192], .int .i64 1] rfl (by (try simp only [List.map_toArray, List.map_cons, List.map_nil]); first | done | (rw [show t212.length = t189.length from (Kd.R_reads' HO_195000.out).1.symm] <;> rfl) | rfl | (simp only [List.length_drop, List.length_take]; rfl)) ?_; (with_reducible refine (laws_heldSketch.calls kj107 _ _ t212 t192 1 t213 _ ?side1 ?side2 A159.out).mono ?_); (case side1 => exact xc_ ((Kd.R_reads' HO_195000.out).2.2)); (case side2 => rw [show t212.length = t189.length from (Kd.R_reads' HO_195000.out).1.symm]; exact (Kd.R_reads' HO_195000.out).2.1); rintro e w169 ⟨rfl, hb⟩; refine ⟨_, rfl, ?_⟩; replace HO_179000 := xrb_ HO_179000 hb; replace HO_184000 := xrb_ HO_184000 hb; replace HO_189000 := xrb_ HO_189000 hb; replace HO_195000 := xrb_ HO_195000 hb; replace BK161 := xbb_ BK161 hb; replace BK162 := xbb_ BK162 hb; replace BK178 := xbb_ BK178 hb; replace BK183 := xbb_ BK183 hb; replace BK188 := xbb_ BK188 hb; replace BK194 := xbb_ BK194 hb; replace HB := xws_ HB hb; (try clear hb); (try clear hb2); (try clear hk); (try clear hi)))
            go_ret
            exact ⟨by first | rfl | (simp [errW_none, errW_some] <;> rfl) | (simp [*, errW_none, errW_some] <;> rfl), xw_ HB⟩
           ·rw [if_neg c160] at H
            have c160b0 : decide (t213 < 0) = false := decide_eq_false c160
            clear c160
            by_cases c170 : t213 = t211
            ·rw [if_pos c170] at H
             have c170b0 : (t213 == t211) = true := beq_iff_eq.mpr c170
             have c170b1 : (t213 != t211) = false := bne_eq_false_iff_eq.mpr c170
             clear c170
             replace H := Option.bind_eq_some_iff.mp H
             obtain ⟨⟨t214, t217⟩, A1710, H⟩ := H
             replace H : ((laws_toSketch.f kj107 l1_0 a1_1).bind fun bt218 => ((impl_JoinSketches.f kj107 t214 t217 bt218.1 bt218.2).bind fun bt222 => ((laws_eqSketch.f kj107 bt222.1 bt222.2.1 t173 t176).bind fun t228 => (if t228 = true then (laws_FnExactJoinSketches.j2 kj107 t211 (bt222.2.2 != t177) t212 t192) else (laws_FnExactJoinSketches.j2 kj107 t211 true t212 t192))))) = some r := H
             have A171 := Aside0.mk A1710
             clear A1710
             replace H := Option.bind_eq_some_iff.mp H
             obtain ⟨⟨t218, t221⟩, A1720, H⟩ := H
             replace H : ((impl_JoinSketches.f kj107 t214 t217 t218 t221).bind fun bt222 => ((laws_eqSketch.f kj107 bt222.1 bt222.2.1 t173 t176).bind fun t228 => (if t228 = true then (laws_FnExactJoinSketches.j2 kj107 t211 (bt222.2.2 != t177) t212 t192) else (laws_FnExactJoinSketches.j2 kj107 t211 true t212 t192)))) = some r := H
             have A172 := Aside0.mk A1720
             clear A1720
             replace H := Option.bind_eq_some_iff.mp H
             obtain ⟨⟨t222, t225, t226⟩, A1730, H⟩ := H
             replace H : ((laws_eqSketch.f kj107 t222 t225 t173 t176).bind fun t228 => (if t228 = true then (laws_FnExactJoinSketches.j2 kj107 t211 (t226 != t177) t212 t192) else (laws_FnExactJoinSketches.j2 kj107 t211 true t212 t192))) = some r := H
             have A173 := Aside0.mk A1730
             clear A1730
             have HC174 := Aside0.mk H
             clear H
             have hnb175 := NB194_161.out
             have hnc175 := NB161_194.out
             have hnb176 := NB194_162.out
             have hnc176 := NB162_194.out
             have hnb177 := NB194_178.out
             have hnc177 := NB178_194.out
             have hnb178 := NB194_183.out
             have hnc178 := NB183_194.out
             have hnb179 := NB194_188.out
             have hnc179 := NB188_194.out
             have hcz180_0 : wc.cell? ⟨gb194, 0, none⟩ = some (.slice Ao66 t189.length co66) := xk_ BK194 0
             have hcz180_1 : wc.cell? ⟨gb194, 1, none⟩ = some (.int .i64 t192) := xk_ BK194 1
             have hfz180_0 := blk_frozen BK194.out 0
             have hfz180_1 := blk_frozen BK194.out 1
             try go_wp2_with (first | ((with_reducible refine gate_callee (f := 14) rfl ?_); refine xgl_ (some 85) Try.func14 #[.agg #[.slice Ao66 t189.length co66, .int .i64 t192], .int .i64 1] ?_; (with_reducible refine (laws_markSketch.calls kj107 (fun k_ => some k_ = (.slice Ao66 t189.length co66 : Value).ownBlock) (.slice Ao66 t189.length co66) t189 t192 1 t211 t212 w _ ?side1 ?side2 A158.out).mono ?_); (case side1 => repeat (first | (with_reducible first | exact HB.out | apply below_alloc | apply pw_below_drewN | apply below_drew1 | refine below_set ?_ GE161.out | refine below_set ?_ GE162.out | refine below_set ?_ GE178.out | refine below_set ?_ GE183.out | refine below_set ?_ GE188.out | refine below_set ?_ GE194.out) | exact HB.out)); (case side2 => exact Kd.R_tight rfl HO_195000.out); rintro e w181 ⟨rfl, hy0, hb, hkp⟩; refine ⟨_, rfl, ?_⟩; replace HO_179000 := Aside0.mk (Kd.R_mono (ok' := fun k_ => some k_ ≠ (.slice Ao48 t207.length co48 : Value).ownBlock ∧ some k_ ≠ (.slice Ao57 t209.length co57 : Value).ownBlock ∧ some k_ ≠ (.slice Ao66 t189.length co66 : Value).ownBlock) (Kd.R_keptB (HO_179000.out) hkp (fun k_ hk_ hs_ => (hk_.2.2) hs_)) (fun k_ hk_ => ⟨hk_.1.1, hk_.1.2.1, hk_.1.2.2⟩)); replace HO_184000 := Aside0.mk (Kd.R_mono (ok' := fun k_ => some k_ ≠ (.slice Ao41 t173.length co41 : Value).ownBlock ∧ some k_ ≠ (.slice Ao57 t209.length co57 : Value).ownBlock ∧ some k_ ≠ (.slice Ao66 t189.length co66 : Value).ownBlock) (Kd.R_keptB (HO_184000.out) hkp (fun k_ hk_ hs_ => (hk_.2.2) hs_)) (fun k_ hk_ => ⟨hk_.1.1, hk_.1.2.1, hk_.1.2.2⟩)); replace HO_189000 := Aside0.mk (Kd.R_mono (ok' := fun k_ => some k_ ≠ (.slice Ao41 t173.length co41 : Value).ownBlock ∧ some k_ ≠ (.slice Ao48 t207.length co48 : Value).ownBlock ∧ some k_ ≠ (.slice Ao66 t189.length co66 : Value).ownBlock) (Kd.R_keptB (HO_189000.out) hkp (fun k_ hk_ hs_ => (hk_.2.2) hs_)) (fun k_ hk_ => ⟨hk_.1.1, hk_.1.2.1, hk_.1.2.2⟩)); replace BK161 := Aside0.mk (blk_kept (xb_ BK161) hkp (fun hs_ => (fun e_ => (Kd.R_ne HO_195000.out BK161.out (by decide)) e_) hs_)); replace BK162 := Aside0.mk (blk_kept (xb_ BK162) hkp (fun hs_ => (fun e_ => (Kd.R_ne HO_195000.out BK162.out (by decide)) e_) hs_)); replace BK178 := Aside0.mk (blk_kept (xb_ BK178) hkp (fun hs_ => (fun e_ => (Kd.R_ne HO_195000.out BK178.out (by decide)) e_) hs_)); replace BK183 := Aside0.mk (blk_kept (xb_ BK183) hkp (fun hs_ => (fun e_ => (Kd.R_ne HO_195000.out BK183.out (by decide)) e_) hs_)); replace BK188 := Aside0.mk (blk_kept (xb_ BK188) hkp (fun hs_ => (fun e_ => (Kd.R_ne HO_195000.out BK188.out (by decide)) e_) hs_)); replace BK194 := Aside0.mk (blk_kept (xb_ BK194) hkp (fun hs_ => (fun e_ => (Kd.R_ne HO_195000.out BK194.out (by decide)) e_) hs_)); replace HO_195000 := Aside0.mk (Kd.R_reok rfl hy0 (fun k_ e_ => HO_195000.out.1 k_ e_)); replace HB := Aside0.mk (hb); (try clear hb); (try clear hkp); (try clear hy0); have hcz182_0 : w181.cell? ⟨gb194, 0, none⟩ = some (.slice Ao66 t189.length co66) := xk_ BK194 0; have hcz182_1 : w181.cell? ⟨gb194, 1, none⟩ = some (.int .i64 t192) := xk_ BK194 1; have hfz182_0 := blk_frozen BK194.out 0; have hfz182_1 := blk_frozen BK194.out 1) | ((with_reducible refine gate_callee (f := 15) rfl ?_); refine goesL_ (some 88) rfl rfl Try.func15 (by kernel_rfl) rfl #[.agg #[.slice Ao66 t212.length co66, .int .i64 t192], .int .i64 1] rfl (by (try simp only [List.map_toArray, List.map_cons, List.map_nil]); first | done | (rw [show t212.length = t189.length from (Kd.R_reads' HO_195000.out).1.symm] <;> rfl) | rfl | (simp only [List.length_drop, List.length_take]; rfl)) ?_; (with_reducible refine (laws_heldSketch.calls kj107 _ _ t212 t192 1 t213 _ ?side1 ?side2 A159.out).mono ?_); (case side1 => exact xc_ ((Kd.R_reads' HO_195000.out).2.2)); (case side2 => rw [show t212.length = t189.length from (Kd.R_reads' HO_195000.out).1.symm]; exact (Kd.R_reads' HO_195000.out).2.1); rintro e w183 ⟨rfl, hb⟩; refine ⟨_, rfl, ?_⟩; replace HO_179000 := xrb_ HO_179000 hb; replace HO_184000 := xrb_ HO_184000 hb; replace HO_189000 := xrb_ HO_189000 hb; replace HO_195000 := xrb_ HO_195000 hb; replace BK161 := xbb_ BK161 hb; replace BK162 := xbb_ BK162 hb; replace BK178 := xbb_ BK178 hb; replace BK183 := xbb_ BK183 hb; replace BK188 := xbb_ BK188 hb; replace BK194 := xbb_ BK194 hb; replace HB := xws_ HB hb; (try clear hb); (try clear hb2); (try clear hk); (try clear hi)))
             replace HO_179000 := Aside0.mk (Kd.R_drew HO_179000.out)
             replace HO_184000 := Aside0.mk (Kd.R_drew HO_184000.out)
             replace HO_189000 := Aside0.mk (Kd.R_drew HO_189000.out)
             replace HO_195000 := Aside0.mk (Kd.R_drew HO_195000.out)
             replace BK161 := Aside0.mk (blk_drew BK161.out)
             replace BK162 := Aside0.mk (blk_drew BK162.out)
             replace BK178 := Aside0.mk (blk_drew BK178.out)
             replace BK183 := Aside0.mk (blk_drew BK183.out)
             replace BK188 := Aside0.mk (blk_drew BK188.out)
             replace BK194 := Aside0.mk (blk_drew BK194.out)
             replace HB := Aside0.mk (below_drew1 HB.out)
             refine start_ (n := 11) (S := fun w' => w'.cell? ⟨gb161, 0, none⟩ = some (.slice A0_0 l0_0.length c0_0) ∧ w'.cell? ⟨gb161, 1, none⟩ = some (.int .i64 a0_1) ∧ w'.cell? ⟨gb162, 0, none⟩ = some (.slice A1_0 l1_0.length c1_0) ∧ w'.cell? ⟨gb162, 1, none⟩ = some (.int .i64 a1_1)) (ds := []) #[false, false, false, false, false, false, false, false, false, false, false] (by kernel_rfl) rfl rfl ⟨xk_ BK161 0, xk_ BK161 1, xk_ BK162 0, xk_ BK162 1⟩ (fun hHeld => ?_); refine with_tabW laws_FnExactJoinSketches.tab31 laws_FnExactJoinSketches.bits31 (fun HT_ HW_ => ?_)
             generalize w183.drew = w184 at HO_179000 HO_184000 HO_189000 HO_195000 BK161 BK162 BK178 BK183 BK188 BK194 HB hHeld ⊢
             refine take_ (i := 0) (N := some 95) (v := ?_) (a' := ?_) #[true, false, false, false, false, false, false, false, false, false, false] rfl rfl (take_ofW HT_.out HW_.out (by kernel_rfl)) (fun _ _ _ h => h) (Or.inl ⟨by rfl, ?_⟩) hHeld ?_ ?_
             rotate_left
             ·rintro w' ⟨s0, s1, s2, s3⟩
              go_simp
              with_reducible rfl
             rotate_left
             ·simp only [Act.put, List.setIfInBounds_toArray, List.set_cons_zero, List.set_cons_succ, i64_w, i32_w]
              rfl
             refine take_ (i := 2) (N := some 97) (v := ?_) (a' := ?_) #[true, false, true, false, false, false, false, false, false, false, false] rfl rfl (take_ofW HT_.out HW_.out (by kernel_rfl)) (fun _ _ _ h => h) (Or.inl ⟨by rfl, ?_⟩) hHeld ?_ ?_
             rotate_left
             ·rintro w' ⟨s0, s1, s2, s3⟩
              go_simp
              with_reducible rfl
             rotate_left
             ·simp only [Act.put, List.setIfInBounds_toArray, List.set_cons_zero, List.set_cons_succ, i64_w, i32_w]
              rfl
             refine join_ (σ := Value × Value × Value × Nat) 2 #[true, true, true, true, true, true, true, true, true, false, false] (fun s_ => [(96, .agg #[s_.1, .int .i64 t217]), (98, .agg #[s_.2.1, .int .i64 t221]), (99, .tuple #[.agg #[s_.2.2.1, .int .i64 t225], .bool t226]), (15, .pointer (some ⟨s_.2.2.2, 0, none⟩)), (94, .tuple #[.agg #[s_.2.2.1, .int .i64 t225], .bool t226]), (100, .agg #[s_.2.2.1, .int .i64 t225]), (101, .bool t226)]) (fun s_ w' => (w'.cell? ⟨gb161, 0, none⟩ = some (.slice A0_0 l0_0.length c0_0) ∧ w'.cell? ⟨gb161, 1, none⟩ = some (.int .i64 a0_1) ∧ w'.cell? ⟨gb162, 0, none⟩ = some (.slice A1_0 l1_0.length c1_0) ∧ w'.cell? ⟨gb162, 1, none⟩ = some (.int .i64 a1_1)) ∧ (Kd.R (Kd.int .i64) 3 w' w.heap.size (fun k_ => some k_ ≠ (s_.2.1 : Value).ownBlock ∧ some k_ ≠ (s_.2.2.1 : Value).ownBlock ∧ some k_ ≠ (.slice Ao41 t173.length co41 : Value).ownBlock ∧ some k_ ≠ (.slice Ao48 t207.length co48 : Value).ownBlock ∧ some k_ ≠ (.slice Ao57 t209.length co57 : Value).ownBlock ∧ some k_ ≠ (.slice Ao66 t189.length co66 : Value).ownBlock) s_.1 t214) ∧ (Kd.R (Kd.int .i64) 3 w' w.heap.size (fun k_ => some k_ ≠ (s_.1 : Value).ownBlock ∧ some k_ ≠ (s_.2.2.1 : Value).ownBlock ∧ some k_ ≠ (.slice Ao41 t173.length co41 : Value).ownBlock ∧ some k_ ≠ (.slice Ao48 t207.length co48 : Value).ownBlock ∧ some k_ ≠ (.slice Ao57 t209.length co57 : Value).ownBlock ∧ some k_ ≠ (.slice Ao66 t189.length co66 : Value).ownBlock) s_.2.1 t218) ∧ (Kd.R (Kd.int .i64) 3 w' w.heap.size (fun k_ => some k_ ≠ (s_.1 : Value).ownBlock ∧ some k_ ≠ (s_.2.1 : Value).ownBlock ∧ some k_ ≠ (.slice Ao41 t173.length co41 : Value).ownBlock ∧ some k_ ≠ (.slice Ao48 t207.length co48 : Value).ownBlock ∧ some k_ ≠ (.slice Ao57 t209.length co57 : Value).ownBlock ∧ some k_ ≠ (.slice Ao66 t189.length co66 : Value).ownBlock) s_.2.2.1 t222) ∧ (Kd.R (Kd.int .i64) 3 w' w.heap.size (fun k_ => some k_ ≠ (s_.1 : Value).ownBlock ∧ some k_ ≠ (s_.2.1 : Value).ownBlock ∧ some k_ ≠ (s_.2.2.1 : Value).ownBlock ∧ some k_ ≠ (.slice Ao48 t207.length co48 : Value).ownBlock ∧ some k_ ≠ (.slice Ao57 t209.length co57 : Value).ownBlock ∧ some k_ ≠ (.slice Ao66 t189.length co66 : Value).ownBlock) (.slice Ao41 t173.length co41) t173) ∧ (Kd.R (Kd.int .i64) 3 w' w.heap.size (fun k_ => some k_ ≠ (s_.1 : Value).ownBlock ∧ some k_ ≠ (s_.2.1 : Value).ownBlock ∧ some k_ ≠ (s_.2.2.1 : Value).ownBlock ∧ some k_ ≠ (.slice Ao41 t173.length co41 : Value).ownBlock ∧ some k_ ≠ (.slice Ao57 t209.length co57 : Value).ownBlock ∧ some k_ ≠ (.slice Ao66 t189.length co66 : Value).ownBlock) (.slice Ao48 t207.length co48) t207) ∧ (Kd.R (Kd.int .i64) 3 w' w.heap.size (fun k_ => some k_ ≠ (s_.1 : Value).ownBlock ∧ some k_ ≠ (s_.2.1 : Value).ownBlock ∧ some k_ ≠ (s_.2.2.1 : Value).ownBlock ∧ some k_ ≠ (.slice Ao41 t173.length co41 : Value).ownBlock ∧ some k_ ≠ (.slice Ao48 t207.length co48 : Value).ownBlock ∧ some k_ ≠ (.slice Ao66 t189.length co66 : Value).ownBlock) (.slice Ao57 t209.length co57) t209) ∧ (Kd.R (Kd.int .i64) 3 w' w.heap.size (fun k_ => some k_ ≠ (s_.1 : Value).ownBlock ∧ some k_ ≠ (s_.2.1 : Value).ownBlock ∧ some k_ ≠ (s_.2.2.1 : Value).ownBlock ∧ some k_ ≠ (.slice Ao41 t173.length co41 : Value).ownBlock ∧ some k_ ≠ (.slice Ao48 t207.length co48 : Value).ownBlock ∧ some k_ ≠ (.slice Ao57 t209.length co57 : Value).ownBlock) (.slice Ao66 t189.length co66) t212) ∧ (w'.heap[gb161]? = some (.cells #[.slice A0_0 l0_0.length c0_0, .int .i64 a0_1] 34 (0, 0))) ∧ (w'.heap[gb162]? = some (.cells #[.slice A1_0 l1_0.length c1_0, .int .i64 a1_1] 34 (0, 0))) ∧ (w'.heap[gb178]? = some (.cells #[.slice Ao41 t173.length co41, .int .i64 t176] 24 (0, 0))) ∧ (w'.heap[gb183]? = some (.cells #[.slice Ao48 t207.length co48, .int .i64 t182] 24 (0, 0))) ∧ (w'.heap[gb188]? = some (.cells #[.slice Ao57 t209.length co57, .int .i64 t187] 24 (0, 0))) ∧ (w'.heap[gb194]? = some (.cells #[.slice Ao66 t189.length co66, .int .i64 t192] 24 (0, 0))) ∧ (w'.heap[s_.2.2.2]? = some (.cells #[.slice none 0 0, .int .i64 0] 24 (0, 0))) ∧ (w.heap.size ≤ s_.2.2.2) ∧ (w.heap.size ≤ s_.2.2.2) ∧ (gb161 ≠ s_.2.2.2) ∧ (s_.2.2.2 ≠ gb161) ∧ (gb162 ≠ s_.2.2.2) ∧ (s_.2.2.2 ≠ gb162) ∧ (gb178 ≠ s_.2.2.2) ∧ (s_.2.2.2 ≠ gb178) ∧ (gb183 ≠ s_.2.2.2) ∧ (s_.2.2.2 ≠ gb183) ∧ (gb188 ≠ s_.2.2.2) ∧ (s_.2.2.2 ≠ gb188) ∧ (gb194 ≠ s_.2.2.2) ∧ (s_.2.2.2 ≠ gb194) ∧ (Below w.heap.size w w')) ?_ ?_
             rotate_left
             ·intro hCont
              refine two_ (i := 1) (j := 8) (Ni := some 96) (Nj := some 15) #[true, true, true, false, false, false, false, false, false, false, false] #[true, false, true, false, false, false, false, false, true, false, false] rfl rfl rfl rfl (two_of HT_.out (by kernel_rfl)) (by decide) (by decide) (fun K hK => ?_) (fun K hK => ?_)
              ·skip
               refine xgo_ Try.func23 #[.agg #[.slice A0_0 l0_0.length c0_0, .int .i64 a0_1]] ?_
               with_reducible refine (laws_toSketch.calls kj107 _ _ l0_0 a0_1 t214 t217 _ ?side1 ?side2 A171.out).mono ?_
               (case side1 => exact xc_ ((Kd.C_below HR0_0.out HB.out)))
               (case side2 => exact HC0_0.out)
               rintro e w185 ⟨v215, rfl, ho0, hb⟩
               refine ⟨_, rfl, ?_⟩
               have HO216 := Aside0.mk (Kd.R_lower (Kd.R_new' (Kd.R_new' (Kd.R_new' (Kd.R_new' ho0 (Kd.R_lt (xr_ HO_179000))) (Kd.R_lt (xr_ HO_184000))) (Kd.R_lt (xr_ HO_189000))) (Kd.R_lt (xr_ HO_195000))) (below_size (xw_ HB)))
               replace HO_179000 := xre_ HO_179000 ho0 hb
               replace HO_184000 := xre_ HO_184000 ho0 hb
               replace HO_189000 := xre_ HO_189000 ho0 hb
               replace HO_195000 := xre_ HO_195000 ho0 hb
               replace BK161 := xbb_ BK161 hb
               replace BK162 := xbb_ BK162 hb
               replace BK178 := xbb_ BK178 hb
               replace BK183 := xbb_ BK183 hb
               replace BK188 := xbb_ BK188 hb
               replace BK194 := xbb_ BK194 hb
               replace HB := xws_ HB hb
               (try clear hb)
               (try clear hb2)
               (try clear hk)
               (try clear hi)
               (try clear ho0)
               refine hK.out _ _ ⟨xk_ BK161 0, xk_ BK161 1, xk_ BK162 0, xk_ BK162 1⟩ (fun hHeld => ?_)
               clear hK K
               refine norm_ (a' := ?_) ?_ ?_
               rotate_left
               ·show Act.put _ (some 96) _ = _
                simp only [Act.put, List.setIfInBounds_toArray, List.set_cons_zero, List.set_cons_succ, i64_w, i32_w]
                rfl
               refine two_ (i := 3) (j := 8) (Ni := some 98) (Nj := some 15) #[true, true, true, true, false, false, false, false, false, false, false] #[true, true, true, false, false, false, false, false, true, false, false] rfl rfl rfl rfl (two_of HT_.out (by kernel_rfl)) (by decide) (by decide) (fun K hK => ?_) (fun K hK => ?_)
               ·skip
                refine xgo_ Try.func23 #[.agg #[.slice A1_0 l1_0.length c1_0, .int .i64 a1_1]] ?_
                with_reducible refine (laws_toSketch.calls kj107 _ _ l1_0 a1_1 t218 t221 _ ?side1 ?side2 A172.out).mono ?_
                (case side1 => exact xc_ ((Kd.C_below HR1_0.out HB.out)))
                (case side2 => exact HC1_0.out)
                rintro e w186 ⟨v219, rfl, ho0, hb⟩
                refine ⟨_, rfl, ?_⟩
                have HO220 := Aside0.mk (Kd.R_lower (Kd.R_new' (Kd.R_new' (Kd.R_new' (Kd.R_new' (Kd.R_new' ho0 (Kd.R_lt (xr_ HO_179000))) (Kd.R_lt (xr_ HO_184000))) (Kd.R_lt (xr_ HO_189000))) (Kd.R_lt (xr_ HO_195000))) (Kd.R_lt (xr_ HO216))) (below_size (xw_ HB)))
                replace HO_179000 := xre_ HO_179000 ho0 hb
                replace HO_184000 := xre_ HO_184000 ho0 hb
                replace HO_189000 := xre_ HO_189000 ho0 hb
                replace HO_195000 := xre_ HO_195000 ho0 hb
                replace HO216 := xre_ HO216 ho0 hb
                replace BK161 := xbb_ BK161 hb
                replace BK162 := xbb_ BK162 hb
                replace BK178 := xbb_ BK178 hb
                replace BK183 := xbb_ BK183 hb
                replace BK188 := xbb_ BK188 hb
                replace BK194 := xbb_ BK194 hb
                replace HB := xws_ HB hb
                (try clear hb)
                (try clear hb2)
                (try clear hk)
                (try clear hi)
                (try clear ho0)
                obtain ⟨Ao187, co187, eo187⟩ := Kd.R_slice HO216.out
                (first | subst eo187 | (injection eo187 with f1_ f2_ f3_; have f4_ := f1_.symm; have f5_ := f3_.symm; clear f1_ f2_ f3_; subst f4_; subst f5_))
                obtain ⟨Ao188, co188, eo188⟩ := Kd.R_slice HO220.out
                (first | subst eo188 | (injection eo188 with f1_ f2_ f3_; have f4_ := f1_.symm; have f5_ := f3_.symm; clear f1_ f2_ f3_; subst f4_; subst f5_))
                refine hK.out _ _ ⟨xk_ BK161 0, xk_ BK161 1, xk_ BK162 0, xk_ BK162 1⟩ (fun hHeld => ?_)
                clear hK K
                refine norm_ (a' := ?_) ?_ ?_
                rotate_left
                ·show Act.put _ (some 98) _ = _
                 simp only [Act.put, List.setIfInBounds_toArray, List.set_cons_zero, List.set_cons_succ, i64_w, i32_w]
                 rfl
                refine two_ (i := 4) (j := 8) (Ni := some 99) (Nj := some 15) #[true, true, true, true, true, false, false, false, false, false, false] #[true, true, true, true, false, false, false, false, true, false, false] rfl rfl rfl rfl (two_of HT_.out (by kernel_rfl)) (by decide) (by decide) (fun K hK => ?_) (fun K hK => ?_)
                ·skip
                 refine xgo_ Try.func30 #[.agg #[.slice Ao187 t214.length co187, .int .i64 t217], .agg #[.slice Ao188 t218.length co188, .int .i64 t221]] ?_
                 with_reducible refine (impl_JoinSketches.calls kj107 _ _ t214 t217 _ _ t218 t221 t222 t225 t226 _ ?side1 ?side2 ?side3 ?side4 A173.out).mono ?_
                 (case side1 => exact xc_ ((Kd.R_reads' HO216.out).2.2))
                 (case side2 => exact (Kd.R_reads' HO216.out).2.1)
                 (case side3 => exact xc_ ((Kd.R_reads' HO220.out).2.2))
                 (case side4 => exact (Kd.R_reads' HO220.out).2.1)
                 rintro e w189 ⟨v223, rfl, ho0, hb⟩
                 refine ⟨_, rfl, ?_⟩
                 have HO224 := Aside0.mk (Kd.R_lower (Kd.R_new' (Kd.R_new' (Kd.R_new' (Kd.R_new' (Kd.R_new' (Kd.R_new' ho0 (Kd.R_lt (xr_ HO_179000))) (Kd.R_lt (xr_ HO_184000))) (Kd.R_lt (xr_ HO_189000))) (Kd.R_lt (xr_ HO_195000))) (Kd.R_lt (xr_ HO216))) (Kd.R_lt (xr_ HO220))) (below_size (xw_ HB)))
                 replace HO_179000 := xre_ HO_179000 ho0 hb
                 replace HO_184000 := xre_ HO_184000 ho0 hb
                 replace HO_189000 := xre_ HO_189000 ho0 hb
                 replace HO_195000 := xre_ HO_195000 ho0 hb
                 replace HO216 := xre_ HO216 ho0 hb
                 replace HO220 := xre_ HO220 ho0 hb
                 replace BK161 := xbb_ BK161 hb
                 replace BK162 := xbb_ BK162 hb
                 replace BK178 := xbb_ BK178 hb
                 replace BK183 := xbb_ BK183 hb
                 replace BK188 := xbb_ BK188 hb
                 replace BK194 := xbb_ BK194 hb
                 replace HB := xws_ HB hb
                 (try clear hb)
                 (try clear hb2)
                 (try clear hk)
                 (try clear hi)
                 (try clear ho0)
                 refine hK.out _ _ ⟨xk_ BK161 0, xk_ BK161 1, xk_ BK162 0, xk_ BK162 1⟩ (fun hHeld => ?_)
                 clear hK K
                 refine norm_ (a' := ?_) ?_ ?_
                 rotate_left
                 ·show Act.put _ (some 99) _ = _
                  simp only [Act.put, List.setIfInBounds_toArray, List.set_cons_zero, List.set_cons_succ, i64_w, i32_w]
                  rfl
                 refine pure_ (i := 5) (N := some 94) (v := ?_) (a' := ?_) #[true, true, true, true, true, true, false, false, false, false, false] rfl rfl (any_of HT_.out (by kernel_rfl)) (fun _ _ _ h => h) (Or.inl ⟨by rfl, ?_⟩) ?_ ?_
                 rotate_left
                 ·intro w'
                  go_simp
                  with_reducible rfl
                 rotate_left
                 ·simp only [Act.put, List.setIfInBounds_toArray, List.set_cons_zero, List.set_cons_succ, i64_w, i32_w]
                  rfl
                 refine pure_ (i := 6) (N := some 100) (v := ?_) (a' := ?_) #[true, true, true, true, true, true, true, false, false, false, false] rfl rfl (any_of HT_.out (by kernel_rfl)) (fun _ _ _ h => h) (Or.inl ⟨by rfl, ?_⟩) ?_ ?_
                 rotate_left
                 ·intro w'
                  go_simp
                  with_reducible rfl
                 rotate_left
                 ·simp only [Act.put, List.setIfInBounds_toArray, List.set_cons_zero, List.set_cons_succ, i64_w, i32_w]
                  rfl
                 refine pure_ (i := 7) (N := some 101) (v := ?_) (a' := ?_) #[true, true, true, true, true, true, true, true, false, false, false] rfl rfl (any_of HT_.out (by kernel_rfl)) (fun _ _ _ h => h) (Or.inl ⟨by rfl, ?_⟩) ?_ ?_
                 rotate_left
                 ·intro w'
                  go_simp
                  with_reducible rfl
                 rotate_left
                 ·simp only [Act.put, List.setIfInBounds_toArray, List.set_cons_zero, List.set_cons_succ, i64_w, i32_w]
                  rfl
                 refine one_ (i := 8) (N := some 15) #[true, true, true, true, true, true, true, true, true, false, false] rfl rfl (one_of HT_.out (by kernel_rfl)) (by decide) (fun K hK => ?_)
                 refine box_step ?hg (N := 15) ?hd (cs := #[.slice none 0 0, .int .i64 0]) (t := 24) ?hr ?_; (case hd => rfl); (case hg => rfl); (case hr => first | (go_simp; done) | (go_simp; rfl))
                 intro gb227 hg w190 hbox hb
                 replace HO_179000 := xrb_ HO_179000 hb
                 replace HO_184000 := xrb_ HO_184000 hb
                 replace HO_189000 := xrb_ HO_189000 hb
                 replace HO_195000 := xrb_ HO_195000 hb
                 replace HO216 := xrb_ HO216 hb
                 replace HO220 := xrb_ HO220 hb
                 replace HO224 := xrb_ HO224 hb
                 have BK227 := Aside0.mk (hbox)
                 have GW227 := xge_ HB hg
                 have GE227 := xge_ HB hg
                 replace HB := xws_ HB hb
                 have NB161_227 := xlt_ BK161 hg
                 have NB227_161 := xgt_ BK161 hg
                 replace BK161 := xbb_ BK161 hb
                 have NB162_227 := xlt_ BK162 hg
                 have NB227_162 := xgt_ BK162 hg
                 replace BK162 := xbb_ BK162 hb
                 have NB178_227 := xlt_ BK178 hg
                 have NB227_178 := xgt_ BK178 hg
                 replace BK178 := xbb_ BK178 hb
                 have NB183_227 := xlt_ BK183 hg
                 have NB227_183 := xgt_ BK183 hg
                 replace BK183 := xbb_ BK183 hb
                 have NB188_227 := xlt_ BK188 hg
                 have NB227_188 := xgt_ BK188 hg
                 replace BK188 := xbb_ BK188 hb
                 have NB194_227 := xlt_ BK194 hg
                 have NB227_194 := xgt_ BK194 hg
                 replace BK194 := xbb_ BK194 hb
                 clear hb hbox hg
                 refine hK.out _ _ ⟨xk_ BK161 0, xk_ BK161 1, xk_ BK162 0, xk_ BK162 1⟩ (fun hHeld => ?_)
                 clear hK K
                 refine norm_ (a' := ?_) ?_ ?_
                 rotate_left
                 ·show Act.put _ (some 15) _ = _
                  simp only [Act.put, List.setIfInBounds_toArray, List.set_cons_zero, List.set_cons_succ, i64_w, i32_w]
                  rfl
                 exact norm_ (by simp only [putAll, Act.put, List.setIfInBounds_toArray, List.set_cons_zero, List.set_cons_succ]) (hCont (.slice Ao187 t214.length co187, .slice Ao188 t218.length co188, v223, gb227) _ ⟨hHeld, (xrt_ (Kd.R_mono HO216.out (fun _ hk => ⟨hk.1.2, ⟨hk.2, ⟨hk.1.1.1.1.1.2, ⟨hk.1.1.1.1.2, ⟨hk.1.1.1.2, hk.1.1.2⟩⟩⟩⟩⟩))), (xrt_ (Kd.R_mono HO220.out (fun _ hk => ⟨hk.1.2, ⟨hk.2, ⟨hk.1.1.1.1.1.2, ⟨hk.1.1.1.1.2, ⟨hk.1.1.1.2, hk.1.1.2⟩⟩⟩⟩⟩))), (xrt_ (Kd.R_mono HO224.out (fun _ hk => ⟨hk.1.2, ⟨hk.2, ⟨hk.1.1.1.1.1.2, ⟨hk.1.1.1.1.2, ⟨hk.1.1.1.2, hk.1.1.2⟩⟩⟩⟩⟩))), (xrt_ (Kd.R_mono HO_179000.out (fun _ hk => ⟨hk.1.1.2, ⟨hk.1.2, ⟨hk.2, ⟨hk.1.1.1.1, ⟨hk.1.1.1.2.1, hk.1.1.1.2.2⟩⟩⟩⟩⟩))), (xrt_ (Kd.R_mono HO_184000.out (fun _ hk => ⟨hk.1.1.2, ⟨hk.1.2, ⟨hk.2, ⟨hk.1.1.1.1, ⟨hk.1.1.1.2.1, hk.1.1.1.2.2⟩⟩⟩⟩⟩))), (xrt_ (Kd.R_mono HO_189000.out (fun _ hk => ⟨hk.1.1.2, ⟨hk.1.2, ⟨hk.2, ⟨hk.1.1.1.1, ⟨hk.1.1.1.2.1, hk.1.1.1.2.2⟩⟩⟩⟩⟩))), (xrt_ (Kd.R_mono HO_195000.out (fun _ hk => ⟨hk.1.1.2, ⟨hk.1.2, ⟨hk.2, ⟨hk.1.1.1.1, ⟨hk.1.1.1.2.1, hk.1.1.1.2.2⟩⟩⟩⟩⟩))), xb_ BK161, xb_ BK162, xb_ BK178, xb_ BK183, xb_ BK188, xb_ BK194, xb_ BK227, GW227.out, GE227.out, NB161_227.out, NB227_161.out, NB162_227.out, NB227_162.out, NB178_227.out, NB227_178.out, NB183_227.out, NB227_183.out, NB188_227.out, NB227_188.out, NB194_227.out, NB227_194.out, xw_ HB⟩)
                ·skip
                 refine box_step ?hg (N := 15) ?hd (cs := #[.slice none 0 0, .int .i64 0]) (t := 24) ?hr ?_; (case hd => rfl); (case hg => rfl); (case hr => first | (go_simp; done) | (go_simp; rfl))
                 intro gb227 hg w187 hbox hb
                 replace HO_179000 := xrb_ HO_179000 hb
                 replace HO_184000 := xrb_ HO_184000 hb
                 replace HO_189000 := xrb_ HO_189000 hb
                 replace HO_195000 := xrb_ HO_195000 hb
                 replace HO216 := xrb_ HO216 hb
                 replace HO220 := xrb_ HO220 hb
                 have BK227 := Aside0.mk (hbox)
                 have GW227 := xge_ HB hg
                 have GE227 := xge_ HB hg
                 replace HB := xws_ HB hb
                 have NB161_227 := xlt_ BK161 hg
                 have NB227_161 := xgt_ BK161 hg
                 replace BK161 := xbb_ BK161 hb
                 have NB162_227 := xlt_ BK162 hg
                 have NB227_162 := xgt_ BK162 hg
                 replace BK162 := xbb_ BK162 hb
                 have NB178_227 := xlt_ BK178 hg
                 have NB227_178 := xgt_ BK178 hg
                 replace BK178 := xbb_ BK178 hb
                 have NB183_227 := xlt_ BK183 hg
                 have NB227_183 := xgt_ BK183 hg
                 replace BK183 := xbb_ BK183 hb
                 have NB188_227 := xlt_ BK188 hg
                 have NB227_188 := xgt_ BK188 hg
                 replace BK188 := xbb_ BK188 hb
                 have NB194_227 := xlt_ BK194 hg
                 have NB227_194 := xgt_ BK194 hg
                 replace BK194 := xbb_ BK194 hb
                 clear hb hbox hg
                 obtain ⟨Ao188, co188, eo188⟩ := Kd.R_slice HO216.out
                 (first | subst eo188 | (injection eo188 with f1_ f2_ f3_; have f4_ := f1_.symm; have f5_ := f3_.symm; clear f1_ f2_ f3_; subst f4_; subst f5_))
                 obtain ⟨Ao189, co189, eo189⟩ := Kd.R_slice HO220.out
                 (first | subst eo189 | (injection eo189 with f1_ f2_ f3_; have f4_ := f1_.symm; have f5_ := f3_.symm; clear f1_ f2_ f3_; subst f4_; subst f5_))
                 refine hK.out _ _ ⟨xk_ BK161 0, xk_ BK161 1, xk_ BK162 0, xk_ BK162 1⟩ (fun hHeld => ?_)
                 clear hK K
                 refine norm_ (a' := ?_) ?_ ?_
                 rotate_left
                 ·show Act.put _ (some 15) _ = _
                  simp only [Act.put, List.setIfInBounds_toArray, List.set_cons_zero, List.set_cons_succ, i64_w, i32_w]
                  rfl
                 refine one_ (i := 4) (N := some 99) #[true, true, true, true, true, false, false, false, true, false, false] rfl rfl (one_of HT_.out (by kernel_rfl)) (by decide) (fun K hK => ?_)
                 refine xgo_ Try.func30 #[.agg #[.slice Ao188 t214.length co188, .int .i64 t217], .agg #[.slice Ao189 t218.length co189, .int .i64 t221]] ?_
                 with_reducible refine (impl_JoinSketches.calls kj107 _ _ t214 t217 _ _ t218 t221 t222 t225 t226 _ ?side1 ?side2 ?side3 ?side4 A173.out).mono ?_
                 (case side1 => exact xc_ ((Kd.R_reads' HO216.out).2.2))
                 (case side2 => exact (Kd.R_reads' HO216.out).2.1)
                 (case side3 => exact xc_ ((Kd.R_reads' HO220.out).2.2))
                 (case side4 => exact (Kd.R_reads' HO220.out).2.1)
                 rintro e w190 ⟨v223, rfl, ho0, hb⟩
                 refine ⟨_, rfl, ?_⟩
                 have HO224 := Aside0.mk (Kd.R_lower (Kd.R_new' (Kd.R_new' (Kd.R_new' (Kd.R_new' (Kd.R_new' (Kd.R_new' ho0 (Kd.R_lt (xr_ HO_179000))) (Kd.R_lt (xr_ HO_184000))) (Kd.R_lt (xr_ HO_189000))) (Kd.R_lt (xr_ HO_195000))) (Kd.R_lt (xr_ HO216))) (Kd.R_lt (xr_ HO220))) (below_size (xw_ HB)))
                 replace HO_179000 := xre_ HO_179000 ho0 hb
                 replace HO_184000 := xre_ HO_184000 ho0 hb
                 replace HO_189000 := xre_ HO_189000 ho0 hb
                 replace HO_195000 := xre_ HO_195000 ho0 hb
                 replace HO216 := xre_ HO216 ho0 hb
                 replace HO220 := xre_ HO220 ho0 hb
                 replace BK161 := xbb_ BK161 hb
                 replace BK162 := xbb_ BK162 hb
                 replace BK178 := xbb_ BK178 hb
                 replace BK183 := xbb_ BK183 hb
                 replace BK188 := xbb_ BK188 hb
                 replace BK194 := xbb_ BK194 hb
                 replace BK227 := xbb_ BK227 hb
                 replace HB := xws_ HB hb
                 (try clear hb)
                 (try clear hb2)
                 (try clear hk)
                 (try clear hi)
                 (try clear ho0)
                 refine hK.out _ _ ⟨xk_ BK161 0, xk_ BK161 1, xk_ BK162 0, xk_ BK162 1⟩ (fun hHeld => ?_)
                 clear hK K
                 refine norm_ (a' := ?_) ?_ ?_
                 rotate_left
                 ·show Act.put _ (some 99) _ = _
                  simp only [Act.put, List.setIfInBounds_toArray, List.set_cons_zero, List.set_cons_succ, i64_w, i32_w]
                  rfl
                 refine pure_ (i := 5) (N := some 94) (v := ?_) (a' := ?_) #[true, true, true, true, true, true, false, false, true, false, false] rfl rfl (any_of HT_.out (by kernel_rfl)) (fun _ _ _ h => h) (Or.inl ⟨by rfl, ?_⟩) ?_ ?_
                 rotate_left
                 ·intro w'
                  go_simp
                  with_reducible rfl
                 rotate_left
                 ·simp only [Act.put, List.setIfInBounds_toArray, List.set_cons_zero, List.set_cons_succ, i64_w, i32_w]
                  rfl
                 refine pure_ (i := 6) (N := some 100) (v := ?_) (a' := ?_) #[true, true, true, true, true, true, true, false, true, false, false] rfl rfl (any_of HT_.out (by kernel_rfl)) (fun _ _ _ h => h) (Or.inl ⟨by rfl, ?_⟩) ?_ ?_
                 rotate_left
                 ·intro w'
                  go_simp
                  with_reducible rfl
                 rotate_left
                 ·simp only [Act.put, List.setIfInBounds_toArray, List.set_cons_zero, List.set_cons_succ, i64_w, i32_w]
                  rfl
                 refine pure_ (i := 7) (N := some 101) (v := ?_) (a' := ?_) #[true, true, true, true, true, true, true, true, true, false, false] rfl rfl (any_of HT_.out (by kernel_rfl)) (fun _ _ _ h => h) (Or.inl ⟨by rfl, ?_⟩) ?_ ?_
                 rotate_left
                 ·intro w'
                  go_simp
                  with_reducible rfl
                 rotate_left
                 ·simp only [Act.put, List.setIfInBounds_toArray, List.set_cons_zero, List.set_cons_succ, i64_w, i32_w]
                  rfl
                 exact norm_ (by simp only [putAll, Act.put, List.setIfInBounds_toArray, List.set_cons_zero, List.set_cons_succ]) (hCont (.slice Ao188 t214.length co188, .slice Ao189 t218.length co189, v223, gb227) _ ⟨hHeld, (xrt_ (Kd.R_mono HO216.out (fun _ hk => ⟨hk.1.2, ⟨hk.2, ⟨hk.1.1.1.1.1.2, ⟨hk.1.1.1.1.2, ⟨hk.1.1.1.2, hk.1.1.2⟩⟩⟩⟩⟩))), (xrt_ (Kd.R_mono HO220.out (fun _ hk => ⟨hk.1.2, ⟨hk.2, ⟨hk.1.1.1.1.1.2, ⟨hk.1.1.1.1.2, ⟨hk.1.1.1.2, hk.1.1.2⟩⟩⟩⟩⟩))), (xrt_ (Kd.R_mono HO224.out (fun _ hk => ⟨hk.1.2, ⟨hk.2, ⟨hk.1.1.1.1.1.2, ⟨hk.1.1.1.1.2, ⟨hk.1.1.1.2, hk.1.1.2⟩⟩⟩⟩⟩))), (xrt_ (Kd.R_mono HO_179000.out (fun _ hk => ⟨hk.1.1.2, ⟨hk.1.2, ⟨hk.2, ⟨hk.1.1.1.1, ⟨hk.1.1.1.2.1, hk.1.1.1.2.2⟩⟩⟩⟩⟩))), (xrt_ (Kd.R_mono HO_184000.out (fun _ hk => ⟨hk.1.1.2, ⟨hk.1.2, ⟨hk.2, ⟨hk.1.1.1.1, ⟨hk.1.1.1.2.1, hk.1.1.1.2.2⟩⟩⟩⟩⟩))), (xrt_ (Kd.R_mono HO_189000.out (fun _ hk => ⟨hk.1.1.2, ⟨hk.1.2, ⟨hk.2, ⟨hk.1.1.1.1, ⟨hk.1.1.1.2.1, hk.1.1.1.2.2⟩⟩⟩⟩⟩))), (xrt_ (Kd.R_mono HO_195000.out (fun _ hk => ⟨hk.1.1.2, ⟨hk.1.2, ⟨hk.2, ⟨hk.1.1.1.1, ⟨hk.1.1.1.2.1, hk.1.1.1.2.2⟩⟩⟩⟩⟩))), xb_ BK161, xb_ BK162, xb_ BK178, xb_ BK183, xb_ BK188, xb_ BK194, xb_ BK227, GW227.out, GE227.out, NB161_227.out, NB227_161.out, NB162_227.out, NB227_162.out, NB178_227.out, NB227_178.out, NB183_227.out, NB227_183.out, NB188_227.out, NB227_188.out, NB194_227.out, NB227_194.out, xw_ HB⟩)
               ·skip
                refine box_step ?hg (N := 15) ?hd (cs := #[.slice none 0 0, .int .i64 0]) (t := 24) ?hr ?_; (case hd => rfl); (case hg => rfl); (case hr => first | (go_simp; done) | (go_simp; rfl))
                intro gb227 hg w186 hbox hb
                replace HO_179000 := xrb_ HO_179000 hb
                replace HO_184000 := xrb_ HO_184000 hb
                replace HO_189000 := xrb_ HO_189000 hb
                replace HO_195000 := xrb_ HO_195000 hb
                replace HO216 := xrb_ HO216 hb
                have BK227 := Aside0.mk (hbox)
                have GW227 := xge_ HB hg
                have GE227 := xge_ HB hg
                replace HB := xws_ HB hb
                have NB161_227 := xlt_ BK161 hg
                have NB227_161 := xgt_ BK161 hg
                replace BK161 := xbb_ BK161 hb
                have NB162_227 := xlt_ BK162 hg
                have NB227_162 := xgt_ BK162 hg
                replace BK162 := xbb_ BK162 hb
                have NB178_227 := xlt_ BK178 hg
                have NB227_178 := xgt_ BK178 hg
                replace BK178 := xbb_ BK178 hb
                have NB183_227 := xlt_ BK183 hg
                have NB227_183 := xgt_ BK183 hg
                replace BK183 := xbb_ BK183 hb
                have NB188_227 := xlt_ BK188 hg
                have NB227_188 := xgt_ BK188 hg
                replace BK188 := xbb_ BK188 hb
                have NB194_227 := xlt_ BK194 hg
                have NB227_194 := xgt_ BK194 hg
                replace BK194 := xbb_ BK194 hb
                clear hb hbox hg
                refine hK.out _ _ ⟨xk_ BK161 0, xk_ BK161 1, xk_ BK162 0, xk_ BK162 1⟩ (fun hHeld => ?_)
                clear hK K
                refine norm_ (a' := ?_) ?_ ?_
                rotate_left
                ·show Act.put _ (some 15) _ = _
                 simp only [Act.put, List.setIfInBounds_toArray, List.set_cons_zero, List.set_cons_succ, i64_w, i32_w]
                 rfl
                refine one_ (i := 3) (N := some 98) #[true, true, true, true, false, false, false, false, true, false, false] rfl rfl (one_of HT_.out (by kernel_rfl)) (by decide) (fun K hK => ?_)
                refine xgo_ Try.func23 #[.agg #[.slice A1_0 l1_0.length c1_0, .int .i64 a1_1]] ?_
                with_reducible refine (laws_toSketch.calls kj107 _ _ l1_0 a1_1 t218 t221 _ ?side1 ?side2 A172.out).mono ?_
                (case side1 => exact xc_ ((Kd.C_below HR1_0.out HB.out)))
                (case side2 => exact HC1_0.out)
                rintro e w187 ⟨v219, rfl, ho0, hb⟩
                refine ⟨_, rfl, ?_⟩
                have HO220 := Aside0.mk (Kd.R_lower (Kd.R_new' (Kd.R_new' (Kd.R_new' (Kd.R_new' (Kd.R_new' ho0 (Kd.R_lt (xr_ HO_179000))) (Kd.R_lt (xr_ HO_184000))) (Kd.R_lt (xr_ HO_189000))) (Kd.R_lt (xr_ HO_195000))) (Kd.R_lt (xr_ HO216))) (below_size (xw_ HB)))
                replace HO_179000 := xre_ HO_179000 ho0 hb
                replace HO_184000 := xre_ HO_184000 ho0 hb
                replace HO_189000 := xre_ HO_189000 ho0 hb
                replace HO_195000 := xre_ HO_195000 ho0 hb
                replace HO216 := xre_ HO216 ho0 hb
                replace BK161 := xbb_ BK161 hb
                replace BK162 := xbb_ BK162 hb
                replace BK178 := xbb_ BK178 hb
                replace BK183 := xbb_ BK183 hb
                replace BK188 := xbb_ BK188 hb
                replace BK194 := xbb_ BK194 hb
                replace BK227 := xbb_ BK227 hb
                replace HB := xws_ HB hb
                (try clear hb)
                (try clear hb2)
                (try clear hk)
                (try clear hi)
                (try clear ho0)
                obtain ⟨Ao188, co188, eo188⟩ := Kd.R_slice HO216.out
                (first | subst eo188 | (injection eo188 with f1_ f2_ f3_; have f4_ := f1_.symm; have f5_ := f3_.symm; clear f1_ f2_ f3_; subst f4_; subst f5_))
                obtain ⟨Ao189, co189, eo189⟩ := Kd.R_slice HO220.out
                (first | subst eo189 | (injection eo189 with f1_ f2_ f3_; have f4_ := f1_.symm; have f5_ := f3_.symm; clear f1_ f2_ f3_; subst f4_; subst f5_))
                refine hK.out _ _ ⟨xk_ BK161 0, xk_ BK161 1, xk_ BK162 0, xk_ BK162 1⟩ (fun hHeld => ?_)
                clear hK K
                refine norm_ (a' := ?_) ?_ ?_
                rotate_left
                ·show Act.put _ (some 98) _ = _
                 simp only [Act.put, List.setIfInBounds_toArray, List.set_cons_zero, List.set_cons_succ, i64_w, i32_w]
                 rfl
                refine one_ (i := 4) (N := some 99) #[true, true, true, true, true, false, false, false, true, false, false] rfl rfl (one_of HT_.out (by kernel_rfl)) (by decide) (fun K hK => ?_)
                refine xgo_ Try.func30 #[.agg #[.slice Ao188 t214.length co188, .int .i64 t217], .agg #[.slice Ao189 t218.length co189, .int .i64 t221]] ?_
                with_reducible refine (impl_JoinSketches.calls kj107 _ _ t214 t217 _ _ t218 t221 t222 t225 t226 _ ?side1 ?side2 ?side3 ?side4 A173.out).mono ?_
                (case side1 => exact xc_ ((Kd.R_reads' HO216.out).2.2))
                (case side2 => exact (Kd.R_reads' HO216.out).2.1)
                (case side3 => exact xc_ ((Kd.R_reads' HO220.out).2.2))
                (case side4 => exact (Kd.R_reads' HO220.out).2.1)
                rintro e w190 ⟨v223, rfl, ho0, hb⟩
                refine ⟨_, rfl, ?_⟩
                have HO224 := Aside0.mk (Kd.R_lower (Kd.R_new' (Kd.R_new' (Kd.R_new' (Kd.R_new' (Kd.R_new' (Kd.R_new' ho0 (Kd.R_lt (xr_ HO_179000))) (Kd.R_lt (xr_ HO_184000))) (Kd.R_lt (xr_ HO_189000))) (Kd.R_lt (xr_ HO_195000))) (Kd.R_lt (xr_ HO216))) (Kd.R_lt (xr_ HO220))) (below_size (xw_ HB)))
                replace HO_179000 := xre_ HO_179000 ho0 hb
                replace HO_184000 := xre_ HO_184000 ho0 hb
                replace HO_189000 := xre_ HO_189000 ho0 hb
                replace HO_195000 := xre_ HO_195000 ho0 hb
                replace HO216 := xre_ HO216 ho0 hb
                replace HO220 := xre_ HO220 ho0 hb
                replace BK161 := xbb_ BK161 hb
                replace BK162 := xbb_ BK162 hb
                replace BK178 := xbb_ BK178 hb
                replace BK183 := xbb_ BK183 hb
                replace BK188 := xbb_ BK188 hb
                replace BK194 := xbb_ BK194 hb
                replace BK227 := xbb_ BK227 hb
                replace HB := xws_ HB hb
                (try clear hb)
                (try clear hb2)
                (try clear hk)
                (try clear hi)
                (try clear ho0)
                refine hK.out _ _ ⟨xk_ BK161 0, xk_ BK161 1, xk_ BK162 0, xk_ BK162 1⟩ (fun hHeld => ?_)
                clear hK K
                refine norm_ (a' := ?_) ?_ ?_
                rotate_left
                ·show Act.put _ (some 99) _ = _
                 simp only [Act.put, List.setIfInBounds_toArray, List.set_cons_zero, List.set_cons_succ, i64_w, i32_w]
                 rfl
                refine pure_ (i := 5) (N := some 94) (v := ?_) (a' := ?_) #[true, true, true, true, true, true, false, false, true, false, false] rfl rfl (any_of HT_.out (by kernel_rfl)) (fun _ _ _ h => h) (Or.inl ⟨by rfl, ?_⟩) ?_ ?_
                rotate_left
                ·intro w'
                 go_simp
                 with_reducible rfl
                rotate_left
                ·simp only [Act.put, List.setIfInBounds_toArray, List.set_cons_zero, List.set_cons_succ, i64_w, i32_w]
                 rfl
                refine pure_ (i := 6) (N := some 100) (v := ?_) (a' := ?_) #[true, true, true, true, true, true, true, false, true, false, false] rfl rfl (any_of HT_.out (by kernel_rfl)) (fun _ _ _ h => h) (Or.inl ⟨by rfl, ?_⟩) ?_ ?_
                rotate_left
                ·intro w'
                 go_simp
                 with_reducible rfl
                rotate_left
                ·simp only [Act.put, List.setIfInBounds_toArray, List.set_cons_zero, List.set_cons_succ, i64_w, i32_w]
                 rfl
                refine pure_ (i := 7) (N := some 101) (v := ?_) (a' := ?_) #[true, true, true, true, true, true, true, true, true, false, false] rfl rfl (any_of HT_.out (by kernel_rfl)) (fun _ _ _ h => h) (Or.inl ⟨by rfl, ?_⟩) ?_ ?_
                rotate_left
                ·intro w'
                 go_simp
                 with_reducible rfl
                rotate_left
                ·simp only [Act.put, List.setIfInBounds_toArray, List.set_cons_zero, List.set_cons_succ, i64_w, i32_w]
                 rfl
                exact norm_ (by simp only [putAll, Act.put, List.setIfInBounds_toArray, List.set_cons_zero, List.set_cons_succ]) (hCont (.slice Ao188 t214.length co188, .slice Ao189 t218.length co189, v223, gb227) _ ⟨hHeld, (xrt_ (Kd.R_mono HO216.out (fun _ hk => ⟨hk.1.2, ⟨hk.2, ⟨hk.1.1.1.1.1.2, ⟨hk.1.1.1.1.2, ⟨hk.1.1.1.2, hk.1.1.2⟩⟩⟩⟩⟩))), (xrt_ (Kd.R_mono HO220.out (fun _ hk => ⟨hk.1.2, ⟨hk.2, ⟨hk.1.1.1.1.1.2, ⟨hk.1.1.1.1.2, ⟨hk.1.1.1.2, hk.1.1.2⟩⟩⟩⟩⟩))), (xrt_ (Kd.R_mono HO224.out (fun _ hk => ⟨hk.1.2, ⟨hk.2, ⟨hk.1.1.1.1.1.2, ⟨hk.1.1.1.1.2, ⟨hk.1.1.1.2, hk.1.1.2⟩⟩⟩⟩⟩))), (xrt_ (Kd.R_mono HO_179000.out (fun _ hk => ⟨hk.1.1.2, ⟨hk.1.2, ⟨hk.2, ⟨hk.1.1.1.1, ⟨hk.1.1.1.2.1, hk.1.1.1.2.2⟩⟩⟩⟩⟩))), (xrt_ (Kd.R_mono HO_184000.out (fun _ hk => ⟨hk.1.1.2, ⟨hk.1.2, ⟨hk.2, ⟨hk.1.1.1.1, ⟨hk.1.1.1.2.1, hk.1.1.1.2.2⟩⟩⟩⟩⟩))), (xrt_ (Kd.R_mono HO_189000.out (fun _ hk => ⟨hk.1.1.2, ⟨hk.1.2, ⟨hk.2, ⟨hk.1.1.1.1, ⟨hk.1.1.1.2.1, hk.1.1.1.2.2⟩⟩⟩⟩⟩))), (xrt_ (Kd.R_mono HO_195000.out (fun _ hk => ⟨hk.1.1.2, ⟨hk.1.2, ⟨hk.2, ⟨hk.1.1.1.1, ⟨hk.1.1.1.2.1, hk.1.1.1.2.2⟩⟩⟩⟩⟩))), xb_ BK161, xb_ BK162, xb_ BK178, xb_ BK183, xb_ BK188, xb_ BK194, xb_ BK227, GW227.out, GE227.out, NB161_227.out, NB227_161.out, NB162_227.out, NB227_162.out, NB178_227.out, NB227_178.out, NB183_227.out, NB227_183.out, NB188_227.out, NB227_188.out, NB194_227.out, NB227_194.out, xw_ HB⟩)
              ·skip
               refine box_step ?hg (N := 15) ?hd (cs := #[.slice none 0 0, .int .i64 0]) (t := 24) ?hr ?_; (case hd => rfl); (case hg => rfl); (case hr => first | (go_simp; done) | (go_simp; rfl))
               intro gb227 hg w185 hbox hb
               replace HO_179000 := xrb_ HO_179000 hb
               replace HO_184000 := xrb_ HO_184000 hb
               replace HO_189000 := xrb_ HO_189000 hb
               replace HO_195000 := xrb_ HO_195000 hb
               have BK227 := Aside0.mk (hbox)
               have GW227 := xge_ HB hg
               have GE227 := xge_ HB hg
               replace HB := xws_ HB hb
               have NB161_227 := xlt_ BK161 hg
               have NB227_161 := xgt_ BK161 hg
               replace BK161 := xbb_ BK161 hb
               have NB162_227 := xlt_ BK162 hg
               have NB227_162 := xgt_ BK162 hg
               replace BK162 := xbb_ BK162 hb
               have NB178_227 := xlt_ BK178 hg
               have NB227_178 := xgt_ BK178 hg
               replace BK178 := xbb_ BK178 hb
               have NB183_227 := xlt_ BK183 hg
               have NB227_183 := xgt_ BK183 hg
               replace BK183 := xbb_ BK183 hb
               have NB188_227 := xlt_ BK188 hg
               have NB227_188 := xgt_ BK188 hg
               replace BK188 := xbb_ BK188 hb
               have NB194_227 := xlt_ BK194 hg
               have NB227_194 := xgt_ BK194 hg
               replace BK194 := xbb_ BK194 hb
               clear hb hbox hg
               refine hK.out _ _ ⟨xk_ BK161 0, xk_ BK161 1, xk_ BK162 0, xk_ BK162 1⟩ (fun hHeld => ?_)
               clear hK K
               refine norm_ (a' := ?_) ?_ ?_
               rotate_left
               ·show Act.put _ (some 15) _ = _
                simp only [Act.put, List.setIfInBounds_toArray, List.set_cons_zero, List.set_cons_succ, i64_w, i32_w]
                rfl
               refine one_ (i := 1) (N := some 96) #[true, true, true, false, false, false, false, false, true, false, false] rfl rfl (one_of HT_.out (by kernel_rfl)) (by decide) (fun K hK => ?_)
               refine xgo_ Try.func23 #[.agg #[.slice A0_0 l0_0.length c0_0, .int .i64 a0_1]] ?_
               with_reducible refine (laws_toSketch.calls kj107 _ _ l0_0 a0_1 t214 t217 _ ?side1 ?side2 A171.out).mono ?_
               (case side1 => exact xc_ ((Kd.C_below HR0_0.out HB.out)))
               (case side2 => exact HC0_0.out)
               rintro e w186 ⟨v215, rfl, ho0, hb⟩
               refine ⟨_, rfl, ?_⟩
               have HO216 := Aside0.mk (Kd.R_lower (Kd.R_new' (Kd.R_new' (Kd.R_new' (Kd.R_new' ho0 (Kd.R_lt (xr_ HO_179000))) (Kd.R_lt (xr_ HO_184000))) (Kd.R_lt (xr_ HO_189000))) (Kd.R_lt (xr_ HO_195000))) (below_size (xw_ HB)))
               replace HO_179000 := xre_ HO_179000 ho0 hb
               replace HO_184000 := xre_ HO_184000 ho0 hb
               replace HO_189000 := xre_ HO_189000 ho0 hb
               replace HO_195000 := xre_ HO_195000 ho0 hb
               replace BK161 := xbb_ BK161 hb
               replace BK162 := xbb_ BK162 hb
               replace BK178 := xbb_ BK178 hb
               replace BK183 := xbb_ BK183 hb
               replace BK188 := xbb_ BK188 hb
               replace BK194 := xbb_ BK194 hb
               replace BK227 := xbb_ BK227 hb
               replace HB := xws_ HB hb
               (try clear hb)
               (try clear hb2)
               (try clear hk)
               (try clear hi)
               (try clear ho0)
               refine hK.out _ _ ⟨xk_ BK161 0, xk_ BK161 1, xk_ BK162 0, xk_ BK162 1⟩ (fun hHeld => ?_)
               clear hK K
               refine norm_ (a' := ?_) ?_ ?_
               rotate_left
               ·show Act.put _ (some 96) _ = _
                simp only [Act.put, List.setIfInBounds_toArray, List.set_cons_zero, List.set_cons_succ, i64_w, i32_w]
                rfl
               refine one_ (i := 3) (N := some 98) #[true, true, true, true, false, false, false, false, true, false, false] rfl rfl (one_of HT_.out (by kernel_rfl)) (by decide) (fun K hK => ?_)
               refine xgo_ Try.func23 #[.agg #[.slice A1_0 l1_0.length c1_0, .int .i64 a1_1]] ?_
               with_reducible refine (laws_toSketch.calls kj107 _ _ l1_0 a1_1 t218 t221 _ ?side1 ?side2 A172.out).mono ?_
               (case side1 => exact xc_ ((Kd.C_below HR1_0.out HB.out)))
               (case side2 => exact HC1_0.out)
               rintro e w187 ⟨v219, rfl, ho0, hb⟩
               refine ⟨_, rfl, ?_⟩
               have HO220 := Aside0.mk (Kd.R_lower (Kd.R_new' (Kd.R_new' (Kd.R_new' (Kd.R_new' (Kd.R_new' ho0 (Kd.R_lt (xr_ HO_179000))) (Kd.R_lt (xr_ HO_184000))) (Kd.R_lt (xr_ HO_189000))) (Kd.R_lt (xr_ HO_195000))) (Kd.R_lt (xr_ HO216))) (below_size (xw_ HB)))
               replace HO_179000 := xre_ HO_179000 ho0 hb
               replace HO_184000 := xre_ HO_184000 ho0 hb
               replace HO_189000 := xre_ HO_189000 ho0 hb
               replace HO_195000 := xre_ HO_195000 ho0 hb
               replace HO216 := xre_ HO216 ho0 hb
               replace BK161 := xbb_ BK161 hb
               replace BK162 := xbb_ BK162 hb
               replace BK178 := xbb_ BK178 hb
               replace BK183 := xbb_ BK183 hb
               replace BK188 := xbb_ BK188 hb
               replace BK194 := xbb_ BK194 hb
               replace BK227 := xbb_ BK227 hb
               replace HB := xws_ HB hb
               (try clear hb)
               (try clear hb2)
               (try clear hk)
               (try clear hi)
               (try clear ho0)
               obtain ⟨Ao188, co188, eo188⟩ := Kd.R_slice HO216.out
               (first | subst eo188 | (injection eo188 with f1_ f2_ f3_; have f4_ := f1_.symm; have f5_ := f3_.symm; clear f1_ f2_ f3_; subst f4_; subst f5_))
               obtain ⟨Ao189, co189, eo189⟩ := Kd.R_slice HO220.out
               (first | subst eo189 | (injection eo189 with f1_ f2_ f3_; have f4_ := f1_.symm; have f5_ := f3_.symm; clear f1_ f2_ f3_; subst f4_; subst f5_))
               refine hK.out _ _ ⟨xk_ BK161 0, xk_ BK161 1, xk_ BK162 0, xk_ BK162 1⟩ (fun hHeld => ?_)
               clear hK K
               refine norm_ (a' := ?_) ?_ ?_
               rotate_left
               ·show Act.put _ (some 98) _ = _
                simp only [Act.put, List.setIfInBounds_toArray, List.set_cons_zero, List.set_cons_succ, i64_w, i32_w]
                rfl
               refine one_ (i := 4) (N := some 99) #[true, true, true, true, true, false, false, false, true, false, false] rfl rfl (one_of HT_.out (by kernel_rfl)) (by decide) (fun K hK => ?_)
               refine xgo_ Try.func30 #[.agg #[.slice Ao188 t214.length co188, .int .i64 t217], .agg #[.slice Ao189 t218.length co189, .int .i64 t221]] ?_
               with_reducible refine (impl_JoinSketches.calls kj107 _ _ t214 t217 _ _ t218 t221 t222 t225 t226 _ ?side1 ?side2 ?side3 ?side4 A173.out).mono ?_
               (case side1 => exact xc_ ((Kd.R_reads' HO216.out).2.2))
               (case side2 => exact (Kd.R_reads' HO216.out).2.1)
               (case side3 => exact xc_ ((Kd.R_reads' HO220.out).2.2))
               (case side4 => exact (Kd.R_reads' HO220.out).2.1)
               rintro e w190 ⟨v223, rfl, ho0, hb⟩
               refine ⟨_, rfl, ?_⟩
               have HO224 := Aside0.mk (Kd.R_lower (Kd.R_new' (Kd.R_new' (Kd.R_new' (Kd.R_new' (Kd.R_new' (Kd.R_new' ho0 (Kd.R_lt (xr_ HO_179000))) (Kd.R_lt (xr_ HO_184000))) (Kd.R_lt (xr_ HO_189000))) (Kd.R_lt (xr_ HO_195000))) (Kd.R_lt (xr_ HO216))) (Kd.R_lt (xr_ HO220))) (below_size (xw_ HB)))
               replace HO_179000 := xre_ HO_179000 ho0 hb
               replace HO_184000 := xre_ HO_184000 ho0 hb
               replace HO_189000 := xre_ HO_189000 ho0 hb
               replace HO_195000 := xre_ HO_195000 ho0 hb
               replace HO216 := xre_ HO216 ho0 hb
               replace HO220 := xre_ HO220 ho0 hb
               replace BK161 := xbb_ BK161 hb
               replace BK162 := xbb_ BK162 hb
               replace BK178 := xbb_ BK178 hb
               replace BK183 := xbb_ BK183 hb
               replace BK188 := xbb_ BK188 hb
               replace BK194 := xbb_ BK194 hb
               replace BK227 := xbb_ BK227 hb
               replace HB := xws_ HB hb
               (try clear hb)
               (try clear hb2)
               (try clear hk)
               (try clear hi)
               (try clear ho0)
               refine hK.out _ _ ⟨xk_ BK161 0, xk_ BK161 1, xk_ BK162 0, xk_ BK162 1⟩ (fun hHeld => ?_)
               clear hK K
               refine norm_ (a' := ?_) ?_ ?_
               rotate_left
               ·show Act.put _ (some 99) _ = _
                simp only [Act.put, List.setIfInBounds_toArray, List.set_cons_zero, List.set_cons_succ, i64_w, i32_w]
                rfl
               refine pure_ (i := 5) (N := some 94) (v := ?_) (a' := ?_) #[true, true, true, true, true, true, false, false, true, false, false] rfl rfl (any_of HT_.out (by kernel_rfl)) (fun _ _ _ h => h) (Or.inl ⟨by rfl, ?_⟩) ?_ ?_
               rotate_left
               ·intro w'
                go_simp
                with_reducible rfl
               rotate_left
               ·simp only [Act.put, List.setIfInBounds_toArray, List.set_cons_zero, List.set_cons_succ, i64_w, i32_w]
                rfl
               refine pure_ (i := 6) (N := some 100) (v := ?_) (a' := ?_) #[true, true, true, true, true, true, true, false, true, false, false] rfl rfl (any_of HT_.out (by kernel_rfl)) (fun _ _ _ h => h) (Or.inl ⟨by rfl, ?_⟩) ?_ ?_
               rotate_left
               ·intro w'
                go_simp
                with_reducible rfl
               rotate_left
               ·simp only [Act.put, List.setIfInBounds_toArray, List.set_cons_zero, List.set_cons_succ, i64_w, i32_w]
                rfl
               refine pure_ (i := 7) (N := some 101) (v := ?_) (a' := ?_) #[true, true, true, true, true, true, true, true, true, false, false] rfl rfl (any_of HT_.out (by kernel_rfl)) (fun _ _ _ h => h) (Or.inl ⟨by rfl, ?_⟩) ?_ ?_
               rotate_left
               ·intro w'
                go_simp
                with_reducible rfl
               rotate_left
               ·simp only [Act.put, List.setIfInBounds_toArray, List.set_cons_zero, List.set_cons_succ, i64_w, i32_w]
                rfl
               exact norm_ (by simp only [putAll, Act.put, List.setIfInBounds_toArray, List.set_cons_zero, List.set_cons_succ]) (hCont (.slice Ao188 t214.length co188, .slice Ao189 t218.length co189, v223, gb227) _ ⟨hHeld, (xrt_ (Kd.R_mono HO216.out (fun _ hk => ⟨hk.1.2, ⟨hk.2, ⟨hk.1.1.1.1.1.2, ⟨hk.1.1.1.1.2, ⟨hk.1.1.1.2, hk.1.1.2⟩⟩⟩⟩⟩))), (xrt_ (Kd.R_mono HO220.out (fun _ hk => ⟨hk.1.2, ⟨hk.2, ⟨hk.1.1.1.1.1.2, ⟨hk.1.1.1.1.2, ⟨hk.1.1.1.2, hk.1.1.2⟩⟩⟩⟩⟩))), (xrt_ (Kd.R_mono HO224.out (fun _ hk => ⟨hk.1.2, ⟨hk.2, ⟨hk.1.1.1.1.1.2, ⟨hk.1.1.1.1.2, ⟨hk.1.1.1.2, hk.1.1.2⟩⟩⟩⟩⟩))), (xrt_ (Kd.R_mono HO_179000.out (fun _ hk => ⟨hk.1.1.2, ⟨hk.1.2, ⟨hk.2, ⟨hk.1.1.1.1, ⟨hk.1.1.1.2.1, hk.1.1.1.2.2⟩⟩⟩⟩⟩))), (xrt_ (Kd.R_mono HO_184000.out (fun _ hk => ⟨hk.1.1.2, ⟨hk.1.2, ⟨hk.2, ⟨hk.1.1.1.1, ⟨hk.1.1.1.2.1, hk.1.1.1.2.2⟩⟩⟩⟩⟩))), (xrt_ (Kd.R_mono HO_189000.out (fun _ hk => ⟨hk.1.1.2, ⟨hk.1.2, ⟨hk.2, ⟨hk.1.1.1.1, ⟨hk.1.1.1.2.1, hk.1.1.1.2.2⟩⟩⟩⟩⟩))), (xrt_ (Kd.R_mono HO_195000.out (fun _ hk => ⟨hk.1.1.2, ⟨hk.1.2, ⟨hk.2, ⟨hk.1.1.1.1, ⟨hk.1.1.1.2.1, hk.1.1.1.2.2⟩⟩⟩⟩⟩))), xb_ BK161, xb_ BK162, xb_ BK178, xb_ BK183, xb_ BK188, xb_ BK194, xb_ BK227, GW227.out, GE227.out, NB161_227.out, NB227_161.out, NB162_227.out, NB227_162.out, NB178_227.out, NB227_178.out, NB183_227.out, NB227_183.out, NB188_227.out, NB227_188.out, NB194_227.out, NB227_194.out, xw_ HB⟩)
             rintro ⟨v215, v219, v223, gb227⟩ w191 ⟨hS_, h0_, h1_, h2_, h3_, h4_, h5_, h6_, h7_, h8_, h9_, h10_, h11_, h12_, h13_, h14_, h15_, h16_, h17_, h18_, h19_, h20_, h21_, h22_, h23_, h24_, h25_, h26_, h27_, h28_⟩
             have n0_ : Aside0 (Kd.R (Kd.int .i64) 3 w191 w.heap.size (fun k_ => some k_ ≠ (v219 : Value).ownBlock ∧ some k_ ≠ (v223 : Value).ownBlock ∧ some k_ ≠ (.slice Ao41 t173.length co41 : Value).ownBlock ∧ some k_ ≠ (.slice Ao48 t207.length co48 : Value).ownBlock ∧ some k_ ≠ (.slice Ao57 t209.length co57 : Value).ownBlock ∧ some k_ ≠ (.slice Ao66 t189.length co66 : Value).ownBlock) v215 t214) := ⟨h0_⟩
             have n1_ : Aside0 (Kd.R (Kd.int .i64) 3 w191 w.heap.size (fun k_ => some k_ ≠ (v215 : Value).ownBlock ∧ some k_ ≠ (v223 : Value).ownBlock ∧ some k_ ≠ (.slice Ao41 t173.length co41 : Value).ownBlock ∧ some k_ ≠ (.slice Ao48 t207.length co48 : Value).ownBlock ∧ some k_ ≠ (.slice Ao57 t209.length co57 : Value).ownBlock ∧ some k_ ≠ (.slice Ao66 t189.length co66 : Value).ownBlock) v219 t218) := ⟨h1_⟩
             have n2_ : Aside0 (Kd.R (Kd.int .i64) 3 w191 w.heap.size (fun k_ => some k_ ≠ (v215 : Value).ownBlock ∧ some k_ ≠ (v219 : Value).ownBlock ∧ some k_ ≠ (.slice Ao41 t173.length co41 : Value).ownBlock ∧ some k_ ≠ (.slice Ao48 t207.length co48 : Value).ownBlock ∧ some k_ ≠ (.slice Ao57 t209.length co57 : Value).ownBlock ∧ some k_ ≠ (.slice Ao66 t189.length co66 : Value).ownBlock) v223 t222) := ⟨h2_⟩
             have n3_ : Aside0 (Kd.R (Kd.int .i64) 3 w191 w.heap.size (fun k_ => some k_ ≠ (v215 : Value).ownBlock ∧ some k_ ≠ (v219 : Value).ownBlock ∧ some k_ ≠ (v223 : Value).ownBlock ∧ some k_ ≠ (.slice Ao48 t207.length co48 : Value).ownBlock ∧ some k_ ≠ (.slice Ao57 t209.length co57 : Value).ownBlock ∧ some k_ ≠ (.slice Ao66 t189.length co66 : Value).ownBlock) (.slice Ao41 t173.length co41) t173) := ⟨h3_⟩
             have n4_ : Aside0 (Kd.R (Kd.int .i64) 3 w191 w.heap.size (fun k_ => some k_ ≠ (v215 : Value).ownBlock ∧ some k_ ≠ (v219 : Value).ownBlock ∧ some k_ ≠ (v223 : Value).ownBlock ∧ some k_ ≠ (.slice Ao41 t173.length co41 : Value).ownBlock ∧ some k_ ≠ (.slice Ao57 t209.length co57 : Value).ownBlock ∧ some k_ ≠ (.slice Ao66 t189.length co66 : Value).ownBlock) (.slice Ao48 t207.length co48) t207) := ⟨h4_⟩
             have n5_ : Aside0 (Kd.R (Kd.int .i64) 3 w191 w.heap.size (fun k_ => some k_ ≠ (v215 : Value).ownBlock ∧ some k_ ≠ (v219 : Value).ownBlock ∧ some k_ ≠ (v223 : Value).ownBlock ∧ some k_ ≠ (.slice Ao41 t173.length co41 : Value).ownBlock ∧ some k_ ≠ (.slice Ao48 t207.length co48 : Value).ownBlock ∧ some k_ ≠ (.slice Ao66 t189.length co66 : Value).ownBlock) (.slice Ao57 t209.length co57) t209) := ⟨h5_⟩
             have n6_ : Aside0 (Kd.R (Kd.int .i64) 3 w191 w.heap.size (fun k_ => some k_ ≠ (v215 : Value).ownBlock ∧ some k_ ≠ (v219 : Value).ownBlock ∧ some k_ ≠ (v223 : Value).ownBlock ∧ some k_ ≠ (.slice Ao41 t173.length co41 : Value).ownBlock ∧ some k_ ≠ (.slice Ao48 t207.length co48 : Value).ownBlock ∧ some k_ ≠ (.slice Ao57 t209.length co57 : Value).ownBlock) (.slice Ao66 t189.length co66) t212) := ⟨h6_⟩
             have n7_ : Aside0 (w191.heap[gb161]? = some (.cells #[.slice A0_0 l0_0.length c0_0, .int .i64 a0_1] 34 (0, 0))) := ⟨h7_⟩
             have n8_ : Aside0 (w191.heap[gb162]? = some (.cells #[.slice A1_0 l1_0.length c1_0, .int .i64 a1_1] 34 (0, 0))) := ⟨h8_⟩
             have n9_ : Aside0 (w191.heap[gb178]? = some (.cells #[.slice Ao41 t173.length co41, .int .i64 t176] 24 (0, 0))) := ⟨h9_⟩
             have n10_ : Aside0 (w191.heap[gb183]? = some (.cells #[.slice Ao48 t207.length co48, .int .i64 t182] 24 (0, 0))) := ⟨h10_⟩
             have n11_ : Aside0 (w191.heap[gb188]? = some (.cells #[.slice Ao57 t209.length co57, .int .i64 t187] 24 (0, 0))) := ⟨h11_⟩
             have n12_ : Aside0 (w191.heap[gb194]? = some (.cells #[.slice Ao66 t189.length co66, .int .i64 t192] 24 (0, 0))) := ⟨h12_⟩
             have n13_ : Aside0 (w191.heap[gb227]? = some (.cells #[.slice none 0 0, .int .i64 0] 24 (0, 0))) := ⟨h13_⟩
             have n14_ : Aside0 (w.heap.size ≤ gb227) := ⟨h14_⟩
             have n15_ : Aside0 (w.heap.size ≤ gb227) := ⟨h15_⟩
             have n16_ : Aside0 (gb161 ≠ gb227) := ⟨h16_⟩
             have n17_ : Aside0 (gb227 ≠ gb161) := ⟨h17_⟩
             have n18_ : Aside0 (gb162 ≠ gb227) := ⟨h18_⟩
             have n19_ : Aside0 (gb227 ≠ gb162) := ⟨h19_⟩
             have n20_ : Aside0 (gb178 ≠ gb227) := ⟨h20_⟩
             have n21_ : Aside0 (gb227 ≠ gb178) := ⟨h21_⟩
             have n22_ : Aside0 (gb183 ≠ gb227) := ⟨h22_⟩
             have n23_ : Aside0 (gb227 ≠ gb183) := ⟨h23_⟩
             have n24_ : Aside0 (gb188 ≠ gb227) := ⟨h24_⟩
             have n25_ : Aside0 (gb227 ≠ gb188) := ⟨h25_⟩
             have n26_ : Aside0 (gb194 ≠ gb227) := ⟨h26_⟩
             have n27_ : Aside0 (gb227 ≠ gb194) := ⟨h27_⟩
             have n28_ : Aside0 (Below w.heap.size w w191) := ⟨h28_⟩
             clear HO_179000
             clear HO_184000
             clear HO_189000
             clear HO_195000
             clear BK161
             clear BK162
             clear BK178
             clear BK183
             clear BK188
             clear BK194
             clear HB
             clear h0_ h1_ h2_ h3_ h4_ h5_ h6_ h7_ h8_ h9_ h10_ h11_ h12_ h13_ h14_ h15_ h16_ h17_ h18_ h19_ h20_ h21_ h22_ h23_ h24_ h25_ h26_ h27_ h28_
             have HO216 := n0_
             have HO220 := n1_
             have HO224 := n2_
             have HO_179000 := n3_
             have HO_184000 := n4_
             have HO_189000 := n5_
             have HO_195000 := n6_
             have BK161 := n7_
             have BK162 := n8_
             have BK178 := n9_
             have BK183 := n10_
             have BK188 := n11_
             have BK194 := n12_
             have BK227 := n13_
             have GW227 := n14_
             have GE227 := n15_
             have NB161_227 := n16_
             have NB227_161 := n17_
             have NB162_227 := n18_
             have NB227_162 := n19_
             have NB178_227 := n20_
             have NB227_178 := n21_
             have NB183_227 := n22_
             have NB227_183 := n23_
             have NB188_227 := n24_
             have NB227_188 := n25_
             have NB194_227 := n26_
             have NB227_194 := n27_
             have HB := n28_
             clear n0_ n1_ n2_ n3_ n4_ n5_ n6_ n7_ n8_ n9_ n10_ n11_ n12_ n13_ n14_ n15_ n16_ n17_ n18_ n19_ n20_ n21_ n22_ n23_ n24_ n25_ n26_ n27_ n28_
             have hHeld : w191.cell? ⟨gb161, 0, none⟩ = some (.slice A0_0 l0_0.length c0_0) ∧ w191.cell? ⟨gb161, 1, none⟩ = some (.int .i64 a0_1) ∧ w191.cell? ⟨gb162, 0, none⟩ = some (.slice A1_0 l1_0.length c1_0) ∧ w191.cell? ⟨gb162, 1, none⟩ = some (.int .i64 a1_1) := hS_
             obtain ⟨Ao192, co192, eo192⟩ := Kd.R_slice HO224.out
             (first | subst eo192 | (injection eo192 with f1_ f2_ f3_; have f4_ := f1_.symm; have f5_ := f3_.symm; clear f1_ f2_ f3_; subst f4_; subst f5_))
             refine norm_ (a' := ?_) ?_ ?_
             rotate_left
             ·simp only [putAll, Act.put, List.setIfInBounds_toArray, List.set_cons_zero, List.set_cons_succ]
              rfl
             refine one_ (i := 9) (N := none) #[true, true, true, true, true, true, true, true, true, true, false] rfl rfl (one_of HT_.out (by kernel_rfl)) (by decide) (fun K hK => ?_)
             have hs193 : w191.cell? ⟨gb227, 0, none⟩ = some (.slice none 0 0) := xk_ BK227 0
             have hfs193 := blk_frozen BK227.out 0
             have hns193_0 := NB161_227.out
             have hns193_1 := NB162_227.out
             have hns193_2 := NB178_227.out
             have hns193_3 := NB183_227.out
             have hns193_4 := NB188_227.out
             have hns193_5 := NB194_227.out
             have hms193_0 := NB227_161.out
             have hms193_1 := NB227_162.out
             have hms193_2 := NB227_178.out
             have hms193_3 := NB227_183.out
             have hms193_4 := NB227_188.out
             have hms193_5 := NB227_194.out
             have hs194 : w191.cell? ⟨gb227, 1, none⟩ = some (.int .i64 0) := xk_ BK227 1
             have hfs194 := blk_frozen BK227.out 1
             have hns194_0 := NB161_227.out
             have hns194_1 := NB162_227.out
             have hns194_2 := NB178_227.out
             have hns194_3 := NB183_227.out
             have hns194_4 := NB188_227.out
             have hns194_5 := NB194_227.out
             have hms194_0 := NB227_161.out
             have hms194_1 := NB227_162.out
             have hms194_2 := NB227_178.out
             have hms194_3 := NB227_183.out
             have hms194_4 := NB227_188.out
             have hms194_5 := NB227_194.out
             refine skip_ (w1 := ?_) (by rfl) rfl ?_ ?_
             rotate_left
             ·go_simp
              rfl
             refine hK.out _ _ ⟨((cell_far (p := ⟨gb227, _, none⟩) NB161_227.out _).trans (((cell_far (p := ⟨gb227, _, none⟩) NB161_227.out _).trans (hHeld.1)))), ((cell_far (p := ⟨gb227, _, none⟩) NB161_227.out _).trans (((cell_far (p := ⟨gb227, _, none⟩) NB161_227.out _).trans (hHeld.2.1)))), ((cell_far (p := ⟨gb227, _, none⟩) NB162_227.out _).trans (((cell_far (p := ⟨gb227, _, none⟩) NB162_227.out _).trans (hHeld.2.2.1)))), ((cell_far (p := ⟨gb227, _, none⟩) NB162_227.out _).trans (((cell_far (p := ⟨gb227, _, none⟩) NB162_227.out _).trans (hHeld.2.2.2))))⟩ (fun hHeld => ?_)
             clear hK K
             refine pure_ (i := 10) (N := some 16) (v := ?_) (a' := ?_) #[true, true, true, true, true, true, true, true, true, true, true] rfl rfl (any_of HT_.out (by kernel_rfl)) (fun _ _ _ h => h) (Or.inl ⟨by rfl, ?_⟩) ?_ ?_
             rotate_left
             ·intro w'
              go_simp
              with_reducible rfl
             rotate_left
             ·simp only [Act.put, List.setIfInBounds_toArray, List.set_cons_zero, List.set_cons_succ, i64_w, i32_w]
              rfl
             refine done_ (done_of HT_.out (by kernel_rfl)) ?_
             go_upto_region 32 with (fail)
             go_cut [110] (fun v110 wc => ∃ (kq : Nat) (x110_173 : Bool), v110 = .bool x110_173 ∧ Aside0 (laws_FnExactJoinSketches.j2 kq t211 x110_173 t212 t192 = some r) ∧ Aside0 (kq ≤ kj107) ∧ Aside0 (Kd.R (Kd.int .i64) 3 wc w.heap.size (fun k_ => some k_ ≠ ((.slice Ao48 t207.length co48) : Value).ownBlock ∧ some k_ ≠ ((.slice Ao57 t209.length co57) : Value).ownBlock ∧ some k_ ≠ ((.slice Ao66 t189.length co66) : Value).ownBlock ∧ some k_ ≠ ((.slice Ao192 t222.length co192) : Value).ownBlock) (.slice Ao41 t173.length co41) t173) ∧ Aside0 (Kd.R (Kd.int .i64) 3 wc w.heap.size (fun k_ => some k_ ≠ ((.slice Ao41 t173.length co41) : Value).ownBlock ∧ some k_ ≠ ((.slice Ao57 t209.length co57) : Value).ownBlock ∧ some k_ ≠ ((.slice Ao66 t189.length co66) : Value).ownBlock ∧ some k_ ≠ ((.slice Ao192 t222.length co192) : Value).ownBlock) (.slice Ao48 t207.length co48) t207) ∧ Aside0 (Kd.R (Kd.int .i64) 3 wc w.heap.size (fun k_ => some k_ ≠ ((.slice Ao41 t173.length co41) : Value).ownBlock ∧ some k_ ≠ ((.slice Ao48 t207.length co48) : Value).ownBlock ∧ some k_ ≠ ((.slice Ao66 t189.length co66) : Value).ownBlock ∧ some k_ ≠ ((.slice Ao192 t222.length co192) : Value).ownBlock) (.slice Ao57 t209.length co57) t209) ∧ Aside0 (Kd.R (Kd.int .i64) 3 wc w.heap.size (fun k_ => some k_ ≠ ((.slice Ao41 t173.length co41) : Value).ownBlock ∧ some k_ ≠ ((.slice Ao48 t207.length co48) : Value).ownBlock ∧ some k_ ≠ ((.slice Ao57 t209.length co57) : Value).ownBlock ∧ some k_ ≠ ((.slice Ao192 t222.length co192) : Value).ownBlock) (.slice Ao66 t189.length co66) t212) ∧ Aside0 (Kd.R (Kd.int .i64) 3 wc w.heap.size (fun k_ => some k_ ≠ ((.slice Ao41 t173.length co41) : Value).ownBlock ∧ some k_ ≠ ((.slice Ao48 t207.length co48) : Value).ownBlock ∧ some k_ ≠ ((.slice Ao57 t209.length co57) : Value).ownBlock ∧ some k_ ≠ ((.slice Ao66 t189.length co66) : Value).ownBlock) (.slice Ao192 t222.length co192) t222) ∧ Aside0 (wc.heap[gb161]? = some (.cells #[(.slice A0_0 l0_0.length c0_0), .int .i64 a0_1] 34 (0, 0))) ∧ Aside0 (wc.heap[gb162]? = some (.cells #[(.slice A1_0 l1_0.length c1_0), .int .i64 a1_1] 34 (0, 0))) ∧ Aside0 (wc.heap[gb178]? = some (.cells #[(.slice Ao41 t173.length co41), .int .i64 t176] 24 (0, 0))) ∧ Aside0 (wc.heap[gb183]? = some (.cells #[(.slice Ao48 t207.length co48), .int .i64 t182] 24 (0, 0))) ∧ Aside0 (wc.heap[gb188]? = some (.cells #[(.slice Ao57 t209.length co57), .int .i64 t187] 24 (0, 0))) ∧ Aside0 (wc.heap[gb194]? = some (.cells #[(.slice Ao66 t189.length co66), .int .i64 t192] 24 (0, 0))) ∧ Aside0 (wc.heap[gb227]? = some (.cells #[(.slice Ao192 t222.length co192), .int .i64 t225] 24 (0, 0))) ∧ Aside0 (Below w.heap.size w wc))
             case first =>
              have H := HC174.out
              clear HC174
              replace H := Option.bind_eq_some_iff.mp H
              obtain ⟨t228, A1950, H⟩ := H
              replace H : (if t228 = true then (laws_FnExactJoinSketches.j2 kj107 t211 (t226 != t177) t212 t192) else (laws_FnExactJoinSketches.j2 kj107 t211 true t212 t192)) = some r := H
              have A195 := Aside0.mk A1950
              clear A1950
              by_cases c196 : t228 = true
              ·subst c196
               have H1 : (laws_FnExactJoinSketches.j2 kj107 t211 (t226 != t177) t212 t192) = some r := by rw [if_pos rfl] at H; exact H
               clear H
               have H := H1
               clear H1
               have H' := Aside0.mk H
               clear H
               have hnb197 := NB227_161.out
               have hnc197 := NB161_227.out
               have hnb198 := NB227_162.out
               have hnc198 := NB162_227.out
               have hnb199 := NB227_178.out
               have hnc199 := NB178_227.out
               have hnb200 := NB227_183.out
               have hnc200 := NB183_227.out
               have hnb201 := NB227_188.out
               have hnc201 := NB188_227.out
               have hnb202 := NB227_194.out
               have hnc202 := NB194_227.out
               have hcz203_0 : w191.cell? ⟨gb227, 0, none⟩ = some (.slice none 0 0) := xk_ BK227 0
               have hcz203_1 : w191.cell? ⟨gb227, 1, none⟩ = some (.int .i64 0) := xk_ BK227 1
               have hfz203_0 := blk_frozen BK227.out 0
               have hfz203_1 := blk_frozen BK227.out 1
               have hnb204 := NB178_161.out
               have hnc204 := NB161_178.out
               have hnb205 := NB178_162.out
               have hnc205 := NB162_178.out
               have hnb206 := NB178_183.out
               have hnc206 := NB183_178.out
               have hnb207 := NB178_188.out
               have hnc207 := NB188_178.out
               have hnb208 := NB178_194.out
               have hnc208 := NB194_178.out
               have hcz209_0 : w191.cell? ⟨gb178, 0, none⟩ = some (.slice Ao41 t173.length co41) := xk_ BK178 0
               have hcz209_1 : w191.cell? ⟨gb178, 1, none⟩ = some (.int .i64 t176) := xk_ BK178 1
               have hfz209_0 := blk_frozen BK178.out 0
               have hfz209_1 := blk_frozen BK178.out 1
               go_wp2_with (first | ((with_reducible refine gate_callee (f := 13) rfl ?_); refine xgl_ (some 104) Try.func13 #[.agg #[.slice Ao192 t222.length co192, .int .i64 t225], .agg #[.slice Ao41 t173.length co41, .int .i64 t176]] ?_; (with_reducible refine (laws_eqSketch.calls kj107 _ _ t222 t225 _ _ t173 t176 true _ ?side1 ?side2 ?side3 ?side4 A195.out).mono ?_); (case side1 => refine (Kd.R_reads' (e := 3) (base := w.heap.size) (ok := fun k_ => (some k_ ≠ (v215 : Value).ownBlock ∧ (some k_ ≠ (v219 : Value).ownBlock ∧ (some k_ ≠ (.slice Ao41 t173.length co41 : Value).ownBlock ∧ (some k_ ≠ (.slice Ao48 t207.length co48 : Value).ownBlock ∧ (some k_ ≠ (.slice Ao57 t209.length co57 : Value).ownBlock ∧ some k_ ≠ (.slice Ao66 t189.length co66 : Value).ownBlock)))))) (n := t222.length) (c := co192) ?_).2.2; exact (xrt_ ((Kd.R_mono (Kd.R_far (p := ⟨gb227, 1, none⟩) (Kd.R_far (p := ⟨gb227, 0, none⟩) (Kd.R_types HO224.out BK227.out (by decide)) (fun _ hk => hk.2) (.slice Ao192 t222.length co192)) (fun _ hk => hk.2) (.int .i64 t225)) (fun _ h_ => h_.1))))); (case side2 => exact (Kd.R_reads' HO224.out).2.1); (case side3 => refine (Kd.R_reads' (e := 3) (base := w.heap.size) (ok := fun k_ => (some k_ ≠ (v215 : Value).ownBlock ∧ (some k_ ≠ (v219 : Value).ownBlock ∧ (some k_ ≠ (.slice Ao192 t222.length co192 : Value).ownBlock ∧ (some k_ ≠ (.slice Ao48 t207.length co48 : Value).ownBlock ∧ (some k_ ≠ (.slice Ao57 t209.length co57 : Value).ownBlock ∧ some k_ ≠ (.slice Ao66 t189.length co66 : Value).ownBlock)))))) (n := t173.length) (c := co41) ?_).2.2; exact (xrt_ ((Kd.R_mono (Kd.R_far (p := ⟨gb227, 1, none⟩) (Kd.R_far (p := ⟨gb227, 0, none⟩) (Kd.R_types HO_179000.out BK227.out (by decide)) (fun _ hk => hk.2) (.slice Ao192 t222.length co192)) (fun _ hk => hk.2) (.int .i64 t225)) (fun _ h_ => h_.1))))); (case side4 => exact (Kd.R_reads' HO_179000.out).2.1); rintro e w210 ⟨rfl, hb⟩; refine ⟨_, rfl, ?_⟩; replace HO_179000 := Aside0.mk (Kd.R_below (xrt_ ((Kd.R_mono (Kd.R_far (p := ⟨gb227, 1, none⟩) (Kd.R_far (p := ⟨gb227, 0, none⟩) (Kd.R_types HO_179000.out BK227.out (by decide)) (fun _ hk => hk.2) (.slice Ao192 t222.length co192)) (fun _ hk => hk.2) (.int .i64 t225)) (fun _ h_ => h_.1)))) hb); replace HO_184000 := Aside0.mk (Kd.R_below (xrt_ ((Kd.R_mono (Kd.R_far (p := ⟨gb227, 1, none⟩) (Kd.R_far (p := ⟨gb227, 0, none⟩) (Kd.R_types HO_184000.out BK227.out (by decide)) (fun _ hk => hk.2) (.slice Ao192 t222.length co192)) (fun _ hk => hk.2) (.int .i64 t225)) (fun _ h_ => h_.1)))) hb); replace HO_189000 := Aside0.mk (Kd.R_below (xrt_ ((Kd.R_mono (Kd.R_far (p := ⟨gb227, 1, none⟩) (Kd.R_far (p := ⟨gb227, 0, none⟩) (Kd.R_types HO_189000.out BK227.out (by decide)) (fun _ hk => hk.2) (.slice Ao192 t222.length co192)) (fun _ hk => hk.2) (.int .i64 t225)) (fun _ h_ => h_.1)))) hb); replace HO_195000 := Aside0.mk (Kd.R_below (xrt_ ((Kd.R_mono (Kd.R_far (p := ⟨gb227, 1, none⟩) (Kd.R_far (p := ⟨gb227, 0, none⟩) (Kd.R_types HO_195000.out BK227.out (by decide)) (fun _ hk => hk.2) (.slice Ao192 t222.length co192)) (fun _ hk => hk.2) (.int .i64 t225)) (fun _ h_ => h_.1)))) hb); replace HO216 := Aside0.mk (Kd.R_below (xrt_ ((Kd.R_mono (Kd.R_far (p := ⟨gb227, 1, none⟩) (Kd.R_far (p := ⟨gb227, 0, none⟩) (Kd.R_types HO216.out BK227.out (by decide)) (fun _ hk => hk.2) (.slice Ao192 t222.length co192)) (fun _ hk => hk.2) (.int .i64 t225)) (fun _ h_ => h_.1)))) hb); replace HO220 := Aside0.mk (Kd.R_below (xrt_ ((Kd.R_mono (Kd.R_far (p := ⟨gb227, 1, none⟩) (Kd.R_far (p := ⟨gb227, 0, none⟩) (Kd.R_types HO220.out BK227.out (by decide)) (fun _ hk => hk.2) (.slice Ao192 t222.length co192)) (fun _ hk => hk.2) (.int .i64 t225)) (fun _ h_ => h_.1)))) hb); replace HO224 := Aside0.mk (Kd.R_below (xrt_ ((Kd.R_mono (Kd.R_far (p := ⟨gb227, 1, none⟩) (Kd.R_far (p := ⟨gb227, 0, none⟩) (Kd.R_types HO224.out BK227.out (by decide)) (fun _ hk => hk.2) (.slice Ao192 t222.length co192)) (fun _ hk => hk.2) (.int .i64 t225)) (fun _ h_ => h_.1)))) hb); replace BK161 := Aside0.mk (blk_below (g := gb161) (o := .cells #[.slice A0_0 l0_0.length c0_0, .int .i64 a0_1] 34 (0, 0)) (by (with_reducible repeat (first | refine blk_drewN ?_ _ | refine blk_drew ?_ | refine blk_alloc ?_ _)); refine blk_far ?_ NB161_227.out _; (with_reducible repeat (first | refine blk_drewN ?_ _ | refine blk_drew ?_ | refine blk_alloc ?_ _)); refine blk_far ?_ NB161_227.out _; (with_reducible repeat (first | refine blk_drewN ?_ _ | refine blk_drew ?_ | refine blk_alloc ?_ _)); exact BK161.out) hb); replace BK162 := Aside0.mk (blk_below (g := gb162) (o := .cells #[.slice A1_0 l1_0.length c1_0, .int .i64 a1_1] 34 (0, 0)) (by (with_reducible repeat (first | refine blk_drewN ?_ _ | refine blk_drew ?_ | refine blk_alloc ?_ _)); refine blk_far ?_ NB162_227.out _; (with_reducible repeat (first | refine blk_drewN ?_ _ | refine blk_drew ?_ | refine blk_alloc ?_ _)); refine blk_far ?_ NB162_227.out _; (with_reducible repeat (first | refine blk_drewN ?_ _ | refine blk_drew ?_ | refine blk_alloc ?_ _)); exact BK162.out) hb); replace BK178 := Aside0.mk (blk_below (g := gb178) (o := .cells #[.slice Ao41 t173.length co41, .int .i64 t176] 24 (0, 0)) (by (with_reducible repeat (first | refine blk_drewN ?_ _ | refine blk_drew ?_ | refine blk_alloc ?_ _)); refine blk_far ?_ NB178_227.out _; (with_reducible repeat (first | refine blk_drewN ?_ _ | refine blk_drew ?_ | refine blk_alloc ?_ _)); refine blk_far ?_ NB178_227.out _; (with_reducible repeat (first | refine blk_drewN ?_ _ | refine blk_drew ?_ | refine blk_alloc ?_ _)); exact BK178.out) hb); replace BK183 := Aside0.mk (blk_below (g := gb183) (o := .cells #[.slice Ao48 t207.length co48, .int .i64 t182] 24 (0, 0)) (by (with_reducible repeat (first | refine blk_drewN ?_ _ | refine blk_drew ?_ | refine blk_alloc ?_ _)); refine blk_far ?_ NB183_227.out _; (with_reducible repeat (first | refine blk_drewN ?_ _ | refine blk_drew ?_ | refine blk_alloc ?_ _)); refine blk_far ?_ NB183_227.out _; (with_reducible repeat (first | refine blk_drewN ?_ _ | refine blk_drew ?_ | refine blk_alloc ?_ _)); exact BK183.out) hb); replace BK188 := Aside0.mk (blk_below (g := gb188) (o := .cells #[.slice Ao57 t209.length co57, .int .i64 t187] 24 (0, 0)) (by (with_reducible repeat (first | refine blk_drewN ?_ _ | refine blk_drew ?_ | refine blk_alloc ?_ _)); refine blk_far ?_ NB188_227.out _; (with_reducible repeat (first | refine blk_drewN ?_ _ | refine blk_drew ?_ | refine blk_alloc ?_ _)); refine blk_far ?_ NB188_227.out _; (with_reducible repeat (first | refine blk_drewN ?_ _ | refine blk_drew ?_ | refine blk_alloc ?_ _)); exact BK188.out) hb); replace BK194 := Aside0.mk (blk_below (g := gb194) (o := .cells #[.slice Ao66 t189.length co66, .int .i64 t192] 24 (0, 0)) (by (with_reducible repeat (first | refine blk_drewN ?_ _ | refine blk_drew ?_ | refine blk_alloc ?_ _)); refine blk_far ?_ NB194_227.out _; (with_reducible repeat (first | refine blk_drewN ?_ _ | refine blk_drew ?_ | refine blk_alloc ?_ _)); refine blk_far ?_ NB194_227.out _; (with_reducible repeat (first | refine blk_drewN ?_ _ | refine blk_drew ?_ | refine blk_alloc ?_ _)); exact BK194.out) hb); replace BK227 := Aside0.mk (blk_below (g := gb227) (o := .cells #[.slice Ao192 t222.length co192, .int .i64 t225] 24 (0, 0)) (by (with_reducible repeat (first | refine blk_drewN ?_ _ | refine blk_drew ?_ | refine blk_alloc ?_ _)); refine blk_put (cs := #[.slice Ao192 t222.length co192, .int .i64 0]) ?_ 1 _ rfl; (with_reducible repeat (first | refine blk_drewN ?_ _ | refine blk_drew ?_ | refine blk_alloc ?_ _)); refine blk_put (cs := #[.slice none 0 0, .int .i64 0]) ?_ 0 _ rfl; (with_reducible repeat (first | refine blk_drewN ?_ _ | refine blk_drew ?_ | refine blk_alloc ?_ _)); exact BK227.out) hb); replace HB := xws_ HB hb; (try clear hb); (try clear hb2); (try clear hk); (try clear hi)))
               go_meet
               case rel => exact ⟨_, ((t226 != t177)), (by first | rfl | (simp; done) | (simp [*]; done)), H', ⟨by have := HJ24.out; have := HJ107.out; first | omega | exact Nat.le_refl _⟩, ⟨by (try simp only [hl184000_107]); (try simp only [hl189000_107]); (with_reducible repeat (first | apply Kd.R_alloc | apply Kd.R_drewN | apply Kd.R_drew)); exact Kd.R_mono HO_179000.out (fun _ hk => ⟨hk.2.2.2.1, ⟨hk.2.2.2.2.1, ⟨hk.2.2.2.2.2, hk.2.2.1⟩⟩⟩)⟩, ⟨by (try simp only [hl184000_107]); (try simp only [hl189000_107]); (with_reducible repeat (first | apply Kd.R_alloc | apply Kd.R_drewN | apply Kd.R_drew)); exact Kd.R_mono HO_184000.out (fun _ hk => ⟨hk.2.2.2.1, ⟨hk.2.2.2.2.1, ⟨hk.2.2.2.2.2, hk.2.2.1⟩⟩⟩)⟩, ⟨by (try simp only [hl184000_107]); (try simp only [hl189000_107]); (with_reducible repeat (first | apply Kd.R_alloc | apply Kd.R_drewN | apply Kd.R_drew)); exact Kd.R_mono HO_189000.out (fun _ hk => ⟨hk.2.2.2.1, ⟨hk.2.2.2.2.1, ⟨hk.2.2.2.2.2, hk.2.2.1⟩⟩⟩)⟩, ⟨by (try simp only [hl184000_107]); (try simp only [hl189000_107]); (with_reducible repeat (first | apply Kd.R_alloc | apply Kd.R_drewN | apply Kd.R_drew)); exact Kd.R_mono HO_195000.out (fun _ hk => ⟨hk.2.2.2.1, ⟨hk.2.2.2.2.1, ⟨hk.2.2.2.2.2, hk.2.2.1⟩⟩⟩)⟩, ⟨by (try simp only [hl184000_107]); (try simp only [hl189000_107]); (with_reducible repeat (first | apply Kd.R_alloc | apply Kd.R_drewN | apply Kd.R_drew)); exact Kd.R_mono HO224.out (fun _ hk => ⟨hk.2.2.1, ⟨hk.2.2.2.1, ⟨hk.2.2.2.2.1, hk.2.2.2.2.2⟩⟩⟩)⟩, ⟨by (try simp only [hl184000_107]); (try simp only [hl189000_107]); (with_reducible repeat (first | refine blk_drewN ?_ _ | refine blk_drew ?_ | refine blk_alloc ?_ _)); exact BK161.out⟩, ⟨by (try simp only [hl184000_107]); (try simp only [hl189000_107]); (with_reducible repeat (first | refine blk_drewN ?_ _ | refine blk_drew ?_ | refine blk_alloc ?_ _)); exact BK162.out⟩, ⟨by (try simp only [hl184000_107]); (try simp only [hl189000_107]); (with_reducible repeat (first | refine blk_drewN ?_ _ | refine blk_drew ?_ | refine blk_alloc ?_ _)); exact BK178.out⟩, ⟨by (try simp only [hl184000_107]); (try simp only [hl189000_107]); (with_reducible repeat (first | refine blk_drewN ?_ _ | refine blk_drew ?_ | refine blk_alloc ?_ _)); exact BK183.out⟩, ⟨by (try simp only [hl184000_107]); (try simp only [hl189000_107]); (with_reducible repeat (first | refine blk_drewN ?_ _ | refine blk_drew ?_ | refine blk_alloc ?_ _)); exact BK188.out⟩, ⟨by (try simp only [hl184000_107]); (try simp only [hl189000_107]); (with_reducible repeat (first | refine blk_drewN ?_ _ | refine blk_drew ?_ | refine blk_alloc ?_ _)); exact BK194.out⟩, ⟨by (try simp only [hl184000_107]); (try simp only [hl189000_107]); (with_reducible repeat (first | refine blk_drewN ?_ _ | refine blk_drew ?_ | refine blk_alloc ?_ _)); exact BK227.out⟩, ⟨xw_ HB⟩⟩
              ·replace c196 := Bool.eq_false_iff.mpr c196
               subst c196
               have H1 : (laws_FnExactJoinSketches.j2 kj107 t211 true t212 t192) = some r := by rw [if_neg (show ¬ (false = true) by decide)] at H; exact H
               clear H
               have H := H1
               clear H1
               have H' := Aside0.mk H
               clear H
               have hnb211 := NB227_161.out
               have hnc211 := NB161_227.out
               have hnb212 := NB227_162.out
               have hnc212 := NB162_227.out
               have hnb213 := NB227_178.out
               have hnc213 := NB178_227.out
               have hnb214 := NB227_183.out
               have hnc214 := NB183_227.out
               have hnb215 := NB227_188.out
               have hnc215 := NB188_227.out
               have hnb216 := NB227_194.out
               have hnc216 := NB194_227.out
               have hcz217_0 : w191.cell? ⟨gb227, 0, none⟩ = some (.slice none 0 0) := xk_ BK227 0
               have hcz217_1 : w191.cell? ⟨gb227, 1, none⟩ = some (.int .i64 0) := xk_ BK227 1
               have hfz217_0 := blk_frozen BK227.out 0
               have hfz217_1 := blk_frozen BK227.out 1
               have hnb218 := NB178_161.out
               have hnc218 := NB161_178.out
               have hnb219 := NB178_162.out
               have hnc219 := NB162_178.out
               have hnb220 := NB178_183.out
               have hnc220 := NB183_178.out
               have hnb221 := NB178_188.out
               have hnc221 := NB188_178.out
               have hnb222 := NB178_194.out
               have hnc222 := NB194_178.out
               have hcz223_0 : w191.cell? ⟨gb178, 0, none⟩ = some (.slice Ao41 t173.length co41) := xk_ BK178 0
               have hcz223_1 : w191.cell? ⟨gb178, 1, none⟩ = some (.int .i64 t176) := xk_ BK178 1
               have hfz223_0 := blk_frozen BK178.out 0
               have hfz223_1 := blk_frozen BK178.out 1
               go_wp2_with (first | ((with_reducible refine gate_callee (f := 13) rfl ?_); refine xgl_ (some 104) Try.func13 #[.agg #[.slice Ao192 t222.length co192, .int .i64 t225], .agg #[.slice Ao41 t173.length co41, .int .i64 t176]] ?_; (with_reducible refine (laws_eqSketch.calls kj107 _ _ t222 t225 _ _ t173 t176 false _ ?side1 ?side2 ?side3 ?side4 A195.out).mono ?_); (case side1 => refine (Kd.R_reads' (e := 3) (base := w.heap.size) (ok := fun k_ => (some k_ ≠ (v215 : Value).ownBlock ∧ (some k_ ≠ (v219 : Value).ownBlock ∧ (some k_ ≠ (.slice Ao41 t173.length co41 : Value).ownBlock ∧ (some k_ ≠ (.slice Ao48 t207.length co48 : Value).ownBlock ∧ (some k_ ≠ (.slice Ao57 t209.length co57 : Value).ownBlock ∧ some k_ ≠ (.slice Ao66 t189.length co66 : Value).ownBlock)))))) (n := t222.length) (c := co192) ?_).2.2; exact (xrt_ ((Kd.R_mono (Kd.R_far (p := ⟨gb227, 1, none⟩) (Kd.R_far (p := ⟨gb227, 0, none⟩) (Kd.R_types HO224.out BK227.out (by decide)) (fun _ hk => hk.2) (.slice Ao192 t222.length co192)) (fun _ hk => hk.2) (.int .i64 t225)) (fun _ h_ => h_.1))))); (case side2 => exact (Kd.R_reads' HO224.out).2.1); (case side3 => refine (Kd.R_reads' (e := 3) (base := w.heap.size) (ok := fun k_ => (some k_ ≠ (v215 : Value).ownBlock ∧ (some k_ ≠ (v219 : Value).ownBlock ∧ (some k_ ≠ (.slice Ao192 t222.length co192 : Value).ownBlock ∧ (some k_ ≠ (.slice Ao48 t207.length co48 : Value).ownBlock ∧ (some k_ ≠ (.slice Ao57 t209.length co57 : Value).ownBlock ∧ some k_ ≠ (.slice Ao66 t189.length co66 : Value).ownBlock)))))) (n := t173.length) (c := co41) ?_).2.2; exact (xrt_ ((Kd.R_mono (Kd.R_far (p := ⟨gb227, 1, none⟩) (Kd.R_far (p := ⟨gb227, 0, none⟩) (Kd.R_types HO_179000.out BK227.out (by decide)) (fun _ hk => hk.2) (.slice Ao192 t222.length co192)) (fun _ hk => hk.2) (.int .i64 t225)) (fun _ h_ => h_.1))))); (case side4 => exact (Kd.R_reads' HO_179000.out).2.1); rintro e w224 ⟨rfl, hb⟩; refine ⟨_, rfl, ?_⟩; replace HO_179000 := Aside0.mk (Kd.R_below (xrt_ ((Kd.R_mono (Kd.R_far (p := ⟨gb227, 1, none⟩) (Kd.R_far (p := ⟨gb227, 0, none⟩) (Kd.R_types HO_179000.out BK227.out (by decide)) (fun _ hk => hk.2) (.slice Ao192 t222.length co192)) (fun _ hk => hk.2) (.int .i64 t225)) (fun _ h_ => h_.1)))) hb); replace HO_184000 := Aside0.mk (Kd.R_below (xrt_ ((Kd.R_mono (Kd.R_far (p := ⟨gb227, 1, none⟩) (Kd.R_far (p := ⟨gb227, 0, none⟩) (Kd.R_types HO_184000.out BK227.out (by decide)) (fun _ hk => hk.2) (.slice Ao192 t222.length co192)) (fun _ hk => hk.2) (.int .i64 t225)) (fun _ h_ => h_.1)))) hb); replace HO_189000 := Aside0.mk (Kd.R_below (xrt_ ((Kd.R_mono (Kd.R_far (p := ⟨gb227, 1, none⟩) (Kd.R_far (p := ⟨gb227, 0, none⟩) (Kd.R_types HO_189000.out BK227.out (by decide)) (fun _ hk => hk.2) (.slice Ao192 t222.length co192)) (fun _ hk => hk.2) (.int .i64 t225)) (fun _ h_ => h_.1)))) hb); replace HO_195000 := Aside0.mk (Kd.R_below (xrt_ ((Kd.R_mono (Kd.R_far (p := ⟨gb227, 1, none⟩) (Kd.R_far (p := ⟨gb227, 0, none⟩) (Kd.R_types HO_195000.out BK227.out (by decide)) (fun _ hk => hk.2) (.slice Ao192 t222.length co192)) (fun _ hk => hk.2) (.int .i64 t225)) (fun _ h_ => h_.1)))) hb); replace HO216 := Aside0.mk (Kd.R_below (xrt_ ((Kd.R_mono (Kd.R_far (p := ⟨gb227, 1, none⟩) (Kd.R_far (p := ⟨gb227, 0, none⟩) (Kd.R_types HO216.out BK227.out (by decide)) (fun _ hk => hk.2) (.slice Ao192 t222.length co192)) (fun _ hk => hk.2) (.int .i64 t225)) (fun _ h_ => h_.1)))) hb); replace HO220 := Aside0.mk (Kd.R_below (xrt_ ((Kd.R_mono (Kd.R_far (p := ⟨gb227, 1, none⟩) (Kd.R_far (p := ⟨gb227, 0, none⟩) (Kd.R_types HO220.out BK227.out (by decide)) (fun _ hk => hk.2) (.slice Ao192 t222.length co192)) (fun _ hk => hk.2) (.int .i64 t225)) (fun _ h_ => h_.1)))) hb); replace HO224 := Aside0.mk (Kd.R_below (xrt_ ((Kd.R_mono (Kd.R_far (p := ⟨gb227, 1, none⟩) (Kd.R_far (p := ⟨gb227, 0, none⟩) (Kd.R_types HO224.out BK227.out (by decide)) (fun _ hk => hk.2) (.slice Ao192 t222.length co192)) (fun _ hk => hk.2) (.int .i64 t225)) (fun _ h_ => h_.1)))) hb); replace BK161 := Aside0.mk (blk_below (g := gb161) (o := .cells #[.slice A0_0 l0_0.length c0_0, .int .i64 a0_1] 34 (0, 0)) (by (with_reducible repeat (first | refine blk_drewN ?_ _ | refine blk_drew ?_ | refine blk_alloc ?_ _)); refine blk_far ?_ NB161_227.out _; (with_reducible repeat (first | refine blk_drewN ?_ _ | refine blk_drew ?_ | refine blk_alloc ?_ _)); refine blk_far ?_ NB161_227.out _; (with_reducible repeat (first | refine blk_drewN ?_ _ | refine blk_drew ?_ | refine blk_alloc ?_ _)); exact BK161.out) hb); replace BK162 := Aside0.mk (blk_below (g := gb162) (o := .cells #[.slice A1_0 l1_0.length c1_0, .int .i64 a1_1] 34 (0, 0)) (by (with_reducible repeat (first | refine blk_drewN ?_ _ | refine blk_drew ?_ | refine blk_alloc ?_ _)); refine blk_far ?_ NB162_227.out _; (with_reducible repeat (first | refine blk_drewN ?_ _ | refine blk_drew ?_ | refine blk_alloc ?_ _)); refine blk_far ?_ NB162_227.out _; (with_reducible repeat (first | refine blk_drewN ?_ _ | refine blk_drew ?_ | refine blk_alloc ?_ _)); exact BK162.out) hb); replace BK178 := Aside0.mk (blk_below (g := gb178) (o := .cells #[.slice Ao41 t173.length co41, .int .i64 t176] 24 (0, 0)) (by (with_reducible repeat (first | refine blk_drewN ?_ _ | refine blk_drew ?_ | refine blk_alloc ?_ _)); refine blk_far ?_ NB178_227.out _; (with_reducible repeat (first | refine blk_drewN ?_ _ | refine blk_drew ?_ | refine blk_alloc ?_ _)); refine blk_far ?_ NB178_227.out _; (with_reducible repeat (first | refine blk_drewN ?_ _ | refine blk_drew ?_ | refine blk_alloc ?_ _)); exact BK178.out) hb); replace BK183 := Aside0.mk (blk_below (g := gb183) (o := .cells #[.slice Ao48 t207.length co48, .int .i64 t182] 24 (0, 0)) (by (with_reducible repeat (first | refine blk_drewN ?_ _ | refine blk_drew ?_ | refine blk_alloc ?_ _)); refine blk_far ?_ NB183_227.out _; (with_reducible repeat (first | refine blk_drewN ?_ _ | refine blk_drew ?_ | refine blk_alloc ?_ _)); refine blk_far ?_ NB183_227.out _; (with_reducible repeat (first | refine blk_drewN ?_ _ | refine blk_drew ?_ | refine blk_alloc ?_ _)); exact BK183.out) hb); replace BK188 := Aside0.mk (blk_below (g := gb188) (o := .cells #[.slice Ao57 t209.length co57, .int .i64 t187] 24 (0, 0)) (by (with_reducible repeat (first | refine blk_drewN ?_ _ | refine blk_drew ?_ | refine blk_alloc ?_ _)); refine blk_far ?_ NB188_227.out _; (with_reducible repeat (first | refine blk_drewN ?_ _ | refine blk_drew ?_ | refine blk_alloc ?_ _)); refine blk_far ?_ NB188_227.out _; (with_reducible repeat (first | refine blk_drewN ?_ _ | refine blk_drew ?_ | refine blk_alloc ?_ _)); exact BK188.out) hb); replace BK194 := Aside0.mk (blk_below (g := gb194) (o := .cells #[.slice Ao66 t189.length co66, .int .i64 t192] 24 (0, 0)) (by (with_reducible repeat (first | refine blk_drewN ?_ _ | refine blk_drew ?_ | refine blk_alloc ?_ _)); refine blk_far ?_ NB194_227.out _; (with_reducible repeat (first | refine blk_drewN ?_ _ | refine blk_drew ?_ | refine blk_alloc ?_ _)); refine blk_far ?_ NB194_227.out _; (with_reducible repeat (first | refine blk_drewN ?_ _ | refine blk_drew ?_ | refine blk_alloc ?_ _)); exact BK194.out) hb); replace BK227 := Aside0.mk (blk_below (g := gb227) (o := .cells #[.slice Ao192 t222.length co192, .int .i64 t225] 24 (0, 0)) (by (with_reducible repeat (first | refine blk_drewN ?_ _ | refine blk_drew ?_ | refine blk_alloc ?_ _)); refine blk_put (cs := #[.slice Ao192 t222.length co192, .int .i64 0]) ?_ 1 _ rfl; (with_reducible repeat (first | refine blk_drewN ?_ _ | refine blk_drew ?_ | refine blk_alloc ?_ _)); refine blk_put (cs := #[.slice none 0 0, .int .i64 0]) ?_ 0 _ rfl; (with_reducible repeat (first | refine blk_drewN ?_ _ | refine blk_drew ?_ | refine blk_alloc ?_ _)); exact BK227.out) hb); replace HB := xws_ HB hb; (try clear hb); (try clear hb2); (try clear hk); (try clear hi)))
               go_meet
               case rel => exact ⟨_, (true), (by first | rfl | (simp; done) | (simp [*]; done)), H', ⟨by have := HJ24.out; have := HJ107.out; first | omega | exact Nat.le_refl _⟩, ⟨by (try simp only [hl184000_107]); (try simp only [hl189000_107]); (with_reducible repeat (first | apply Kd.R_alloc | apply Kd.R_drewN | apply Kd.R_drew)); exact Kd.R_mono HO_179000.out (fun _ hk => ⟨hk.2.2.2.1, ⟨hk.2.2.2.2.1, ⟨hk.2.2.2.2.2, hk.2.2.1⟩⟩⟩)⟩, ⟨by (try simp only [hl184000_107]); (try simp only [hl189000_107]); (with_reducible repeat (first | apply Kd.R_alloc | apply Kd.R_drewN | apply Kd.R_drew)); exact Kd.R_mono HO_184000.out (fun _ hk => ⟨hk.2.2.2.1, ⟨hk.2.2.2.2.1, ⟨hk.2.2.2.2.2, hk.2.2.1⟩⟩⟩)⟩, ⟨by (try simp only [hl184000_107]); (try simp only [hl189000_107]); (with_reducible repeat (first | apply Kd.R_alloc | apply Kd.R_drewN | apply Kd.R_drew)); exact Kd.R_mono HO_189000.out (fun _ hk => ⟨hk.2.2.2.1, ⟨hk.2.2.2.2.1, ⟨hk.2.2.2.2.2, hk.2.2.1⟩⟩⟩)⟩, ⟨by (try simp only [hl184000_107]); (try simp only [hl189000_107]); (with_reducible repeat (first | apply Kd.R_alloc | apply Kd.R_drewN | apply Kd.R_drew)); exact Kd.R_mono HO_195000.out (fun _ hk => ⟨hk.2.2.2.1, ⟨hk.2.2.2.2.1, ⟨hk.2.2.2.2.2, hk.2.2.1⟩⟩⟩)⟩, ⟨by (try simp only [hl184000_107]); (try simp only [hl189000_107]); (with_reducible repeat (first | apply Kd.R_alloc | apply Kd.R_drewN | apply Kd.R_drew)); exact Kd.R_mono HO224.out (fun _ hk => ⟨hk.2.2.1, ⟨hk.2.2.2.1, ⟨hk.2.2.2.2.1, hk.2.2.2.2.2⟩⟩⟩)⟩, ⟨by (try simp only [hl184000_107]); (try simp only [hl189000_107]); (with_reducible repeat (first | refine blk_drewN ?_ _ | refine blk_drew ?_ | refine blk_alloc ?_ _)); exact BK161.out⟩, ⟨by (try simp only [hl184000_107]); (try simp only [hl189000_107]); (with_reducible repeat (first | refine blk_drewN ?_ _ | refine blk_drew ?_ | refine blk_alloc ?_ _)); exact BK162.out⟩, ⟨by (try simp only [hl184000_107]); (try simp only [hl189000_107]); (with_reducible repeat (first | refine blk_drewN ?_ _ | refine blk_drew ?_ | refine blk_alloc ?_ _)); exact BK178.out⟩, ⟨by (try simp only [hl184000_107]); (try simp only [hl189000_107]); (with_reducible repeat (first | refine blk_drewN ?_ _ | refine blk_drew ?_ | refine blk_alloc ?_ _)); exact BK183.out⟩, ⟨by (try simp only [hl184000_107]); (try simp only [hl189000_107]); (with_reducible repeat (first | refine blk_drewN ?_ _ | refine blk_drew ?_ | refine blk_alloc ?_ _)); exact BK188.out⟩, ⟨by (try simp only [hl184000_107]); (try simp only [hl189000_107]); (with_reducible repeat (first | refine blk_drewN ?_ _ | refine blk_drew ?_ | refine blk_alloc ?_ _)); exact BK194.out⟩, ⟨by (try simp only [hl184000_107]); (try simp only [hl189000_107]); (with_reducible repeat (first | refine blk_drewN ?_ _ | refine blk_drew ?_ | refine blk_alloc ?_ _)); exact BK227.out⟩, ⟨xw_ HB⟩⟩
             case rest =>
              clear HC174
              try clear c1
              try clear c2
              try clear p2
              try clear c3
              try clear c13
              try clear c19
              try clear c20
              try clear c21
              try clear c22
              try clear c23
              try clear c30
              try clear c196
              try clear c197
              try clear c198
              try clear c199
              try clear c200
              try clear c201
              try clear c202
              try clear c204
              try clear c205
              try clear c206
              try clear c207
              try clear c208
              try clear c211
              try clear c212
              try clear c213
              try clear c214
              try clear c215
              try clear c216
              try clear c218
              try clear c219
              try clear c220
              try clear c221
              try clear c222
              try clear hcz203_0
              try clear hcz203_1
              try clear hcz209_0
              try clear hcz209_1
              try clear hcz217_0
              try clear hcz217_1
              try clear hcz223_0
              try clear hcz223_1
              try clear hfz203_0
              try clear hfz203_1
              try clear hfz209_0
              try clear hfz209_1
              try clear hfz217_0
              try clear hfz217_1
              try clear hfz223_0
              try clear hfz223_1
              obtain ⟨kq, x110_173, rfl, HA, HJ173, HO_179000, HO_184000, HO_189000, HO_195000, HO_228000, BK161, BK162, BK178, BK183, BK188, BK194, BK227, HB⟩ := hcut
              have hl195000_173 := (Kd.R_reads' HO_195000.out).1
              rw [hl195000_173] at HO_195000
              (try simp only [hl195000_173])
              (try simp only [hl195000_173] at BK161)
              (try simp only [hl195000_173] at BK162)
              (try simp only [hl195000_173] at BK178)
              (try simp only [hl195000_173] at BK183)
              (try simp only [hl195000_173] at BK188)
              (try simp only [hl195000_173] at BK194)
              (try simp only [hl195000_173] at BK227)
              (try simp only [hl195000_173] at HO_179000)
              (try simp only [hl195000_173] at HO_184000)
              (try simp only [hl195000_173] at HO_189000)
              (try simp only [hl195000_173] at HO_228000)
              cases kq with
              | zero => exact absurd HA.out (by simp [laws_FnExactJoinSketches.j2])
              | succ kj173 =>
               have H := HA.out
               clear HA
               simp only [laws_FnExactJoinSketches.j2] at H
               by_cases c225 : x110_173 = true
               ·subst c225
                have H1 : (some false) = some r := by rw [if_pos rfl] at H; exact H
                clear H
                have H := H1
                clear H1
                obtain rfl := Option.some.inj H
                go_wp2
                go_ret
                exact ⟨by first | rfl | (simp [errW_none, errW_some] <;> rfl) | (simp [*, errW_none, errW_some] <;> rfl), xw_ HB⟩
               ·replace c225 := Bool.eq_false_iff.mpr c225
                subst c225
                have H1 : ((laws_heldSketch.f kj173 t212 t192 1).bind fun t229 => (if t229 < 0 then (some false) else (if t229 = t211 then (some true) else (some false)))) = some r := by rw [if_neg (show ¬ (false = true) by decide)] at H; exact H
                clear H
                have H := H1
                clear H1
                replace H := Option.bind_eq_some_iff.mp H
                obtain ⟨t229, A2260, H⟩ := H
                replace H : (if t229 < 0 then (some false) else (if t229 = t211 then (some true) else (some false))) = some r := H
                have A226 := Aside0.mk A2260
                clear A2260
                by_cases c227 : t229 < 0
                ·rw [if_pos c227] at H
                 have c227b0 : decide (t229 < 0) = true := decide_eq_true c227
                 clear c227
                 obtain rfl := Option.some.inj H
                 have hnb228 := NB194_161.out
                 have hnc228 := NB161_194.out
                 have hnb229 := NB194_162.out
                 have hnc229 := NB162_194.out
                 have hnb230 := NB194_178.out
                 have hnc230 := NB178_194.out
                 have hnb231 := NB194_183.out
                 have hnc231 := NB183_194.out
                 have hnb232 := NB194_188.out
                 have hnc232 := NB188_194.out
                 have hnb233 := NB194_227.out
                 have hnc233 := NB227_194.out
                 have hcz234_0 : wc.cell? ⟨gb194, 0, none⟩ = some (.slice Ao66 t212.length co66) := xk_ BK194 0
                 have hcz234_1 : wc.cell? ⟨gb194, 1, none⟩ = some (.int .i64 t192) := xk_ BK194 1
                 have hfz234_0 := blk_frozen BK194.out 0
                 have hfz234_1 := blk_frozen BK194.out 1
                 go_wp2_with (first | ((with_reducible refine gate_callee (f := 15) rfl ?_); refine xgl_ (some 113) Try.func15 #[.agg #[.slice Ao66 t212.length co66, .int .i64 t192], .int .i64 1] ?_; (with_reducible refine (laws_heldSketch.calls kj173 _ _ t212 t192 1 t229 _ ?side1 ?side2 A226.out).mono ?_); (case side1 => exact xc_ ((Kd.R_reads' HO_195000.out).2.2)); (case side2 => exact (Kd.R_reads' HO_195000.out).2.1); rintro e w235 ⟨rfl, hb⟩; refine ⟨_, rfl, ?_⟩; replace HO_179000 := xrb_ HO_179000 hb; replace HO_184000 := xrb_ HO_184000 hb; replace HO_189000 := xrb_ HO_189000 hb; replace HO_195000 := xrb_ HO_195000 hb; replace HO_228000 := xrb_ HO_228000 hb; replace BK161 := xbb_ BK161 hb; replace BK162 := xbb_ BK162 hb; replace BK178 := xbb_ BK178 hb; replace BK183 := xbb_ BK183 hb; replace BK188 := xbb_ BK188 hb; replace BK194 := xbb_ BK194 hb; replace BK227 := xbb_ BK227 hb; replace HB := xws_ HB hb; (try clear hb); (try clear hb2); (try clear hk); (try clear hi)))
                 go_ret
                 exact ⟨by first | rfl | (simp [errW_none, errW_some] <;> rfl) | (simp [*, errW_none, errW_some] <;> rfl), xw_ HB⟩
                ·rw [if_neg c227] at H
                 have c227b0 : decide (t229 < 0) = false := decide_eq_false c227
                 clear c227
                 by_cases c236 : t229 = t211
                 ·rw [if_pos c236] at H
                  have c236b0 : (t229 == t211) = true := beq_iff_eq.mpr c236
                  have c236b1 : (t229 != t211) = false := bne_eq_false_iff_eq.mpr c236
                  clear c236
                  obtain rfl := Option.some.inj H
                  have hnb237 := NB194_161.out
                  have hnc237 := NB161_194.out
                  have hnb238 := NB194_162.out
                  have hnc238 := NB162_194.out
                  have hnb239 := NB194_178.out
                  have hnc239 := NB178_194.out
                  have hnb240 := NB194_183.out
                  have hnc240 := NB183_194.out
                  have hnb241 := NB194_188.out
                  have hnc241 := NB188_194.out
                  have hnb242 := NB194_227.out
                  have hnc242 := NB227_194.out
                  have hcz243_0 : wc.cell? ⟨gb194, 0, none⟩ = some (.slice Ao66 t212.length co66) := xk_ BK194 0
                  have hcz243_1 : wc.cell? ⟨gb194, 1, none⟩ = some (.int .i64 t192) := xk_ BK194 1
                  have hfz243_0 := blk_frozen BK194.out 0
                  have hfz243_1 := blk_frozen BK194.out 1
                  go_wp2_with (first | ((with_reducible refine gate_callee (f := 15) rfl ?_); refine xgl_ (some 113) Try.func15 #[.agg #[.slice Ao66 t212.length co66, .int .i64 t192], .int .i64 1] ?_; (with_reducible refine (laws_heldSketch.calls kj173 _ _ t212 t192 1 t229 _ ?side1 ?side2 A226.out).mono ?_); (case side1 => exact xc_ ((Kd.R_reads' HO_195000.out).2.2)); (case side2 => exact (Kd.R_reads' HO_195000.out).2.1); rintro e w244 ⟨rfl, hb⟩; refine ⟨_, rfl, ?_⟩; replace HO_179000 := xrb_ HO_179000 hb; replace HO_184000 := xrb_ HO_184000 hb; replace HO_189000 := xrb_ HO_189000 hb; replace HO_195000 := xrb_ HO_195000 hb; replace HO_228000 := xrb_ HO_228000 hb; replace BK161 := xbb_ BK161 hb; replace BK162 := xbb_ BK162 hb; replace BK178 := xbb_ BK178 hb; replace BK183 := xbb_ BK183 hb; replace BK188 := xbb_ BK188 hb; replace BK194 := xbb_ BK194 hb; replace BK227 := xbb_ BK227 hb; replace HB := xws_ HB hb; (try clear hb); (try clear hb2); (try clear hk); (try clear hi)))
                  go_ret
                  exact ⟨by first | rfl | (simp [errW_none, errW_some] <;> rfl) | (simp [*, errW_none, errW_some] <;> rfl), xw_ HB⟩
                 ·rw [if_neg c236] at H
                  have c236b0 : (t229 == t211) = false := beq_eq_false_iff_ne.mpr c236
                  have c236b1 : (t229 != t211) = true := bne_iff_ne.mpr c236
                  obtain rfl := Option.some.inj H
                  have hnb245 := NB194_161.out
                  have hnc245 := NB161_194.out
                  have hnb246 := NB194_162.out
                  have hnc246 := NB162_194.out
                  have hnb247 := NB194_178.out
                  have hnc247 := NB178_194.out
                  have hnb248 := NB194_183.out
                  have hnc248 := NB183_194.out
                  have hnb249 := NB194_188.out
                  have hnc249 := NB188_194.out
                  have hnb250 := NB194_227.out
                  have hnc250 := NB227_194.out
                  have hcz251_0 : wc.cell? ⟨gb194, 0, none⟩ = some (.slice Ao66 t212.length co66) := xk_ BK194 0
                  have hcz251_1 : wc.cell? ⟨gb194, 1, none⟩ = some (.int .i64 t192) := xk_ BK194 1
                  have hfz251_0 := blk_frozen BK194.out 0
                  have hfz251_1 := blk_frozen BK194.out 1
                  go_wp2_with (first | ((with_reducible refine gate_callee (f := 15) rfl ?_); refine xgl_ (some 113) Try.func15 #[.agg #[.slice Ao66 t212.length co66, .int .i64 t192], .int .i64 1] ?_; (with_reducible refine (laws_heldSketch.calls kj173 _ _ t212 t192 1 t229 _ ?side1 ?side2 A226.out).mono ?_); (case side1 => exact xc_ ((Kd.R_reads' HO_195000.out).2.2)); (case side2 => exact (Kd.R_reads' HO_195000.out).2.1); rintro e w252 ⟨rfl, hb⟩; refine ⟨_, rfl, ?_⟩; replace HO_179000 := xrb_ HO_179000 hb; replace HO_184000 := xrb_ HO_184000 hb; replace HO_189000 := xrb_ HO_189000 hb; replace HO_195000 := xrb_ HO_195000 hb; replace HO_228000 := xrb_ HO_228000 hb; replace BK161 := xbb_ BK161 hb; replace BK162 := xbb_ BK162 hb; replace BK178 := xbb_ BK178 hb; replace BK183 := xbb_ BK183 hb; replace BK188 := xbb_ BK188 hb; replace BK194 := xbb_ BK194 hb; replace BK227 := xbb_ BK227 hb; replace HB := xws_ HB hb; (try clear hb); (try clear hb2); (try clear hk); (try clear hi)))
                  go_ret
                  exact ⟨by first | rfl | (simp [errW_none, errW_some] <;> rfl) | (simp [*, errW_none, errW_some] <;> rfl), xw_ HB⟩
            ·rw [if_neg c170] at H
             have c170b0 : (t213 == t211) = false := beq_eq_false_iff_ne.mpr c170
             have c170b1 : (t213 != t211) = true := bne_iff_ne.mpr c170
             obtain rfl := Option.some.inj H
             have hnb253 := NB194_161.out
             have hnc253 := NB161_194.out
             have hnb254 := NB194_162.out
             have hnc254 := NB162_194.out
             have hnb255 := NB194_178.out
             have hnc255 := NB178_194.out
             have hnb256 := NB194_183.out
             have hnc256 := NB183_194.out
             have hnb257 := NB194_188.out
             have hnc257 := NB188_194.out
             have hcz258_0 : wc.cell? ⟨gb194, 0, none⟩ = some (.slice Ao66 t189.length co66) := xk_ BK194 0
             have hcz258_1 : wc.cell? ⟨gb194, 1, none⟩ = some (.int .i64 t192) := xk_ BK194 1
             have hfz258_0 := blk_frozen BK194.out 0
             have hfz258_1 := blk_frozen BK194.out 1
             go_wp2_with (first | ((with_reducible refine gate_callee (f := 14) rfl ?_); refine xgl_ (some 85) Try.func14 #[.agg #[.slice Ao66 t189.length co66, .int .i64 t192], .int .i64 1] ?_; (with_reducible refine (laws_markSketch.calls kj107 (fun k_ => some k_ = (.slice Ao66 t189.length co66 : Value).ownBlock) (.slice Ao66 t189.length co66) t189 t192 1 t211 t212 w _ ?side1 ?side2 A158.out).mono ?_); (case side1 => repeat (first | (with_reducible first | exact HB.out | apply below_alloc | apply pw_below_drewN | apply below_drew1 | refine below_set ?_ GE161.out | refine below_set ?_ GE162.out | refine below_set ?_ GE178.out | refine below_set ?_ GE183.out | refine below_set ?_ GE188.out | refine below_set ?_ GE194.out) | exact HB.out)); (case side2 => exact Kd.R_tight rfl HO_195000.out); rintro e w259 ⟨rfl, hy0, hb, hkp⟩; refine ⟨_, rfl, ?_⟩; replace HO_179000 := Aside0.mk (Kd.R_mono (ok' := fun k_ => some k_ ≠ (.slice Ao48 t207.length co48 : Value).ownBlock ∧ some k_ ≠ (.slice Ao57 t209.length co57 : Value).ownBlock ∧ some k_ ≠ (.slice Ao66 t189.length co66 : Value).ownBlock) (Kd.R_keptB (HO_179000.out) hkp (fun k_ hk_ hs_ => (hk_.2.2) hs_)) (fun k_ hk_ => ⟨hk_.1.1, hk_.1.2.1, hk_.1.2.2⟩)); replace HO_184000 := Aside0.mk (Kd.R_mono (ok' := fun k_ => some k_ ≠ (.slice Ao41 t173.length co41 : Value).ownBlock ∧ some k_ ≠ (.slice Ao57 t209.length co57 : Value).ownBlock ∧ some k_ ≠ (.slice Ao66 t189.length co66 : Value).ownBlock) (Kd.R_keptB (HO_184000.out) hkp (fun k_ hk_ hs_ => (hk_.2.2) hs_)) (fun k_ hk_ => ⟨hk_.1.1, hk_.1.2.1, hk_.1.2.2⟩)); replace HO_189000 := Aside0.mk (Kd.R_mono (ok' := fun k_ => some k_ ≠ (.slice Ao41 t173.length co41 : Value).ownBlock ∧ some k_ ≠ (.slice Ao48 t207.length co48 : Value).ownBlock ∧ some k_ ≠ (.slice Ao66 t189.length co66 : Value).ownBlock) (Kd.R_keptB (HO_189000.out) hkp (fun k_ hk_ hs_ => (hk_.2.2) hs_)) (fun k_ hk_ => ⟨hk_.1.1, hk_.1.2.1, hk_.1.2.2⟩)); replace BK161 := Aside0.mk (blk_kept (xb_ BK161) hkp (fun hs_ => (fun e_ => (Kd.R_ne HO_195000.out BK161.out (by decide)) e_) hs_)); replace BK162 := Aside0.mk (blk_kept (xb_ BK162) hkp (fun hs_ => (fun e_ => (Kd.R_ne HO_195000.out BK162.out (by decide)) e_) hs_)); replace BK178 := Aside0.mk (blk_kept (xb_ BK178) hkp (fun hs_ => (fun e_ => (Kd.R_ne HO_195000.out BK178.out (by decide)) e_) hs_)); replace BK183 := Aside0.mk (blk_kept (xb_ BK183) hkp (fun hs_ => (fun e_ => (Kd.R_ne HO_195000.out BK183.out (by decide)) e_) hs_)); replace BK188 := Aside0.mk (blk_kept (xb_ BK188) hkp (fun hs_ => (fun e_ => (Kd.R_ne HO_195000.out BK188.out (by decide)) e_) hs_)); replace BK194 := Aside0.mk (blk_kept (xb_ BK194) hkp (fun hs_ => (fun e_ => (Kd.R_ne HO_195000.out BK194.out (by decide)) e_) hs_)); replace HO_195000 := Aside0.mk (Kd.R_reok rfl hy0 (fun k_ e_ => HO_195000.out.1 k_ e_)); replace HB := Aside0.mk (hb); (try clear hb); (try clear hkp); (try clear hy0); have hcz260_0 : w259.cell? ⟨gb194, 0, none⟩ = some (.slice Ao66 t189.length co66) := xk_ BK194 0; have hcz260_1 : w259.cell? ⟨gb194, 1, none⟩ = some (.int .i64 t192) := xk_ BK194 1; have hfz260_0 := blk_frozen BK194.out 0; have hfz260_1 := blk_frozen BK194.out 1) | ((with_reducible refine gate_callee (f := 15) rfl ?_); refine goesL_ (some 88) rfl rfl Try.func15 (by kernel_rfl) rfl #[.agg #[.slice Ao66 t212.length co66, .int .i64 t192], .int .i64 1] rfl (by (try simp only [List.map_toArray, List.map_cons, List.map_nil]); first | done | (rw [show t212.length = t189.length from (Kd.R_reads' HO_195000.out).1.symm] <;> rfl) | rfl | (simp only [List.length_drop, List.length_take]; rfl)) ?_; (with_reducible refine (laws_heldSketch.calls kj107 _ _ t212 t192 1 t213 _ ?side1 ?side2 A159.out).mono ?_); (case side1 => exact xc_ ((Kd.R_reads' HO_195000.out).2.2)); (case side2 => rw [show t212.length = t189.length from (Kd.R_reads' HO_195000.out).1.symm]; exact (Kd.R_reads' HO_195000.out).2.1); rintro e w261 ⟨rfl, hb⟩; refine ⟨_, rfl, ?_⟩; replace HO_179000 := xrb_ HO_179000 hb; replace HO_184000 := xrb_ HO_184000 hb; replace HO_189000 := xrb_ HO_189000 hb; replace HO_195000 := xrb_ HO_195000 hb; replace BK161 := xbb_ BK161 hb; replace BK162 := xbb_ BK162 hb; replace BK178 := xbb_ BK178 hb; replace BK183 := xbb_ BK183 hb; replace BK188 := xbb_ BK188 hb; replace BK194 := xbb_ BK194 hb; replace HB := xws_ HB hb; (try clear hb); (try clear hb2); (try clear hk); (try clear hi)))
             go_ret
             exact ⟨by first | rfl | (simp [errW_none, errW_some] <;> rfl) | (simp [*, errW_none, errW_some] <;> rfl), xw_ HB⟩
       ·replace c105 := Bool.eq_false_iff.mpr c105
        subst c105
        have H1 : (some false) = some r := by rw [if_neg (show ¬ (false = true) by decide)] at H; exact H
        clear H
        have H := H1
        clear H1
        obtain rfl := Option.some.inj H
        try go_wp2
        replace HO_179000 := Aside0.mk (Kd.R_drew HO_179000.out)
        replace HO_184000 := Aside0.mk (Kd.R_drew HO_184000.out)
        replace HO_189000 := Aside0.mk (Kd.R_drew HO_189000.out)
        replace HO_195000 := Aside0.mk (Kd.R_drew HO_195000.out)
        replace BK161 := Aside0.mk (blk_drew BK161.out)
        replace BK162 := Aside0.mk (blk_drew BK162.out)
        replace BK178 := Aside0.mk (blk_drew BK178.out)
        replace BK183 := Aside0.mk (blk_drew BK183.out)
        replace BK188 := Aside0.mk (blk_drew BK188.out)
        replace BK194 := Aside0.mk (blk_drew BK194.out)
        replace HB := Aside0.mk (below_drew1 HB.out)
        refine start_ (n := 5) (S := fun w' => w'.cell? ⟨gb183, 0, none⟩ = some (.slice Ao48 t179.length co48) ∧ w'.cell? ⟨gb183, 1, none⟩ = some (.int .i64 t182) ∧ w'.cell? ⟨gb161, 0, none⟩ = some (.slice A0_0 l0_0.length c0_0) ∧ w'.cell? ⟨gb161, 1, none⟩ = some (.int .i64 a0_1)) (ds := []) #[false, false, false, false, false] (by kernel_rfl) rfl rfl ⟨xk_ BK183 0, xk_ BK183 1, xk_ BK161 0, xk_ BK161 1⟩ (fun hHeld => ?_)
        generalize wc.drew = w262 at HO_179000 HO_184000 HO_189000 HO_195000 BK161 BK162 BK178 BK183 BK188 BK194 HB hHeld ⊢
        refine take_ (i := 0) (N := some 54) (v := ?_) (a' := ?_) #[true, false, false, false, false] rfl rfl (by kernel_rfl) (fun _ _ _ h => h) (Or.inl ⟨by rfl, ?_⟩) hHeld ?_ ?_
        rotate_left
        ·rintro w' ⟨s0, s1, s2, s3⟩
         go_simp
         with_reducible rfl
        rotate_left
        ·simp only [Act.put, List.setIfInBounds_toArray, List.set_cons_zero, List.set_cons_succ, i64_w, i32_w]
         rfl
        refine take_ (i := 1) (N := some 55) (v := ?_) (a' := ?_) #[true, true, false, false, false] rfl rfl (by kernel_rfl) (fun _ _ _ h => h) (Or.inl ⟨by rfl, ?_⟩) hHeld ?_ ?_
        rotate_left
        ·rintro w' ⟨s0, s1, s2, s3⟩
         go_simp
         with_reducible rfl
        rotate_left
        ·simp only [Act.put, List.setIfInBounds_toArray, List.set_cons_zero, List.set_cons_succ, i64_w, i32_w]
         rfl
        refine one_ (i := 2) (N := some 56) #[true, true, true, false, false] rfl rfl (by kernel_rfl) (by decide) (fun K hK => ?_)
        refine xgo_ Try.func23 #[.agg #[.slice A0_0 l0_0.length c0_0, .int .i64 a0_1]] ?_
        with_reducible refine (laws_toSketch.calls kj24 _ _ l0_0 a0_1 t196 t199 _ ?side1 ?side2 A100.out).mono ?_
        (case side1 => exact xc_ ((Kd.C_below HR0_0.out HB.out)))
        (case side2 => exact HC0_0.out)
        rintro e w263 ⟨v197, rfl, ho0, hb⟩
        refine ⟨_, rfl, ?_⟩
        have HO198 := Aside0.mk (Kd.R_lower (Kd.R_new' (Kd.R_new' (Kd.R_new' (Kd.R_new' ho0 (Kd.R_lt (xr_ HO_179000))) (Kd.R_lt (xr_ HO_184000))) (Kd.R_lt (xr_ HO_189000))) (Kd.R_lt (xr_ HO_195000))) (below_size (xw_ HB)))
        replace HO_179000 := xre_ HO_179000 ho0 hb
        replace HO_184000 := xre_ HO_184000 ho0 hb
        replace HO_189000 := xre_ HO_189000 ho0 hb
        replace HO_195000 := xre_ HO_195000 ho0 hb
        replace BK161 := xbb_ BK161 hb
        replace BK162 := xbb_ BK162 hb
        replace BK178 := xbb_ BK178 hb
        replace BK183 := xbb_ BK183 hb
        replace BK188 := xbb_ BK188 hb
        replace BK194 := xbb_ BK194 hb
        replace HB := xws_ HB hb
        (try clear hb)
        (try clear hb2)
        (try clear hk)
        (try clear hi)
        (try clear ho0)
        obtain ⟨Ao264, co264, eo264⟩ := Kd.R_slice HO198.out
        (first | subst eo264 | (injection eo264 with f1_ f2_ f3_; have f4_ := f1_.symm; have f5_ := f3_.symm; clear f1_ f2_ f3_; subst f4_; subst f5_))
        refine hK.out _ _ ⟨xk_ BK183 0, xk_ BK183 1, xk_ BK161 0, xk_ BK161 1⟩ (fun hHeld => ?_)
        clear hK K
        refine norm_ (a' := ?_) ?_ ?_
        rotate_left
        ·show Act.put _ (some 56) _ = _
         simp only [Act.put, List.setIfInBounds_toArray, List.set_cons_zero, List.set_cons_succ, i64_w, i32_w]
         rfl
        refine one_ (i := 3) (N := some 57) #[true, true, true, true, false] rfl rfl (by kernel_rfl) (by decide) (fun K hK => ?_)
        refine xgo_ Try.func13 #[.agg #[.slice Ao48 t179.length co48, .int .i64 t182], .agg #[.slice Ao264 t196.length co264, .int .i64 t199]] ?_
        with_reducible refine (laws_eqSketch.calls kj24 _ _ t179 t182 _ _ t196 t199 true _ ?side1 ?side2 ?side3 ?side4 A101.out).mono ?_
        (case side1 => exact xc_ ((Kd.R_reads' HO_184000.out).2.2))
        (case side2 => exact (Kd.R_reads' HO_184000.out).2.1)
        (case side3 => exact xc_ ((Kd.R_reads' HO198.out).2.2))
        (case side4 => exact (Kd.R_reads' HO198.out).2.1)
        rintro e w265 ⟨rfl, hb⟩
        refine ⟨_, rfl, ?_⟩
        replace HO_179000 := xrb_ HO_179000 hb
        replace HO_184000 := xrb_ HO_184000 hb
        replace HO_189000 := xrb_ HO_189000 hb
        replace HO_195000 := xrb_ HO_195000 hb
        replace HO198 := xrb_ HO198 hb
        replace BK161 := xbb_ BK161 hb
        replace BK162 := xbb_ BK162 hb
        replace BK178 := xbb_ BK178 hb
        replace BK183 := xbb_ BK183 hb
        replace BK188 := xbb_ BK188 hb
        replace BK194 := xbb_ BK194 hb
        replace HB := xws_ HB hb
        (try clear hb)
        (try clear hb2)
        (try clear hk)
        (try clear hi)
        refine hK.out _ _ ⟨xk_ BK183 0, xk_ BK183 1, xk_ BK161 0, xk_ BK161 1⟩ (fun hHeld => ?_)
        clear hK K
        refine norm_ (a' := ?_) ?_ ?_
        rotate_left
        ·show Act.put _ (some 57) _ = _
         simp only [Act.put, List.setIfInBounds_toArray, List.set_cons_zero, List.set_cons_succ, i64_w, i32_w]
         rfl
        refine pure_ (i := 4) (N := some 58) (v := ?_) (a' := ?_) #[true, true, true, true, true] rfl rfl (by kernel_rfl) (fun _ _ _ h => h) (Or.inl ⟨by rfl, ?_⟩) ?_ ?_
        rotate_left
        ·intro w'
         go_simp
         with_reducible rfl
        rotate_left
        ·simp only [Act.put, List.setIfInBounds_toArray, List.set_cons_zero, List.set_cons_succ, i64_w, i32_w]
         rfl
        refine done_ (by kernel_rfl) ?_
        try go_wp2
        replace HO_179000 := Aside0.mk (Kd.R_drew HO_179000.out)
        replace HO_184000 := Aside0.mk (Kd.R_drew HO_184000.out)
        replace HO_189000 := Aside0.mk (Kd.R_drew HO_189000.out)
        replace HO_195000 := Aside0.mk (Kd.R_drew HO_195000.out)
        replace HO198 := Aside0.mk (Kd.R_drew HO198.out)
        replace BK161 := Aside0.mk (blk_drew BK161.out)
        replace BK162 := Aside0.mk (blk_drew BK162.out)
        replace BK178 := Aside0.mk (blk_drew BK178.out)
        replace BK183 := Aside0.mk (blk_drew BK183.out)
        replace BK188 := Aside0.mk (blk_drew BK188.out)
        replace BK194 := Aside0.mk (blk_drew BK194.out)
        replace HB := Aside0.mk (below_drew1 HB.out)
        refine start_ (n := 5) (S := fun w' => w'.cell? ⟨gb188, 0, none⟩ = some (.slice Ao57 t184.length co57) ∧ w'.cell? ⟨gb188, 1, none⟩ = some (.int .i64 t187) ∧ w'.cell? ⟨gb162, 0, none⟩ = some (.slice A1_0 l1_0.length c1_0) ∧ w'.cell? ⟨gb162, 1, none⟩ = some (.int .i64 a1_1)) (ds := []) #[false, false, false, false, false] (by kernel_rfl) rfl rfl ⟨xk_ BK188 0, xk_ BK188 1, xk_ BK162 0, xk_ BK162 1⟩ (fun hHeld => ?_)
        generalize w265.drew = w266 at HO_179000 HO_184000 HO_189000 HO_195000 HO198 BK161 BK162 BK178 BK183 BK188 BK194 HB hHeld ⊢
        refine take_ (i := 0) (N := some 59) (v := ?_) (a' := ?_) #[true, false, false, false, false] rfl rfl (by kernel_rfl) (fun _ _ _ h => h) (Or.inl ⟨by rfl, ?_⟩) hHeld ?_ ?_
        rotate_left
        ·rintro w' ⟨s0, s1, s2, s3⟩
         go_simp
         with_reducible rfl
        rotate_left
        ·simp only [Act.put, List.setIfInBounds_toArray, List.set_cons_zero, List.set_cons_succ, i64_w, i32_w]
         rfl
        refine take_ (i := 1) (N := some 60) (v := ?_) (a' := ?_) #[true, true, false, false, false] rfl rfl (by kernel_rfl) (fun _ _ _ h => h) (Or.inl ⟨by rfl, ?_⟩) hHeld ?_ ?_
        rotate_left
        ·rintro w' ⟨s0, s1, s2, s3⟩
         go_simp
         with_reducible rfl
        rotate_left
        ·simp only [Act.put, List.setIfInBounds_toArray, List.set_cons_zero, List.set_cons_succ, i64_w, i32_w]
         rfl
        refine one_ (i := 2) (N := some 61) #[true, true, true, false, false] rfl rfl (by kernel_rfl) (by decide) (fun K hK => ?_)
        refine xgo_ Try.func23 #[.agg #[.slice A1_0 l1_0.length c1_0, .int .i64 a1_1]] ?_
        with_reducible refine (laws_toSketch.calls kj24 _ _ l1_0 a1_1 t201 t204 _ ?side1 ?side2 A103.out).mono ?_
        (case side1 => exact xc_ ((Kd.C_below HR1_0.out HB.out)))
        (case side2 => exact HC1_0.out)
        rintro e w267 ⟨v202, rfl, ho0, hb⟩
        refine ⟨_, rfl, ?_⟩
        have HO203 := Aside0.mk (Kd.R_lower (Kd.R_new' (Kd.R_new' (Kd.R_new' (Kd.R_new' (Kd.R_new' ho0 (Kd.R_lt (xr_ HO_179000))) (Kd.R_lt (xr_ HO_184000))) (Kd.R_lt (xr_ HO_189000))) (Kd.R_lt (xr_ HO_195000))) (Kd.R_lt (xr_ HO198))) (below_size (xw_ HB)))
        replace HO_179000 := xre_ HO_179000 ho0 hb
        replace HO_184000 := xre_ HO_184000 ho0 hb
        replace HO_189000 := xre_ HO_189000 ho0 hb
        replace HO_195000 := xre_ HO_195000 ho0 hb
        replace HO198 := xre_ HO198 ho0 hb
        replace BK161 := xbb_ BK161 hb
        replace BK162 := xbb_ BK162 hb
        replace BK178 := xbb_ BK178 hb
        replace BK183 := xbb_ BK183 hb
        replace BK188 := xbb_ BK188 hb
        replace BK194 := xbb_ BK194 hb
        replace HB := xws_ HB hb
        (try clear hb)
        (try clear hb2)
        (try clear hk)
        (try clear hi)
        (try clear ho0)
        obtain ⟨Ao268, co268, eo268⟩ := Kd.R_slice HO203.out
        (first | subst eo268 | (injection eo268 with f1_ f2_ f3_; have f4_ := f1_.symm; have f5_ := f3_.symm; clear f1_ f2_ f3_; subst f4_; subst f5_))
        refine hK.out _ _ ⟨xk_ BK188 0, xk_ BK188 1, xk_ BK162 0, xk_ BK162 1⟩ (fun hHeld => ?_)
        clear hK K
        refine norm_ (a' := ?_) ?_ ?_
        rotate_left
        ·show Act.put _ (some 61) _ = _
         simp only [Act.put, List.setIfInBounds_toArray, List.set_cons_zero, List.set_cons_succ, i64_w, i32_w]
         rfl
        refine one_ (i := 3) (N := some 62) #[true, true, true, true, false] rfl rfl (by kernel_rfl) (by decide) (fun K hK => ?_)
        refine xgo_ Try.func13 #[.agg #[.slice Ao57 t184.length co57, .int .i64 t187], .agg #[.slice Ao268 t201.length co268, .int .i64 t204]] ?_
        with_reducible refine (laws_eqSketch.calls kj24 _ _ t184 t187 _ _ t201 t204 false _ ?side1 ?side2 ?side3 ?side4 A104.out).mono ?_
        (case side1 => exact xc_ ((Kd.R_reads' HO_189000.out).2.2))
        (case side2 => exact (Kd.R_reads' HO_189000.out).2.1)
        (case side3 => exact xc_ ((Kd.R_reads' HO203.out).2.2))
        (case side4 => exact (Kd.R_reads' HO203.out).2.1)
        rintro e w269 ⟨rfl, hb⟩
        refine ⟨_, rfl, ?_⟩
        replace HO_179000 := xrb_ HO_179000 hb
        replace HO_184000 := xrb_ HO_184000 hb
        replace HO_189000 := xrb_ HO_189000 hb
        replace HO_195000 := xrb_ HO_195000 hb
        replace HO198 := xrb_ HO198 hb
        replace HO203 := xrb_ HO203 hb
        replace BK161 := xbb_ BK161 hb
        replace BK162 := xbb_ BK162 hb
        replace BK178 := xbb_ BK178 hb
        replace BK183 := xbb_ BK183 hb
        replace BK188 := xbb_ BK188 hb
        replace BK194 := xbb_ BK194 hb
        replace HB := xws_ HB hb
        (try clear hb)
        (try clear hb2)
        (try clear hk)
        (try clear hi)
        refine hK.out _ _ ⟨xk_ BK188 0, xk_ BK188 1, xk_ BK162 0, xk_ BK162 1⟩ (fun hHeld => ?_)
        clear hK K
        refine norm_ (a' := ?_) ?_ ?_
        rotate_left
        ·show Act.put _ (some 62) _ = _
         simp only [Act.put, List.setIfInBounds_toArray, List.set_cons_zero, List.set_cons_succ, i64_w, i32_w]
         rfl
        refine pure_ (i := 4) (N := some 63) (v := ?_) (a' := ?_) #[true, true, true, true, true] rfl rfl (by kernel_rfl) (fun _ _ _ h => h) (Or.inl ⟨by rfl, ?_⟩) ?_ ?_
        rotate_left
        ·intro w'
         go_simp
         with_reducible rfl
        rotate_left
        ·simp only [Act.put, List.setIfInBounds_toArray, List.set_cons_zero, List.set_cons_succ, i64_w, i32_w]
         rfl
        refine done_ (by kernel_rfl) ?_
        try go_wp2
        go_ret
        exact ⟨by first | rfl | (simp [errW_none, errW_some] <;> rfl) | (simp [*, errW_none, errW_some] <;> rfl), xw_ HB⟩
      ·replace c102 := Bool.eq_false_iff.mpr c102
       subst c102
       have H1 : (some false) = some r := by rw [if_neg (show ¬ (false = true) by decide)] at H; exact H
       clear H
       have H := H1
       clear H1
       obtain rfl := Option.some.inj H
       try go_wp2
       replace HO_179000 := Aside0.mk (Kd.R_drew HO_179000.out)
       replace HO_184000 := Aside0.mk (Kd.R_drew HO_184000.out)
       replace HO_189000 := Aside0.mk (Kd.R_drew HO_189000.out)
       replace HO_195000 := Aside0.mk (Kd.R_drew HO_195000.out)
       replace BK161 := Aside0.mk (blk_drew BK161.out)
       replace BK162 := Aside0.mk (blk_drew BK162.out)
       replace BK178 := Aside0.mk (blk_drew BK178.out)
       replace BK183 := Aside0.mk (blk_drew BK183.out)
       replace BK188 := Aside0.mk (blk_drew BK188.out)
       replace BK194 := Aside0.mk (blk_drew BK194.out)
       replace HB := Aside0.mk (below_drew1 HB.out)
       refine start_ (n := 5) (S := fun w' => w'.cell? ⟨gb183, 0, none⟩ = some (.slice Ao48 t179.length co48) ∧ w'.cell? ⟨gb183, 1, none⟩ = some (.int .i64 t182) ∧ w'.cell? ⟨gb161, 0, none⟩ = some (.slice A0_0 l0_0.length c0_0) ∧ w'.cell? ⟨gb161, 1, none⟩ = some (.int .i64 a0_1)) (ds := []) #[false, false, false, false, false] (by kernel_rfl) rfl rfl ⟨xk_ BK183 0, xk_ BK183 1, xk_ BK161 0, xk_ BK161 1⟩ (fun hHeld => ?_)
       generalize wc.drew = w270 at HO_179000 HO_184000 HO_189000 HO_195000 BK161 BK162 BK178 BK183 BK188 BK194 HB hHeld ⊢
       refine take_ (i := 0) (N := some 54) (v := ?_) (a' := ?_) #[true, false, false, false, false] rfl rfl (by kernel_rfl) (fun _ _ _ h => h) (Or.inl ⟨by rfl, ?_⟩) hHeld ?_ ?_
       rotate_left
       ·rintro w' ⟨s0, s1, s2, s3⟩
        go_simp
        with_reducible rfl
       rotate_left
       ·simp only [Act.put, List.setIfInBounds_toArray, List.set_cons_zero, List.set_cons_succ, i64_w, i32_w]
        rfl
       refine take_ (i := 1) (N := some 55) (v := ?_) (a' := ?_) #[true, true, false, false, false] rfl rfl (by kernel_rfl) (fun _ _ _ h => h) (Or.inl ⟨by rfl, ?_⟩) hHeld ?_ ?_
       rotate_left
       ·rintro w' ⟨s0, s1, s2, s3⟩
        go_simp
        with_reducible rfl
       rotate_left
       ·simp only [Act.put, List.setIfInBounds_toArray, List.set_cons_zero, List.set_cons_succ, i64_w, i32_w]
        rfl
       refine one_ (i := 2) (N := some 56) #[true, true, true, false, false] rfl rfl (by kernel_rfl) (by decide) (fun K hK => ?_)
       refine xgo_ Try.func23 #[.agg #[.slice A0_0 l0_0.length c0_0, .int .i64 a0_1]] ?_
       with_reducible refine (laws_toSketch.calls kj24 _ _ l0_0 a0_1 t196 t199 _ ?side1 ?side2 A100.out).mono ?_
       (case side1 => exact xc_ ((Kd.C_below HR0_0.out HB.out)))
       (case side2 => exact HC0_0.out)
       rintro e w271 ⟨v197, rfl, ho0, hb⟩
       refine ⟨_, rfl, ?_⟩
       have HO198 := Aside0.mk (Kd.R_lower (Kd.R_new' (Kd.R_new' (Kd.R_new' (Kd.R_new' ho0 (Kd.R_lt (xr_ HO_179000))) (Kd.R_lt (xr_ HO_184000))) (Kd.R_lt (xr_ HO_189000))) (Kd.R_lt (xr_ HO_195000))) (below_size (xw_ HB)))
       replace HO_179000 := xre_ HO_179000 ho0 hb
       replace HO_184000 := xre_ HO_184000 ho0 hb
       replace HO_189000 := xre_ HO_189000 ho0 hb
       replace HO_195000 := xre_ HO_195000 ho0 hb
       replace BK161 := xbb_ BK161 hb
       replace BK162 := xbb_ BK162 hb
       replace BK178 := xbb_ BK178 hb
       replace BK183 := xbb_ BK183 hb
       replace BK188 := xbb_ BK188 hb
       replace BK194 := xbb_ BK194 hb
       replace HB := xws_ HB hb
       (try clear hb)
       (try clear hb2)
       (try clear hk)
       (try clear hi)
       (try clear ho0)
       obtain ⟨Ao272, co272, eo272⟩ := Kd.R_slice HO198.out
       (first | subst eo272 | (injection eo272 with f1_ f2_ f3_; have f4_ := f1_.symm; have f5_ := f3_.symm; clear f1_ f2_ f3_; subst f4_; subst f5_))
       refine hK.out _ _ ⟨xk_ BK183 0, xk_ BK183 1, xk_ BK161 0, xk_ BK161 1⟩ (fun hHeld => ?_)
       clear hK K
       refine norm_ (a' := ?_) ?_ ?_
       rotate_left
       ·show Act.put _ (some 56) _ = _
        simp only [Act.put, List.setIfInBounds_toArray, List.set_cons_zero, List.set_cons_succ, i64_w, i32_w]
        rfl
       refine one_ (i := 3) (N := some 57) #[true, true, true, true, false] rfl rfl (by kernel_rfl) (by decide) (fun K hK => ?_)
       refine xgo_ Try.func13 #[.agg #[.slice Ao48 t179.length co48, .int .i64 t182], .agg #[.slice Ao272 t196.length co272, .int .i64 t199]] ?_
       with_reducible refine (laws_eqSketch.calls kj24 _ _ t179 t182 _ _ t196 t199 false _ ?side1 ?side2 ?side3 ?side4 A101.out).mono ?_
       (case side1 => exact xc_ ((Kd.R_reads' HO_184000.out).2.2))
       (case side2 => exact (Kd.R_reads' HO_184000.out).2.1)
       (case side3 => exact xc_ ((Kd.R_reads' HO198.out).2.2))
       (case side4 => exact (Kd.R_reads' HO198.out).2.1)
       rintro e w273 ⟨rfl, hb⟩
       refine ⟨_, rfl, ?_⟩
       replace HO_179000 := xrb_ HO_179000 hb
       replace HO_184000 := xrb_ HO_184000 hb
       replace HO_189000 := xrb_ HO_189000 hb
       replace HO_195000 := xrb_ HO_195000 hb
       replace HO198 := xrb_ HO198 hb
       replace BK161 := xbb_ BK161 hb
       replace BK162 := xbb_ BK162 hb
       replace BK178 := xbb_ BK178 hb
       replace BK183 := xbb_ BK183 hb
       replace BK188 := xbb_ BK188 hb
       replace BK194 := xbb_ BK194 hb
       replace HB := xws_ HB hb
       (try clear hb)
       (try clear hb2)
       (try clear hk)
       (try clear hi)
       refine hK.out _ _ ⟨xk_ BK183 0, xk_ BK183 1, xk_ BK161 0, xk_ BK161 1⟩ (fun hHeld => ?_)
       clear hK K
       refine norm_ (a' := ?_) ?_ ?_
       rotate_left
       ·show Act.put _ (some 57) _ = _
        simp only [Act.put, List.setIfInBounds_toArray, List.set_cons_zero, List.set_cons_succ, i64_w, i32_w]
        rfl
       refine pure_ (i := 4) (N := some 58) (v := ?_) (a' := ?_) #[true, true, true, true, true] rfl rfl (by kernel_rfl) (fun _ _ _ h => h) (Or.inl ⟨by rfl, ?_⟩) ?_ ?_
       rotate_left
       ·intro w'
        go_simp
        with_reducible rfl
       rotate_left
       ·simp only [Act.put, List.setIfInBounds_toArray, List.set_cons_zero, List.set_cons_succ, i64_w, i32_w]
        rfl
       refine done_ (by kernel_rfl) ?_
       try go_wp2
       go_ret
       exact ⟨by first | rfl | (simp [errW_none, errW_some] <;> rfl) | (simp [*, errW_none, errW_some] <;> rfl), xw_ HB⟩

/-- THE ONE PURE STATEMENT of laws_FnExactJoinSketches: yours. -/
def laws_FnExactJoinSketches.Pure : Prop := ∀ (l0_0 : List Int) (a0_1 : Int) (l1_0 : List Int) (a1_1 : Int), l0_0.length ≤ maxLen → (∀ x ∈ l0_0, (Lit.int .i64 x).wf = true) → (Lit.int .i64 a0_1).wf = true → l1_0.length ≤ maxLen → (∀ x ∈ l1_0, (Lit.int .i64 x).wf = true) → (Lit.int .i64 a1_1).wf = true → ∃ k, laws_FnExactJoinSketches.f k l0_0 a0_1 l1_0 a1_1 = some true
theorem laws_FnExactJoinSketches.walk (P : laws_FnExactJoinSketches.Pure) (a0_0 : Option Addr) (len0_0 cap0_0 : Nat) (z0_0 : List Int) (a0_1 : Int) (a1_0 : Option Addr) (len1_0 cap1_0 : Nat) (z1_0 : List Int) (a1_1 : Int) (w : World) (w0_0 : (a0_0 = none ∧ len0_0 = 0 ∧ cap0_0 = 0 ∧ z0_0 = []) ∨ ∃ x, a0_0 = some x ∧ len0_0 ≤ cap0_0 ∧ cap0_0 ≤ maxLen ∧ z0_0.length = cap0_0 ∧ (∀ i, i < z0_0.length → w.cell? (x.add i) = some (.int .i64 (z0_0.getD i 0))) ∧ ∀ n ∈ z0_0, (Lit.int .i64 n).wf = true) (w0_1 : (Lit.int .i64 a0_1).wf = true) (w1_0 : (a1_0 = none ∧ len1_0 = 0 ∧ cap1_0 = 0 ∧ z1_0 = []) ∨ ∃ x, a1_0 = some x ∧ len1_0 ≤ cap1_0 ∧ cap1_0 ≤ maxLen ∧ z1_0.length = cap1_0 ∧ (∀ i, i < z1_0.length → w.cell? (x.add i) = some (.int .i64 (z1_0.getD i 0))) ∧ ∀ n ∈ z1_0, (Lit.int .i64 n).wf = true) (w1_1 : (Lit.int .i64 a1_1).wf = true) :
  Calls Try.prog 8 #[.agg #[.slice a0_0 len0_0 cap0_0, .int .i64 a0_1], .agg #[.slice a1_0 len1_0 cap1_0, .int .i64 a1_1]] w fun e w' => e = .returned (.bool true) ∧ Below w.heap.size w w' := by
 obtain ⟨l0_0, rfl, hr0_0, hm0_0, hw0_0, hc0_0⟩ := ReadsInt.ofRowC w0_0
 obtain ⟨l1_0, rfl, hr1_0, hm1_0, hw1_0, hc1_0⟩ := ReadsInt.ofRowC w1_0
 obtain ⟨k, h⟩ := P l0_0 a0_1 l1_0 a1_1 hm0_0 hw0_0 w0_1 hm1_0 hw1_0 w1_1
 refine (laws_FnExactJoinSketches.calls k _ _ l0_0 a0_1 _ _ l1_0 a1_1 true w (Kd.C_of_reads (d := (0 : Int)) (h1 := fun _ => rfl) hr0_0) hc0_0 (Kd.C_of_reads (d := (0 : Int)) (h1 := fun _ => rfl) hr1_0) hc1_0 h).mono ?_
 rintro e w' ⟨rfl, hd⟩
 exact ⟨rfl, hd⟩

end Go.Proofs.Ytbimpkfffcnlhaa.PFnExactJoinSketches
