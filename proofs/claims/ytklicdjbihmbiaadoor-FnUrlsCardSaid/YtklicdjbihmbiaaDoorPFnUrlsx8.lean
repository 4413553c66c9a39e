-- Written by a program of this project (xprint.py) out of the translation; Lean checks it.
import Derived.Test.YtklicdjbihmbiaaDoorPFnUrlsx0
import Derived.Test.YtklicdjbihmbiaaDoorPFnUrlsx2
import Derived.Test.YtklicdjbihmbiaaDoorPFnUrlsx6
import Derived.Test.YtklicdjbihmbiaaDoorPFnUrlsx7
namespace Go.Proofs.YtklicdjbihmbiaaDoor.PFnUrls
open Go.RowKit Go.Proofs.YtklicdjbihmbiaaDoorW.PrintWords Go.Proofs.YtklicdjbihmbiaaDoorW.PrintLast Go.Proofs.YtklicdjbihmbiaaDoorW.PrintMore
attribute [local go_sem] max2_int min2_int max_two min_two max_three min_three max_four min_four   -- for this text's walks alone
set_option linter.unusedVariables false
set_option linter.unusedSimpArgs false

/-! ### spec_GoodUrl: function 23 -/
def spec_GoodUrl.j0 : Nat → Bool → ByteArray → ByteArray → Int → ByteArray → ByteArray → Bool → Option (Bool)
  | 0, _, _, _, _, _, _, _ => none
  | k + 1, x34, x268000, x268001, x268002, x268003, x268004, x268005 => if x34 = true then (some false) else ((spec_l1Chars.f k x268003 (⟨#[47]⟩ : ByteArray)).bind fun t272 => (if t272 = true then ((spec_l1Chars.f k x268004 (⟨#[47, 63]⟩ : ByteArray)).bind fun t273 => (if t273 = true then (if x268005 = true then ((spec_l1Text.f k x268000 x268001 x268002 x268003 x268004 x268005).bind fun t274 => (some (decide ((t274.size : Int) ≤ 200)))) else (if x268004.toList = ([] : List UInt8) then ((spec_l1Text.f k x268000 x268001 x268002 x268003 x268004 x268005).bind fun t275 => (some (decide ((t275.size : Int) ≤ 200)))) else (some false))) else (some false))) else (some false)))
def spec_GoodUrl.f (k : Nat) (a0_0 : ByteArray) (a0_1 : ByteArray) (a0_2 : Int) (a0_3 : ByteArray) (a0_4 : ByteArray) (a0_5 : Bool) : Option (Bool) := if a0_0.toList = ([104, 116, 116, 112] : List UInt8) then ((spec_l1Host.f k a0_1).bind fun t268 => (if t268 = true then ((spec_l1In.f a0_2 0 65535).bind fun t269 => (if t269 = true then (if (a0_3.size : Int) = 0 then (spec_GoodUrl.j0 k true a0_0 a0_1 a0_2 a0_3 a0_4 a0_5) else (if 0 < (a0_3.size : Int) then (spec_GoodUrl.j0 k ((bt a0_3 0) != 47) a0_0 a0_1 a0_2 a0_3 a0_4 a0_5) else (none))) else (spec_GoodUrl.j0 k true a0_0 a0_1 a0_2 a0_3 a0_4 a0_5))) else (spec_GoodUrl.j0 k true a0_0 a0_1 a0_2 a0_3 a0_4 a0_5))) else (if a0_0.toList = ([104, 116, 116, 112, 115] : List UInt8) then ((spec_l1Host.f k a0_1).bind fun t270 => (if t270 = true then ((spec_l1In.f a0_2 0 65535).bind fun t271 => (if t271 = true then (if (a0_3.size : Int) = 0 then (spec_GoodUrl.j0 k true a0_0 a0_1 a0_2 a0_3 a0_4 a0_5) else (if 0 < (a0_3.size : Int) then (spec_GoodUrl.j0 k ((bt a0_3 0) != 47) a0_0 a0_1 a0_2 a0_3 a0_4 a0_5) else (none))) else (spec_GoodUrl.j0 k true a0_0 a0_1 a0_2 a0_3 a0_4 a0_5))) else (spec_GoodUrl.j0 k true a0_0 a0_1 a0_2 a0_3 a0_4 a0_5))) else (spec_GoodUrl.j0 k true a0_0 a0_1 a0_2 a0_3 a0_4 a0_5))
theorem spec_GoodUrl.mono_l : ∀ k, (∀ y0 y1 y2 y3 y4 y5 y6, LeO (spec_GoodUrl.j0 k y0 y1 y2 y3 y4 y5 y6) (spec_GoodUrl.j0 (k + 1) y0 y1 y2 y3 y4 y5 y6))
  | 0 => fun _ _ _ _ _ _ _ r h => by simp [spec_GoodUrl.j0] at h
  | k + 1 => by
    have ih0 := spec_GoodUrl.mono_l k
    · intro y0 y1 y2 y3 y4 y5 y6
      unfold spec_GoodUrl.j0
      repeat' first
      | (with_reducible exact ih0 _ _ _ _ _ _ _)
      | (with_reducible exact spec_l1Chars.mono _ _ _)
      | (with_reducible exact spec_l1Host.mono _ _)
      | (with_reducible exact spec_l1Text.mono _ _ _ _ _ _ _)
      | (with_reducible exact LeO.refl _)
      | (with_reducible exact LeO.none _)
      | (with_reducible refine LeO.ite ?_ ?_)
      | (with_reducible refine LeO.bind ?_ (fun _ => ?_))
      | exact ih0 _ _ _ _ _ _ _
      | exact spec_l1Chars.mono _ _ _
      | exact spec_l1Host.mono _ _
      | exact spec_l1Text.mono _ _ _ _ _ _ _
      | exact LeO.none _
      | refine LeO.ite ?_ ?_
      | refine LeO.bind ?_ (fun _ => ?_)
theorem spec_GoodUrl.mono : ∀ a0 a1 a2 a3 a4 a5 k, LeO (spec_GoodUrl.f k a0 a1 a2 a3 a4 a5) (spec_GoodUrl.f (k + 1) a0 a1 a2 a3 a4 a5) := by
  intro a0 a1 a2 a3 a4 a5 k
  have ih0 := spec_GoodUrl.mono_l k
  unfold spec_GoodUrl.f
  repeat' first
      | (with_reducible exact ih0 _ _ _ _ _ _ _)
      | (with_reducible exact spec_l1Chars.mono _ _ _)
      | (with_reducible exact spec_l1Host.mono _ _)
      | (with_reducible exact spec_l1Text.mono _ _ _ _ _ _ _)
      | (with_reducible exact LeO.refl _)
      | (with_reducible exact LeO.none _)
      | (with_reducible refine LeO.ite ?_ ?_)
      | (with_reducible refine LeO.bind ?_ (fun _ => ?_))
      | exact ih0 _ _ _ _ _ _ _
      | exact spec_l1Chars.mono _ _ _
      | exact spec_l1Host.mono _ _
      | exact spec_l1Text.mono _ _ _ _ _ _ _
      | exact LeO.none _
      | refine LeO.ite ?_ ?_
      | refine LeO.bind ?_ (fun _ => ?_)
set_option maxHeartbeats 8000000 in
set_option maxRecDepth 100000 in
theorem spec_GoodUrl.calls (k : Nat) (a0_0 : ByteArray) (a0_1 : ByteArray) (a0_2 : Int) (a0_3 : ByteArray) (a0_4 : ByteArray) (a0_5 : Bool) (r : Bool) (w : World) (h : spec_GoodUrl.f k a0_0 a0_1 a0_2 a0_3 a0_4 a0_5 = some r) :
    Calls Tryd.prog 23 #[.agg #[.string a0_0, .string a0_1, .int .i64 a0_2, .string a0_3, .string a0_4, .bool a0_5]] w fun e w' => e = .returned (.bool r) ∧ Below w.heap.size w w' := by
  have hu24 := Tryd.underlying24
  have HB := Aside0.mk (Below.refl w.heap.size w)
  have H : (if a0_0.toList = ([104, 116, 116, 112] : List UInt8) then ((spec_l1Host.f k a0_1).bind fun t268 => (if t268 = true then ((spec_l1In.f a0_2 0 65535).bind fun t269 => (if t269 = true then (if (a0_3.size : Int) = 0 then (spec_GoodUrl.j0 k true a0_0 a0_1 a0_2 a0_3 a0_4 a0_5) else (if 0 < (a0_3.size : Int) then (spec_GoodUrl.j0 k ((bt a0_3 0) != 47) a0_0 a0_1 a0_2 a0_3 a0_4 a0_5) else (none))) else (spec_GoodUrl.j0 k true a0_0 a0_1 a0_2 a0_3 a0_4 a0_5))) else (spec_GoodUrl.j0 k true a0_0 a0_1 a0_2 a0_3 a0_4 a0_5))) else (if a0_0.toList = ([104, 116, 116, 112, 115] : List UInt8) then ((spec_l1Host.f k a0_1).bind fun t270 => (if t270 = true then ((spec_l1In.f a0_2 0 65535).bind fun t271 => (if t271 = true then (if (a0_3.size : Int) = 0 then (spec_GoodUrl.j0 k true a0_0 a0_1 a0_2 a0_3 a0_4 a0_5) else (if 0 < (a0_3.size : Int) then (spec_GoodUrl.j0 k ((bt a0_3 0) != 47) a0_0 a0_1 a0_2 a0_3 a0_4 a0_5) else (none))) else (spec_GoodUrl.j0 k true a0_0 a0_1 a0_2 a0_3 a0_4 a0_5))) else (spec_GoodUrl.j0 k true a0_0 a0_1 a0_2 a0_3 a0_4 a0_5))) else (spec_GoodUrl.j0 k true a0_0 a0_1 a0_2 a0_3 a0_4 a0_5))) = some r := h
  clear h
  have HC2 := Aside0.mk H
  clear H
  go_enter Tryd.func23, Tryd.ntmps23
  go_upto_region 1 with (first | ((with_reducible refine gate_dst (N := 1) rfl ?_); (try (refine gate_guard (by rfl) ?_; dsimp only)); refine box_event ?hg (N := 1) ?hd (cs := #[.string a0_0, .string a0_1, .int .i64 a0_2, .string a0_3, .string a0_4, .bool a0_5]) (t := 24) ?hr ?_; (case hd => rfl); (case hg => rfl); (case hr => first | (go_simp; done) | (go_simp; rfl)); intro gb267 hg w3 hbox hb; have n0_ := Aside0.mk (below_step (by repeat (first | (with_reducible first | exact HB.out | apply below_alloc | apply pw_below_drewN | apply below_drew1) | exact HB.out)) hb); have n1_ := Aside0.mk (hbox); have n2_ := Aside0.mk ((by rw [hg]; exact (below_size (by repeat (first | (with_reducible first | exact HB.out | apply below_alloc | apply pw_below_drewN | apply below_drew1) | exact HB.out))) : w.heap.size ≤ gb267)); have n3_ := Aside0.mk ((by rw [hg]; exact (below_size (by repeat (first | (with_reducible first | exact HB.out | apply below_alloc | apply pw_below_drewN | apply below_drew1) | exact HB.out))) : w.heap.size ≤ gb267)); clear HB; have HB := n0_; have BK267 := n1_; have GW267 := n2_; have GE267 := n3_; clear n0_ n1_ n2_ n3_; clear hb hbox hg))
  (try simp only [Act.put, List.setIfInBounds_toArray, List.set_cons_zero, List.set_cons_succ])
  go_cut [34] (fun v34 wc => ∃ (kq : Nat) (x34_1 : Bool), v34 = .bool x34_1 ∧ Aside0 (spec_GoodUrl.j0 kq x34_1 a0_0 a0_1 a0_2 a0_3 a0_4 a0_5 = some r) ∧ Aside0 (kq ≤ k) ∧ Aside0 (wc.heap[gb267]? = some (.cells #[.string a0_0, .string a0_1, .int .i64 a0_2, .string a0_3, .string a0_4, .bool a0_5] 24 (0, 0))) ∧ Aside0 (Below w.heap.size w wc))
  case first =>
    have H := HC2.out
    clear HC2
    by_cases c4 : a0_0.toList = ([104, 116, 116, 112] : List UInt8)
    · rw [if_pos c4] at H
      have c4b0 : (a0_0.toList == ([104, 116, 116, 112] : List UInt8)) = true := beq_iff_eq.mpr c4
      have c4b1 : (a0_0.toList != ([104, 116, 116, 112] : List UInt8)) = false := bne_eq_false_iff_eq.mpr c4
      clear c4
      (first | rw [c4b0] | (simp only [i64_w, i32_w]; rw [c4b0]) | skip)
      replace H := Option.bind_eq_some_iff.mp H
      obtain ⟨t268, A50, H⟩ := H
      replace H : (if t268 = true then ((spec_l1In.f a0_2 0 65535).bind fun t269 => (if t269 = true then (if (a0_3.size : Int) = 0 then (spec_GoodUrl.j0 k true a0_0 a0_1 a0_2 a0_3 a0_4 a0_5) else (if 0 < (a0_3.size : Int) then (spec_GoodUrl.j0 k ((bt a0_3 0) != 47) a0_0 a0_1 a0_2 a0_3 a0_4 a0_5) else (none))) else (spec_GoodUrl.j0 k true a0_0 a0_1 a0_2 a0_3 a0_4 a0_5))) else (spec_GoodUrl.j0 k true a0_0 a0_1 a0_2 a0_3 a0_4 a0_5)) = some r := H
      have A5 := Aside0.mk A50
      clear A50
      by_cases c6 : t268 = true
      · subst c6
        have H1 : ((spec_l1In.f a0_2 0 65535).bind fun t269 => (if t269 = true then (if (a0_3.size : Int) = 0 then (spec_GoodUrl.j0 k true a0_0 a0_1 a0_2 a0_3 a0_4 a0_5) else (if 0 < (a0_3.size : Int) then (spec_GoodUrl.j0 k ((bt a0_3 0) != 47) a0_0 a0_1 a0_2 a0_3 a0_4 a0_5) else (none))) else (spec_GoodUrl.j0 k true a0_0 a0_1 a0_2 a0_3 a0_4 a0_5))) = some r := by rw [if_pos rfl] at H; exact H
        clear H
        have H := H1
        clear H1
        replace H := Option.bind_eq_some_iff.mp H
        obtain ⟨t269, A70, H⟩ := H
        replace H : (if t269 = true then (if (a0_3.size : Int) = 0 then (spec_GoodUrl.j0 k true a0_0 a0_1 a0_2 a0_3 a0_4 a0_5) else (if 0 < (a0_3.size : Int) then (spec_GoodUrl.j0 k ((bt a0_3 0) != 47) a0_0 a0_1 a0_2 a0_3 a0_4 a0_5) else (none))) else (spec_GoodUrl.j0 k true a0_0 a0_1 a0_2 a0_3 a0_4 a0_5)) = some r := H
        have A7 := Aside0.mk A70
        clear A70
        by_cases c8 : t269 = true
        · subst c8
          have H1 : (if (a0_3.size : Int) = 0 then (spec_GoodUrl.j0 k true a0_0 a0_1 a0_2 a0_3 a0_4 a0_5) else (if 0 < (a0_3.size : Int) then (spec_GoodUrl.j0 k ((bt a0_3 0) != 47) a0_0 a0_1 a0_2 a0_3 a0_4 a0_5) else (none))) = some r := by rw [if_pos rfl] at H; exact H
          clear H
          have H := H1
          clear H1
          by_cases c9 : (a0_3.size : Int) = 0
          · rw [if_pos c9] at H
            have c9b0 : ((a0_3.size : Int) == 0) = true := beq_iff_eq.mpr c9
            have c9b1 : ((a0_3.size : Int) != 0) = false := bne_eq_false_iff_eq.mpr c9
            clear c9
            have H' := Aside0.mk H
            clear H
            have hcz10_0 : w3.cell? ⟨gb267, 0, none⟩ = some (.string a0_0) := (blk_cell BK267.out 0).trans rfl
            have hcz10_1 : w3.cell? ⟨gb267, 1, none⟩ = some (.string a0_1) := (blk_cell BK267.out 1).trans rfl
            have hcz10_2 : w3.cell? ⟨gb267, 2, none⟩ = some (.int .i64 a0_2) := (blk_cell BK267.out 2).trans rfl
            have hcz10_3 : w3.cell? ⟨gb267, 3, none⟩ = some (.string a0_3) := (blk_cell BK267.out 3).trans rfl
            have hcz10_4 : w3.cell? ⟨gb267, 4, none⟩ = some (.string a0_4) := (blk_cell BK267.out 4).trans rfl
            have hcz10_5 : w3.cell? ⟨gb267, 5, none⟩ = some (.bool a0_5) := (blk_cell BK267.out 5).trans rfl
            have hfz10_0 := blk_frozen BK267.out 0
            have hfz10_1 := blk_frozen BK267.out 1
            have hfz10_2 := blk_frozen BK267.out 2
            have hfz10_3 := blk_frozen BK267.out 3
            have hfz10_4 := blk_frozen BK267.out 4
            have hfz10_5 := blk_frozen BK267.out 5
            go_wp2_with (first | (go_at_call 51; (with_reducible refine (spec_l1Host.calls k a0_1 true _ A5.out).mono ?_); rintro e w' ⟨rfl, ⟨nd, rfl⟩⟩) | (go_at_call 52; (with_reducible refine (spec_l1In.calls a0_2 0 65535 true _ A7.out).mono ?_); rintro e w' ⟨rfl, ⟨nd, rfl⟩⟩))
            go_meet
            case rel => exact ⟨_, (true), (by first | rfl | (simp; done) | (simp [*]; done)), H', ⟨by first | omega | exact Nat.le_refl _⟩, ⟨by (with_reducible repeat (first | refine blk_drewN ?_ _ | refine blk_drew ?_ | refine blk_alloc ?_ _)); exact BK267.out⟩, ⟨by repeat (first | (with_reducible first | exact HB.out | apply below_alloc | apply pw_below_drewN | apply below_drew1 | refine below_set ?_ GE267.out) | exact HB.out)⟩⟩
          · rw [if_neg c9] at H
            have c9b0 : ((a0_3.size : Int) == 0) = false := beq_eq_false_iff_ne.mpr c9
            have c9b1 : ((a0_3.size : Int) != 0) = true := bne_iff_ne.mpr c9
            by_cases c11 : 0 < (a0_3.size : Int)
            · rw [if_pos c11] at H
              have c11b0 : decide (0 < (a0_3.size : Int)) = true := decide_eq_true c11
              have c11b1 : decide (0 < a0_3.size) = true := decide_eq_true (by omega)
              clear c11
              have H' := Aside0.mk H
              clear H
              have hcz13_0 : w3.cell? ⟨gb267, 0, none⟩ = some (.string a0_0) := (blk_cell BK267.out 0).trans rfl
              have hcz13_1 : w3.cell? ⟨gb267, 1, none⟩ = some (.string a0_1) := (blk_cell BK267.out 1).trans rfl
              have hcz13_2 : w3.cell? ⟨gb267, 2, none⟩ = some (.int .i64 a0_2) := (blk_cell BK267.out 2).trans rfl
              have hcz13_3 : w3.cell? ⟨gb267, 3, none⟩ = some (.string a0_3) := (blk_cell BK267.out 3).trans rfl
              have hcz13_4 : w3.cell? ⟨gb267, 4, none⟩ = some (.string a0_4) := (blk_cell BK267.out 4).trans rfl
              have hcz13_5 : w3.cell? ⟨gb267, 5, none⟩ = some (.bool a0_5) := (blk_cell BK267.out 5).trans rfl
              have hfz13_0 := blk_frozen BK267.out 0
              have hfz13_1 := blk_frozen BK267.out 1
              have hfz13_2 := blk_frozen BK267.out 2
              have hfz13_3 := blk_frozen BK267.out 3
              have hfz13_4 := blk_frozen BK267.out 4
              have hfz13_5 := blk_frozen BK267.out 5
              go_wp2_with (first | (go_at_call 51; (with_reducible refine (spec_l1Host.calls k a0_1 true _ A5.out).mono ?_); rintro e w' ⟨rfl, ⟨nd, rfl⟩⟩) | (go_at_call 52; (with_reducible refine (spec_l1In.calls a0_2 0 65535 true _ A7.out).mono ?_); rintro e w' ⟨rfl, ⟨nd, rfl⟩⟩; have p12 : 0 ≤ (0 : Int) := (by omega); have q12 : 0 < a0_3.size := (by have : (0 : Int) < (a0_3.size : Int) := of_decide_eq_true (by first | (with_reducible assumption) | assumption); omega); have hx12 : ∀ h : 0 < a0_3.size, ((a0_3[0]'h).toNat : Int) = bt a0_3 0 := bt_at a0_3 0; clear p12; have qi12 : (0 < (a0_3.size : Int)) = True := eq_true (of_decide_eq_true (by first | (with_reducible assumption) | assumption)); replace q12 := eq_true q12))
              go_meet
              case rel => exact ⟨_, (((bt a0_3 0) != 47)), (by first | rfl | (simp; done) | (simp [*]; done)), H', ⟨by first | omega | exact Nat.le_refl _⟩, ⟨by (with_reducible repeat (first | refine blk_drewN ?_ _ | refine blk_drew ?_ | refine blk_alloc ?_ _)); exact BK267.out⟩, ⟨by repeat (first | (with_reducible first | exact HB.out | apply below_alloc | apply pw_below_drewN | apply below_drew1 | refine below_set ?_ GE267.out) | exact HB.out)⟩⟩
            · rw [if_neg c11] at H
              exact absurd H (by simp)
        · replace c8 := Bool.eq_false_iff.mpr c8
          subst c8
          have H1 : (spec_GoodUrl.j0 k true a0_0 a0_1 a0_2 a0_3 a0_4 a0_5) = some r := by rw [if_neg (show ¬ (false = true) by decide)] at H; exact H
          clear H
          have H := H1
          clear H1
          have H' := Aside0.mk H
          clear H
          have hcz14_0 : w3.cell? ⟨gb267, 0, none⟩ = some (.string a0_0) := (blk_cell BK267.out 0).trans rfl
          have hcz14_1 : w3.cell? ⟨gb267, 1, none⟩ = some (.string a0_1) := (blk_cell BK267.out 1).trans rfl
          have hcz14_2 : w3.cell? ⟨gb267, 2, none⟩ = some (.int .i64 a0_2) := (blk_cell BK267.out 2).trans rfl
          have hcz14_3 : w3.cell? ⟨gb267, 3, none⟩ = some (.string a0_3) := (blk_cell BK267.out 3).trans rfl
          have hcz14_4 : w3.cell? ⟨gb267, 4, none⟩ = some (.string a0_4) := (blk_cell BK267.out 4).trans rfl
          have hcz14_5 : w3.cell? ⟨gb267, 5, none⟩ = some (.bool a0_5) := (blk_cell BK267.out 5).trans rfl
          have hfz14_0 := blk_frozen BK267.out 0
          have hfz14_1 := blk_frozen BK267.out 1
          have hfz14_2 := blk_frozen BK267.out 2
          have hfz14_3 := blk_frozen BK267.out 3
          have hfz14_4 := blk_frozen BK267.out 4
          have hfz14_5 := blk_frozen BK267.out 5
          go_wp2_with (first | (go_at_call 51; (with_reducible refine (spec_l1Host.calls k a0_1 true _ A5.out).mono ?_); rintro e w' ⟨rfl, ⟨nd, rfl⟩⟩) | (go_at_call 52; (with_reducible refine (spec_l1In.calls a0_2 0 65535 false _ A7.out).mono ?_); rintro e w' ⟨rfl, ⟨nd, rfl⟩⟩))
          go_meet
          case rel => exact ⟨_, (true), (by first | rfl | (simp; done) | (simp [*]; done)), H', ⟨by first | omega | exact Nat.le_refl _⟩, ⟨by (with_reducible repeat (first | refine blk_drewN ?_ _ | refine blk_drew ?_ | refine blk_alloc ?_ _)); exact BK267.out⟩, ⟨by repeat (first | (with_reducible first | exact HB.out | apply below_alloc | apply pw_below_drewN | apply below_drew1 | refine below_set ?_ GE267.out) | exact HB.out)⟩⟩
      · replace c6 := Bool.eq_false_iff.mpr c6
        subst c6
        have H1 : (spec_GoodUrl.j0 k true a0_0 a0_1 a0_2 a0_3 a0_4 a0_5) = some r := by rw [if_neg (show ¬ (false = true) by decide)] at H; exact H
        clear H
        have H := H1
        clear H1
        have H' := Aside0.mk H
        clear H
        have hcz15_0 : w3.cell? ⟨gb267, 0, none⟩ = some (.string a0_0) := (blk_cell BK267.out 0).trans rfl
        have hcz15_1 : w3.cell? ⟨gb267, 1, none⟩ = some (.string a0_1) := (blk_cell BK267.out 1).trans rfl
        have hcz15_2 : w3.cell? ⟨gb267, 2, none⟩ = some (.int .i64 a0_2) := (blk_cell BK267.out 2).trans rfl
        have hcz15_3 : w3.cell? ⟨gb267, 3, none⟩ = some (.string a0_3) := (blk_cell BK267.out 3).trans rfl
        have hcz15_4 : w3.cell? ⟨gb267, 4, none⟩ = some (.string a0_4) := (blk_cell BK267.out 4).trans rfl
        have hcz15_5 : w3.cell? ⟨gb267, 5, none⟩ = some (.bool a0_5) := (blk_cell BK267.out 5).trans rfl
        have hfz15_0 := blk_frozen BK267.out 0
        have hfz15_1 := blk_frozen BK267.out 1
        have hfz15_2 := blk_frozen BK267.out 2
        have hfz15_3 := blk_frozen BK267.out 3
        have hfz15_4 := blk_frozen BK267.out 4
        have hfz15_5 := blk_frozen BK267.out 5
        go_wp2_with (first | (go_at_call 51; (with_reducible refine (spec_l1Host.calls k a0_1 false _ A5.out).mono ?_); rintro e w' ⟨rfl, ⟨nd, rfl⟩⟩))
        go_meet
        case rel => exact ⟨_, (true), (by first | rfl | (simp; done) | (simp [*]; done)), H', ⟨by first | omega | exact Nat.le_refl _⟩, ⟨by (with_reducible repeat (first | refine blk_drewN ?_ _ | refine blk_drew ?_ | refine blk_alloc ?_ _)); exact BK267.out⟩, ⟨by repeat (first | (with_reducible first | exact HB.out | apply below_alloc | apply pw_below_drewN | apply below_drew1 | refine below_set ?_ GE267.out) | exact HB.out)⟩⟩
    · rw [if_neg c4] at H
      have c4b0 : (a0_0.toList == ([104, 116, 116, 112] : List UInt8)) = false := beq_eq_false_iff_ne.mpr c4
      have c4b1 : (a0_0.toList != ([104, 116, 116, 112] : List UInt8)) = true := bne_iff_ne.mpr c4
      (first | rw [c4b0] | (simp only [i64_w, i32_w]; rw [c4b0]) | skip)
      by_cases c16 : a0_0.toList = ([104, 116, 116, 112, 115] : List UInt8)
      · rw [if_pos c16] at H
        have c16b0 : (a0_0.toList == ([104, 116, 116, 112, 115] : List UInt8)) = true := beq_iff_eq.mpr c16
        have c16b1 : (a0_0.toList != ([104, 116, 116, 112, 115] : List UInt8)) = false := bne_eq_false_iff_eq.mpr c16
        clear c16
        replace H := Option.bind_eq_some_iff.mp H
        obtain ⟨t270, A170, H⟩ := H
        replace H : (if t270 = true then ((spec_l1In.f a0_2 0 65535).bind fun t271 => (if t271 = true then (if (a0_3.size : Int) = 0 then (spec_GoodUrl.j0 k true a0_0 a0_1 a0_2 a0_3 a0_4 a0_5) else (if 0 < (a0_3.size : Int) then (spec_GoodUrl.j0 k ((bt a0_3 0) != 47) a0_0 a0_1 a0_2 a0_3 a0_4 a0_5) else (none))) else (spec_GoodUrl.j0 k true a0_0 a0_1 a0_2 a0_3 a0_4 a0_5))) else (spec_GoodUrl.j0 k true a0_0 a0_1 a0_2 a0_3 a0_4 a0_5)) = some r := H
        have A17 := Aside0.mk A170
        clear A170
        by_cases c18 : t270 = true
        · subst c18
          have H1 : ((spec_l1In.f a0_2 0 65535).bind fun t271 => (if t271 = true then (if (a0_3.size : Int) = 0 then (spec_GoodUrl.j0 k true a0_0 a0_1 a0_2 a0_3 a0_4 a0_5) else (if 0 < (a0_3.size : Int) then (spec_GoodUrl.j0 k ((bt a0_3 0) != 47) a0_0 a0_1 a0_2 a0_3 a0_4 a0_5) else (none))) else (spec_GoodUrl.j0 k true a0_0 a0_1 a0_2 a0_3 a0_4 a0_5))) = some r := by rw [if_pos rfl] at H; exact H
          clear H
          have H := H1
          clear H1
          replace H := Option.bind_eq_some_iff.mp H
          obtain ⟨t271, A190, H⟩ := H
          replace H : (if t271 = true then (if (a0_3.size : Int) = 0 then (spec_GoodUrl.j0 k true a0_0 a0_1 a0_2 a0_3 a0_4 a0_5) else (if 0 < (a0_3.size : Int) then (spec_GoodUrl.j0 k ((bt a0_3 0) != 47) a0_0 a0_1 a0_2 a0_3 a0_4 a0_5) else (none))) else (spec_GoodUrl.j0 k true a0_0 a0_1 a0_2 a0_3 a0_4 a0_5)) = some r := H
          have A19 := Aside0.mk A190
          clear A190
          by_cases c20 : t271 = true
          · subst c20
            have H1 : (if (a0_3.size : Int) = 0 then (spec_GoodUrl.j0 k true a0_0 a0_1 a0_2 a0_3 a0_4 a0_5) else (if 0 < (a0_3.size : Int) then (spec_GoodUrl.j0 k ((bt a0_3 0) != 47) a0_0 a0_1 a0_2 a0_3 a0_4 a0_5) else (none))) = some r := by rw [if_pos rfl] at H; exact H
            clear H
            have H := H1
            clear H1
            by_cases c21 : (a0_3.size : Int) = 0
            · rw [if_pos c21] at H
              have c21b0 : ((a0_3.size : Int) == 0) = true := beq_iff_eq.mpr c21
              have c21b1 : ((a0_3.size : Int) != 0) = false := bne_eq_false_iff_eq.mpr c21
              clear c21
              have H' := Aside0.mk H
              clear H
              have hcz22_0 : w3.cell? ⟨gb267, 0, none⟩ = some (.string a0_0) := (blk_cell BK267.out 0).trans rfl
              have hcz22_1 : w3.cell? ⟨gb267, 1, none⟩ = some (.string a0_1) := (blk_cell BK267.out 1).trans rfl
              have hcz22_2 : w3.cell? ⟨gb267, 2, none⟩ = some (.int .i64 a0_2) := (blk_cell BK267.out 2).trans rfl
              have hcz22_3 : w3.cell? ⟨gb267, 3, none⟩ = some (.string a0_3) := (blk_cell BK267.out 3).trans rfl
              have hcz22_4 : w3.cell? ⟨gb267, 4, none⟩ = some (.string a0_4) := (blk_cell BK267.out 4).trans rfl
              have hcz22_5 : w3.cell? ⟨gb267, 5, none⟩ = some (.bool a0_5) := (blk_cell BK267.out 5).trans rfl
              have hfz22_0 := blk_frozen BK267.out 0
              have hfz22_1 := blk_frozen BK267.out 1
              have hfz22_2 := blk_frozen BK267.out 2
              have hfz22_3 := blk_frozen BK267.out 3
              have hfz22_4 := blk_frozen BK267.out 4
              have hfz22_5 := blk_frozen BK267.out 5
              go_wp2_with (first | (go_at_call 51; (with_reducible refine (spec_l1Host.calls k a0_1 true _ A17.out).mono ?_); rintro e w' ⟨rfl, ⟨nd, rfl⟩⟩) | (go_at_call 52; (with_reducible refine (spec_l1In.calls a0_2 0 65535 true _ A19.out).mono ?_); rintro e w' ⟨rfl, ⟨nd, rfl⟩⟩))
              go_meet
              case rel => exact ⟨_, (true), (by first | rfl | (simp; done) | (simp [*]; done)), H', ⟨by first | omega | exact Nat.le_refl _⟩, ⟨by (with_reducible repeat (first | refine blk_drewN ?_ _ | refine blk_drew ?_ | refine blk_alloc ?_ _)); exact BK267.out⟩, ⟨by repeat (first | (with_reducible first | exact HB.out | apply below_alloc | apply pw_below_drewN | apply below_drew1 | refine below_set ?_ GE267.out) | exact HB.out)⟩⟩
            · rw [if_neg c21] at H
              have c21b0 : ((a0_3.size : Int) == 0) = false := beq_eq_false_iff_ne.mpr c21
              have c21b1 : ((a0_3.size : Int) != 0) = true := bne_iff_ne.mpr c21
              by_cases c23 : 0 < (a0_3.size : Int)
              · rw [if_pos c23] at H
                have c23b0 : decide (0 < (a0_3.size : Int)) = true := decide_eq_true c23
                have c23b1 : decide (0 < a0_3.size) = true := decide_eq_true (by omega)
                clear c23
                have H' := Aside0.mk H
                clear H
                have hcz25_0 : w3.cell? ⟨gb267, 0, none⟩ = some (.string a0_0) := (blk_cell BK267.out 0).trans rfl
                have hcz25_1 : w3.cell? ⟨gb267, 1, none⟩ = some (.string a0_1) := (blk_cell BK267.out 1).trans rfl
                have hcz25_2 : w3.cell? ⟨gb267, 2, none⟩ = some (.int .i64 a0_2) := (blk_cell BK267.out 2).trans rfl
                have hcz25_3 : w3.cell? ⟨gb267, 3, none⟩ = some (.string a0_3) := (blk_cell BK267.out 3).trans rfl
                have hcz25_4 : w3.cell? ⟨gb267, 4, none⟩ = some (.string a0_4) := (blk_cell BK267.out 4).trans rfl
                have hcz25_5 : w3.cell? ⟨gb267, 5, none⟩ = some (.bool a0_5) := (blk_cell BK267.out 5).trans rfl
                have hfz25_0 := blk_frozen BK267.out 0
                have hfz25_1 := blk_frozen BK267.out 1
                have hfz25_2 := blk_frozen BK267.out 2
                have hfz25_3 := blk_frozen BK267.out 3
                have hfz25_4 := blk_frozen BK267.out 4
                have hfz25_5 := blk_frozen BK267.out 5
                go_wp2_with (first | (go_at_call 51; (with_reducible refine (spec_l1Host.calls k a0_1 true _ A17.out).mono ?_); rintro e w' ⟨rfl, ⟨nd, rfl⟩⟩) | (go_at_call 52; (with_reducible refine (spec_l1In.calls a0_2 0 65535 true _ A19.out).mono ?_); rintro e w' ⟨rfl, ⟨nd, rfl⟩⟩; have p24 : 0 ≤ (0 : Int) := (by omega); have q24 : 0 < a0_3.size := (by have : (0 : Int) < (a0_3.size : Int) := of_decide_eq_true (by first | (with_reducible assumption) | assumption); omega); have hx24 : ∀ h : 0 < a0_3.size, ((a0_3[0]'h).toNat : Int) = bt a0_3 0 := bt_at a0_3 0; clear p24; have qi24 : (0 < (a0_3.size : Int)) = True := eq_true (of_decide_eq_true (by first | (with_reducible assumption) | assumption)); replace q24 := eq_true q24))
                go_meet
                case rel => exact ⟨_, (((bt a0_3 0) != 47)), (by first | rfl | (simp; done) | (simp [*]; done)), H', ⟨by first | omega | exact Nat.le_refl _⟩, ⟨by (with_reducible repeat (first | refine blk_drewN ?_ _ | refine blk_drew ?_ | refine blk_alloc ?_ _)); exact BK267.out⟩, ⟨by repeat (first | (with_reducible first | exact HB.out | apply below_alloc | apply pw_below_drewN | apply below_drew1 | refine below_set ?_ GE267.out) | exact HB.out)⟩⟩
              · rw [if_neg c23] at H
                exact absurd H (by simp)
          · replace c20 := Bool.eq_false_iff.mpr c20
            subst c20
            have H1 : (spec_GoodUrl.j0 k true a0_0 a0_1 a0_2 a0_3 a0_4 a0_5) = some r := by rw [if_neg (show ¬ (false = true) by decide)] at H; exact H
            clear H
            have H := H1
            clear H1
            have H' := Aside0.mk H
            clear H
            have hcz26_0 : w3.cell? ⟨gb267, 0, none⟩ = some (.string a0_0) := (blk_cell BK267.out 0).trans rfl
            have hcz26_1 : w3.cell? ⟨gb267, 1, none⟩ = some (.string a0_1) := (blk_cell BK267.out 1).trans rfl
            have hcz26_2 : w3.cell? ⟨gb267, 2, none⟩ = some (.int .i64 a0_2) := (blk_cell BK267.out 2).trans rfl
            have hcz26_3 : w3.cell? ⟨gb267, 3, none⟩ = some (.string a0_3) := (blk_cell BK267.out 3).trans rfl
            have hcz26_4 : w3.cell? ⟨gb267, 4, none⟩ = some (.string a0_4) := (blk_cell BK267.out 4).trans rfl
            have hcz26_5 : w3.cell? ⟨gb267, 5, none⟩ = some (.bool a0_5) := (blk_cell BK267.out 5).trans rfl
            have hfz26_0 := blk_frozen BK267.out 0
            have hfz26_1 := blk_frozen BK267.out 1
            have hfz26_2 := blk_frozen BK267.out 2
            have hfz26_3 := blk_frozen BK267.out 3
            have hfz26_4 := blk_frozen BK267.out 4
            have hfz26_5 := blk_frozen BK267.out 5
            go_wp2_with (first | (go_at_call 51; (with_reducible refine (spec_l1Host.calls k a0_1 true _ A17.out).mono ?_); rintro e w' ⟨rfl, ⟨nd, rfl⟩⟩) | (go_at_call 52; (with_reducible refine (spec_l1In.calls a0_2 0 65535 false _ A19.out).mono ?_); rintro e w' ⟨rfl, ⟨nd, rfl⟩⟩))
            go_meet
            case rel => exact ⟨_, (true), (by first | rfl | (simp; done) | (simp [*]; done)), H', ⟨by first | omega | exact Nat.le_refl _⟩, ⟨by (with_reducible repeat (first | refine blk_drewN ?_ _ | refine blk_drew ?_ | refine blk_alloc ?_ _)); exact BK267.out⟩, ⟨by repeat (first | (with_reducible first | exact HB.out | apply below_alloc | apply pw_below_drewN | apply below_drew1 | refine below_set ?_ GE267.out) | exact HB.out)⟩⟩
        · replace c18 := Bool.eq_false_iff.mpr c18
          subst c18
          have H1 : (spec_GoodUrl.j0 k true a0_0 a0_1 a0_2 a0_3 a0_4 a0_5) = some r := by rw [if_neg (show ¬ (false = true) by decide)] at H; exact H
          clear H
          have H := H1
          clear H1
          have H' := Aside0.mk H
          clear H
          have hcz27_0 : w3.cell? ⟨gb267, 0, none⟩ = some (.string a0_0) := (blk_cell BK267.out 0).trans rfl
          have hcz27_1 : w3.cell? ⟨gb267, 1, none⟩ = some (.string a0_1) := (blk_cell BK267.out 1).trans rfl
          have hcz27_2 : w3.cell? ⟨gb267, 2, none⟩ = some (.int .i64 a0_2) := (blk_cell BK267.out 2).trans rfl
          have hcz27_3 : w3.cell? ⟨gb267, 3, none⟩ = some (.string a0_3) := (blk_cell BK267.out 3).trans rfl
          have hcz27_4 : w3.cell? ⟨gb267, 4, none⟩ = some (.string a0_4) := (blk_cell BK267.out 4).trans rfl
          have hcz27_5 : w3.cell? ⟨gb267, 5, none⟩ = some (.bool a0_5) := (blk_cell BK267.out 5).trans rfl
          have hfz27_0 := blk_frozen BK267.out 0
          have hfz27_1 := blk_frozen BK267.out 1
          have hfz27_2 := blk_frozen BK267.out 2
          have hfz27_3 := blk_frozen BK267.out 3
          have hfz27_4 := blk_frozen BK267.out 4
          have hfz27_5 := blk_frozen BK267.out 5
          go_wp2_with (first | (go_at_call 51; (with_reducible refine (spec_l1Host.calls k a0_1 false _ A17.out).mono ?_); rintro e w' ⟨rfl, ⟨nd, rfl⟩⟩))
          go_meet
          case rel => exact ⟨_, (true), (by first | rfl | (simp; done) | (simp [*]; done)), H', ⟨by first | omega | exact Nat.le_refl _⟩, ⟨by (with_reducible repeat (first | refine blk_drewN ?_ _ | refine blk_drew ?_ | refine blk_alloc ?_ _)); exact BK267.out⟩, ⟨by repeat (first | (with_reducible first | exact HB.out | apply below_alloc | apply pw_below_drewN | apply below_drew1 | refine below_set ?_ GE267.out) | exact HB.out)⟩⟩
      · rw [if_neg c16] at H
        have c16b0 : (a0_0.toList == ([104, 116, 116, 112, 115] : List UInt8)) = false := beq_eq_false_iff_ne.mpr c16
        have c16b1 : (a0_0.toList != ([104, 116, 116, 112, 115] : List UInt8)) = true := bne_iff_ne.mpr c16
        have H' := Aside0.mk H
        clear H
        have hcz28_0 : w3.cell? ⟨gb267, 0, none⟩ = some (.string a0_0) := (blk_cell BK267.out 0).trans rfl
        have hcz28_1 : w3.cell? ⟨gb267, 1, none⟩ = some (.string a0_1) := (blk_cell BK267.out 1).trans rfl
        have hcz28_2 : w3.cell? ⟨gb267, 2, none⟩ = some (.int .i64 a0_2) := (blk_cell BK267.out 2).trans rfl
        have hcz28_3 : w3.cell? ⟨gb267, 3, none⟩ = some (.string a0_3) := (blk_cell BK267.out 3).trans rfl
        have hcz28_4 : w3.cell? ⟨gb267, 4, none⟩ = some (.string a0_4) := (blk_cell BK267.out 4).trans rfl
        have hcz28_5 : w3.cell? ⟨gb267, 5, none⟩ = some (.bool a0_5) := (blk_cell BK267.out 5).trans rfl
        have hfz28_0 := blk_frozen BK267.out 0
        have hfz28_1 := blk_frozen BK267.out 1
        have hfz28_2 := blk_frozen BK267.out 2
        have hfz28_3 := blk_frozen BK267.out 3
        have hfz28_4 := blk_frozen BK267.out 4
        have hfz28_5 := blk_frozen BK267.out 5
        go_wp2
        go_meet
        case rel => exact ⟨_, (true), (by first | rfl | (simp; done) | (simp [*]; done)), H', ⟨by first | omega | exact Nat.le_refl _⟩, ⟨by (with_reducible repeat (first | refine blk_drewN ?_ _ | refine blk_drew ?_ | refine blk_alloc ?_ _)); exact BK267.out⟩, ⟨by repeat (first | (with_reducible first | exact HB.out | apply below_alloc | apply pw_below_drewN | apply below_drew1 | refine below_set ?_ GE267.out) | exact HB.out)⟩⟩
  case rest =>
    clear HC2
    try clear c1
    try clear p1
    try clear q1
    try clear hx1
    try clear qi1
    try clear c2
    try clear p2
    try clear q2
    try clear hx2
    try clear qi2
    try clear c4
    try clear c4b0
    try clear c4b1
    try clear c6
    try clear c8
    try clear c9
    try clear c9b0
    try clear c9b1
    try clear c11
    try clear c11b0
    try clear c11b1
    try clear p12
    try clear q12
    try clear hx12
    try clear qi12
    try clear c16
    try clear c16b0
    try clear c16b1
    try clear c18
    try clear c20
    try clear c21
    try clear c21b0
    try clear c21b1
    try clear c23
    try clear c23b0
    try clear c23b1
    try clear p24
    try clear q24
    try clear hx24
    try clear qi24
    try clear hcz10_0
    try clear hcz10_1
    try clear hcz10_2
    try clear hcz10_3
    try clear hcz10_4
    try clear hcz10_5
    try clear hcz13_0
    try clear hcz13_1
    try clear hcz13_2
    try clear hcz13_3
    try clear hcz13_4
    try clear hcz13_5
    try clear hcz14_0
    try clear hcz14_1
    try clear hcz14_2
    try clear hcz14_3
    try clear hcz14_4
    try clear hcz14_5
    try clear hcz15_0
    try clear hcz15_1
    try clear hcz15_2
    try clear hcz15_3
    try clear hcz15_4
    try clear hcz15_5
    try clear hcz22_0
    try clear hcz22_1
    try clear hcz22_2
    try clear hcz22_3
    try clear hcz22_4
    try clear hcz22_5
    try clear hcz25_0
    try clear hcz25_1
    try clear hcz25_2
    try clear hcz25_3
    try clear hcz25_4
    try clear hcz25_5
    try clear hcz26_0
    try clear hcz26_1
    try clear hcz26_2
    try clear hcz26_3
    try clear hcz26_4
    try clear hcz26_5
    try clear hcz27_0
    try clear hcz27_1
    try clear hcz27_2
    try clear hcz27_3
    try clear hcz27_4
    try clear hcz27_5
    try clear hcz28_0
    try clear hcz28_1
    try clear hcz28_2
    try clear hcz28_3
    try clear hcz28_4
    try clear hcz28_5
    try clear hfz10_0
    try clear hfz10_1
    try clear hfz10_2
    try clear hfz10_3
    try clear hfz10_4
    try clear hfz10_5
    try clear hfz13_0
    try clear hfz13_1
    try clear hfz13_2
    try clear hfz13_3
    try clear hfz13_4
    try clear hfz13_5
    try clear hfz14_0
    try clear hfz14_1
    try clear hfz14_2
    try clear hfz14_3
    try clear hfz14_4
    try clear hfz14_5
    try clear hfz15_0
    try clear hfz15_1
    try clear hfz15_2
    try clear hfz15_3
    try clear hfz15_4
    try clear hfz15_5
    try clear hfz22_0
    try clear hfz22_1
    try clear hfz22_2
    try clear hfz22_3
    try clear hfz22_4
    try clear hfz22_5
    try clear hfz25_0
    try clear hfz25_1
    try clear hfz25_2
    try clear hfz25_3
    try clear hfz25_4
    try clear hfz25_5
    try clear hfz26_0
    try clear hfz26_1
    try clear hfz26_2
    try clear hfz26_3
    try clear hfz26_4
    try clear hfz26_5
    try clear hfz27_0
    try clear hfz27_1
    try clear hfz27_2
    try clear hfz27_3
    try clear hfz27_4
    try clear hfz27_5
    try clear hfz28_0
    try clear hfz28_1
    try clear hfz28_2
    try clear hfz28_3
    try clear hfz28_4
    try clear hfz28_5
    try clear p12
    try clear p24
    try clear q12
    try clear q24
    obtain ⟨kq, x34_1, rfl, HA, HJ1, BK267, HB⟩ := hcut
    cases kq with
    | zero => exact absurd HA.out (by simp [spec_GoodUrl.j0])
    | succ kj1 =>
      have H := HA.out
      clear HA
      simp only [spec_GoodUrl.j0] at H
      by_cases c29 : x34_1 = true
      · subst c29
        have H1 : (some false) = some r := by rw [if_pos rfl] at H; exact H
        clear H
        have H := H1
        clear H1
        obtain rfl := Option.some.inj H
        go_wp2
        go_ret
        exact ⟨by first | rfl | (simp [errW_none, errW_some] <;> rfl) | (simp [*, errW_none, errW_some] <;> rfl), by repeat (first | (with_reducible first | exact HB.out | apply below_alloc | apply pw_below_drewN | apply below_drew1 | refine below_set ?_ GE267.out) | exact HB.out)⟩
      · replace c29 := Bool.eq_false_iff.mpr c29
        subst c29
        have H1 : ((spec_l1Chars.f kj1 a0_3 (⟨#[47]⟩ : ByteArray)).bind fun t272 => (if t272 = true then ((spec_l1Chars.f kj1 a0_4 (⟨#[47, 63]⟩ : ByteArray)).bind fun t273 => (if t273 = true then (if a0_5 = true then ((spec_l1Text.f kj1 a0_0 a0_1 a0_2 a0_3 a0_4 a0_5).bind fun t274 => (some (decide ((t274.size : Int) ≤ 200)))) else (if a0_4.toList = ([] : List UInt8) then ((spec_l1Text.f kj1 a0_0 a0_1 a0_2 a0_3 a0_4 a0_5).bind fun t275 => (some (decide ((t275.size : Int) ≤ 200)))) else (some false))) else (some false))) else (some false))) = some r := by rw [if_neg (show ¬ (false = true) by decide)] at H; exact H
        clear H
        have H := H1
        clear H1
        replace H := Option.bind_eq_some_iff.mp H
        obtain ⟨t272, A300, H⟩ := H
        replace H : (if t272 = true then ((spec_l1Chars.f kj1 a0_4 (⟨#[47, 63]⟩ : ByteArray)).bind fun t273 => (if t273 = true then (if a0_5 = true then ((spec_l1Text.f kj1 a0_0 a0_1 a0_2 a0_3 a0_4 a0_5).bind fun t274 => (some (decide ((t274.size : Int) ≤ 200)))) else (if a0_4.toList = ([] : List UInt8) then ((spec_l1Text.f kj1 a0_0 a0_1 a0_2 a0_3 a0_4 a0_5).bind fun t275 => (some (decide ((t275.size : Int) ≤ 200)))) else (some false))) else (some false))) else (some false)) = some r := H
        have A30 := Aside0.mk A300
        clear A300
        by_cases c31 : t272 = true
        · subst c31
          have H1 : ((spec_l1Chars.f kj1 a0_4 (⟨#[47, 63]⟩ : ByteArray)).bind fun t273 => (if t273 = true then (if a0_5 = true then ((spec_l1Text.f kj1 a0_0 a0_1 a0_2 a0_3 a0_4 a0_5).bind fun t274 => (some (decide ((t274.size : Int) ≤ 200)))) else (if a0_4.toList = ([] : List UInt8) then ((spec_l1Text.f kj1 a0_0 a0_1 a0_2 a0_3 a0_4 a0_5).bind fun t275 => (some (decide ((t275.size : Int) ≤ 200)))) else (some false))) else (some false))) = some r := by rw [if_pos rfl] at H; exact H
          clear H
          have H := H1
          clear H1
          replace H := Option.bind_eq_some_iff.mp H
          obtain ⟨t273, A320, H⟩ := H
          replace H : (if t273 = true then (if a0_5 = true then ((spec_l1Text.f kj1 a0_0 a0_1 a0_2 a0_3 a0_4 a0_5).bind fun t274 => (some (decide ((t274.size : Int) ≤ 200)))) else (if a0_4.toList = ([] : List UInt8) then ((spec_l1Text.f kj1 a0_0 a0_1 a0_2 a0_3 a0_4 a0_5).bind fun t275 => (some (decide ((t275.size : Int) ≤ 200)))) else (some false))) else (some false)) = some r := H
          have A32 := Aside0.mk A320
          clear A320
          by_cases c33 : t273 = true
          · subst c33
            have H1 : (if a0_5 = true then ((spec_l1Text.f kj1 a0_0 a0_1 a0_2 a0_3 a0_4 a0_5).bind fun t274 => (some (decide ((t274.size : Int) ≤ 200)))) else (if a0_4.toList = ([] : List UInt8) then ((spec_l1Text.f kj1 a0_0 a0_1 a0_2 a0_3 a0_4 a0_5).bind fun t275 => (some (decide ((t275.size : Int) ≤ 200)))) else (some false))) = some r := by rw [if_pos rfl] at H; exact H
            clear H
            have H := H1
            clear H1
            by_cases c34 : a0_5 = true
            · subst c34
              have H1 : ((spec_l1Text.f kj1 a0_0 a0_1 a0_2 a0_3 a0_4 true).bind fun t274 => (some (decide ((t274.size : Int) ≤ 200)))) = some r := by rw [if_pos rfl] at H; exact H
              clear H
              have H := H1
              clear H1
              replace H := Option.bind_eq_some_iff.mp H
              obtain ⟨t274, A350, H⟩ := H
              replace H : (some (decide ((t274.size : Int) ≤ 200))) = some r := H
              have A35 := Aside0.mk A350
              clear A350
              obtain rfl := Option.some.inj H
              have hcz36_0 : wc.cell? ⟨gb267, 0, none⟩ = some (.string a0_0) := (blk_cell BK267.out 0).trans rfl
              have hcz36_1 : wc.cell? ⟨gb267, 1, none⟩ = some (.string a0_1) := (blk_cell BK267.out 1).trans rfl
              have hcz36_2 : wc.cell? ⟨gb267, 2, none⟩ = some (.int .i64 a0_2) := (blk_cell BK267.out 2).trans rfl
              have hcz36_3 : wc.cell? ⟨gb267, 3, none⟩ = some (.string a0_3) := (blk_cell BK267.out 3).trans rfl
              have hcz36_4 : wc.cell? ⟨gb267, 4, none⟩ = some (.string a0_4) := (blk_cell BK267.out 4).trans rfl
              have hcz36_5 : wc.cell? ⟨gb267, 5, none⟩ = some (.bool true) := (blk_cell BK267.out 5).trans rfl
              have hfz36_0 := blk_frozen BK267.out 0
              have hfz36_1 := blk_frozen BK267.out 1
              have hfz36_2 := blk_frozen BK267.out 2
              have hfz36_3 := blk_frozen BK267.out 3
              have hfz36_4 := blk_frozen BK267.out 4
              have hfz36_5 := blk_frozen BK267.out 5
              go_wp2_with (first | ((with_reducible refine gate_callee (f := 53) rfl ?_); refine goesL_ (some 37) rfl rfl Tryd.func53 (by kernel_rfl) rfl #[.string a0_3, .string (⟨#[47]⟩ : ByteArray)] rfl (by (try simp only [List.map_toArray, List.map_cons, List.map_nil]); first | done | rfl | (simp only [List.length_drop, List.length_take]; rfl)) ?_; (with_reducible refine (spec_l1Chars.calls kj1 a0_3 (⟨#[47]⟩ : ByteArray) true _ A30.out).mono ?_); rintro e w' ⟨rfl, ⟨nd, rfl⟩⟩; refine ⟨_, rfl, ?_⟩) | (go_at_call 53; (with_reducible refine (spec_l1Chars.calls kj1 a0_4 (⟨#[47, 63]⟩ : ByteArray) true _ A32.out).mono ?_); rintro e w' ⟨rfl, ⟨nd, rfl⟩⟩) | (go_at_call 37; (with_reducible refine (spec_l1Text.calls kj1 a0_0 a0_1 a0_2 a0_3 a0_4 true t274 _ A35.out).mono ?_); rintro e w37 ⟨rfl, hb⟩; have n0_ := Aside0.mk (blk_below (g := gb267) (o := .cells #[.string a0_0, .string a0_1, .int .i64 a0_2, .string a0_3, .string a0_4, .bool true] 24 (0, 0)) (by (with_reducible repeat (first | refine blk_drewN ?_ _ | refine blk_drew ?_ | refine blk_alloc ?_ _)); exact BK267.out) hb); have n1_ := Aside0.mk (below_step (by repeat (first | (with_reducible first | exact HB.out | apply below_alloc | apply pw_below_drewN | apply below_drew1 | refine below_set ?_ GE267.out) | exact HB.out)) hb); clear BK267; clear HB; have BK267 := n0_; have HB := n1_; clear n0_ n1_; (try clear hb); (try clear hb2); (try clear hk); (try clear hi)))
              go_ret
              exact ⟨by first | rfl | (simp [errW_none, errW_some] <;> rfl) | (simp [*, errW_none, errW_some] <;> rfl), by repeat (first | (with_reducible first | exact HB.out | apply below_alloc | apply pw_below_drewN | apply below_drew1 | refine below_set ?_ GE267.out) | exact HB.out)⟩
            · replace c34 := Bool.eq_false_iff.mpr c34
              subst c34
              have H1 : (if a0_4.toList = ([] : List UInt8) then ((spec_l1Text.f kj1 a0_0 a0_1 a0_2 a0_3 a0_4 false).bind fun t275 => (some (decide ((t275.size : Int) ≤ 200)))) else (some false)) = some r := by rw [if_neg (show ¬ (false = true) by decide)] at H; exact H
              clear H
              have H := H1
              clear H1
              by_cases c38 : a0_4.toList = ([] : List UInt8)
              · rw [if_pos c38] at H
                have c38b0 : (a0_4.toList == ([] : List UInt8)) = true := beq_iff_eq.mpr c38
                have c38b1 : (a0_4.toList != ([] : List UInt8)) = false := bne_eq_false_iff_eq.mpr c38
                clear c38
                replace H := Option.bind_eq_some_iff.mp H
                obtain ⟨t275, A390, H⟩ := H
                replace H : (some (decide ((t275.size : Int) ≤ 200))) = some r := H
                have A39 := Aside0.mk A390
                clear A390
                obtain rfl := Option.some.inj H
                have hcz40_0 : wc.cell? ⟨gb267, 0, none⟩ = some (.string a0_0) := (blk_cell BK267.out 0).trans rfl
                have hcz40_1 : wc.cell? ⟨gb267, 1, none⟩ = some (.string a0_1) := (blk_cell BK267.out 1).trans rfl
                have hcz40_2 : wc.cell? ⟨gb267, 2, none⟩ = some (.int .i64 a0_2) := (blk_cell BK267.out 2).trans rfl
                have hcz40_3 : wc.cell? ⟨gb267, 3, none⟩ = some (.string a0_3) := (blk_cell BK267.out 3).trans rfl
                have hcz40_4 : wc.cell? ⟨gb267, 4, none⟩ = some (.string a0_4) := (blk_cell BK267.out 4).trans rfl
                have hcz40_5 : wc.cell? ⟨gb267, 5, none⟩ = some (.bool false) := (blk_cell BK267.out 5).trans rfl
                have hfz40_0 := blk_frozen BK267.out 0
                have hfz40_1 := blk_frozen BK267.out 1
                have hfz40_2 := blk_frozen BK267.out 2
                have hfz40_3 := blk_frozen BK267.out 3
                have hfz40_4 := blk_frozen BK267.out 4
                have hfz40_5 := blk_frozen BK267.out 5
                go_wp2_with (first | ((with_reducible refine gate_callee (f := 53) rfl ?_); refine goesL_ (some 37) rfl rfl Tryd.func53 (by kernel_rfl) rfl #[.string a0_3, .string (⟨#[47]⟩ : ByteArray)] rfl (by (try simp only [List.map_toArray, List.map_cons, List.map_nil]); first | done | rfl | (simp only [List.length_drop, List.length_take]; rfl)) ?_; (with_reducible refine (spec_l1Chars.calls kj1 a0_3 (⟨#[47]⟩ : ByteArray) true _ A30.out).mono ?_); rintro e w' ⟨rfl, ⟨nd, rfl⟩⟩; refine ⟨_, rfl, ?_⟩) | (go_at_call 53; (with_reducible refine (spec_l1Chars.calls kj1 a0_4 (⟨#[47, 63]⟩ : ByteArray) true _ A32.out).mono ?_); rintro e w' ⟨rfl, ⟨nd, rfl⟩⟩) | (go_at_call 37; (with_reducible refine (spec_l1Text.calls kj1 a0_0 a0_1 a0_2 a0_3 a0_4 false t275 _ A39.out).mono ?_); rintro e w41 ⟨rfl, hb⟩; have n0_ := Aside0.mk (blk_below (g := gb267) (o := .cells #[.string a0_0, .string a0_1, .int .i64 a0_2, .string a0_3, .string a0_4, .bool false] 24 (0, 0)) (by (with_reducible repeat (first | refine blk_drewN ?_ _ | refine blk_drew ?_ | refine blk_alloc ?_ _)); exact BK267.out) hb); have n1_ := Aside0.mk (below_step (by repeat (first | (with_reducible first | exact HB.out | apply below_alloc | apply pw_below_drewN | apply below_drew1 | refine below_set ?_ GE267.out) | exact HB.out)) hb); clear BK267; clear HB; have BK267 := n0_; have HB := n1_; clear n0_ n1_; (try clear hb); (try clear hb2); (try clear hk); (try clear hi)))
                go_ret
                exact ⟨by first | rfl | (simp [errW_none, errW_some] <;> rfl) | (simp [*, errW_none, errW_some] <;> rfl), by repeat (first | (with_reducible first | exact HB.out | apply below_alloc | apply pw_below_drewN | apply below_drew1 | refine below_set ?_ GE267.out) | exact HB.out)⟩
              · rw [if_neg c38] at H
                have c38b0 : (a0_4.toList == ([] : List UInt8)) = false := beq_eq_false_iff_ne.mpr c38
                have c38b1 : (a0_4.toList != ([] : List UInt8)) = true := bne_iff_ne.mpr c38
                obtain rfl := Option.some.inj H
                have hcz42_0 : wc.cell? ⟨gb267, 0, none⟩ = some (.string a0_0) := (blk_cell BK267.out 0).trans rfl
                have hcz42_1 : wc.cell? ⟨gb267, 1, none⟩ = some (.string a0_1) := (blk_cell BK267.out 1).trans rfl
                have hcz42_2 : wc.cell? ⟨gb267, 2, none⟩ = some (.int .i64 a0_2) := (blk_cell BK267.out 2).trans rfl
                have hcz42_3 : wc.cell? ⟨gb267, 3, none⟩ = some (.string a0_3) := (blk_cell BK267.out 3).trans rfl
                have hcz42_4 : wc.cell? ⟨gb267, 4, none⟩ = some (.string a0_4) := (blk_cell BK267.out 4).trans rfl
                have hcz42_5 : wc.cell? ⟨gb267, 5, none⟩ = some (.bool false) := (blk_cell BK267.out 5).trans rfl
                have hfz42_0 := blk_frozen BK267.out 0
                have hfz42_1 := blk_frozen BK267.out 1
                have hfz42_2 := blk_frozen BK267.out 2
                have hfz42_3 := blk_frozen BK267.out 3
                have hfz42_4 := blk_frozen BK267.out 4
                have hfz42_5 := blk_frozen BK267.out 5
                go_wp2_with (first | ((with_reducible refine gate_callee (f := 53) rfl ?_); refine goesL_ (some 37) rfl rfl Tryd.func53 (by kernel_rfl) rfl #[.string a0_3, .string (⟨#[47]⟩ : ByteArray)] rfl (by (try simp only [List.map_toArray, List.map_cons, List.map_nil]); first | done | rfl | (simp only [List.length_drop, List.length_take]; rfl)) ?_; (with_reducible refine (spec_l1Chars.calls kj1 a0_3 (⟨#[47]⟩ : ByteArray) true _ A30.out).mono ?_); rintro e w' ⟨rfl, ⟨nd, rfl⟩⟩; refine ⟨_, rfl, ?_⟩) | (go_at_call 53; (with_reducible refine (spec_l1Chars.calls kj1 a0_4 (⟨#[47, 63]⟩ : ByteArray) true _ A32.out).mono ?_); rintro e w' ⟨rfl, ⟨nd, rfl⟩⟩))
                go_ret
                exact ⟨by first | rfl | (simp [errW_none, errW_some] <;> rfl) | (simp [*, errW_none, errW_some] <;> rfl), by repeat (first | (with_reducible first | exact HB.out | apply below_alloc | apply pw_below_drewN | apply below_drew1 | refine below_set ?_ GE267.out) | exact HB.out)⟩
          · replace c33 := Bool.eq_false_iff.mpr c33
            subst c33
            have H1 : (some false) = some r := by rw [if_neg (show ¬ (false = true) by decide)] at H; exact H
            clear H
            have H := H1
            clear H1
            obtain rfl := Option.some.inj H
            have hcz43_0 : wc.cell? ⟨gb267, 0, none⟩ = some (.string a0_0) := (blk_cell BK267.out 0).trans rfl
            have hcz43_1 : wc.cell? ⟨gb267, 1, none⟩ = some (.string a0_1) := (blk_cell BK267.out 1).trans rfl
            have hcz43_2 : wc.cell? ⟨gb267, 2, none⟩ = some (.int .i64 a0_2) := (blk_cell BK267.out 2).trans rfl
            have hcz43_3 : wc.cell? ⟨gb267, 3, none⟩ = some (.string a0_3) := (blk_cell BK267.out 3).trans rfl
            have hcz43_4 : wc.cell? ⟨gb267, 4, none⟩ = some (.string a0_4) := (blk_cell BK267.out 4).trans rfl
            have hcz43_5 : wc.cell? ⟨gb267, 5, none⟩ = some (.bool a0_5) := (blk_cell BK267.out 5).trans rfl
            have hfz43_0 := blk_frozen BK267.out 0
            have hfz43_1 := blk_frozen BK267.out 1
            have hfz43_2 := blk_frozen BK267.out 2
            have hfz43_3 := blk_frozen BK267.out 3
            have hfz43_4 := blk_frozen BK267.out 4
            have hfz43_5 := blk_frozen BK267.out 5
            go_wp2_with (first | ((with_reducible refine gate_callee (f := 53) rfl ?_); refine goesL_ (some 37) rfl rfl Tryd.func53 (by kernel_rfl) rfl #[.string a0_3, .string (⟨#[47]⟩ : ByteArray)] rfl (by (try simp only [List.map_toArray, List.map_cons, List.map_nil]); first | done | rfl | (simp only [List.length_drop, List.length_take]; rfl)) ?_; (with_reducible refine (spec_l1Chars.calls kj1 a0_3 (⟨#[47]⟩ : ByteArray) true _ A30.out).mono ?_); rintro e w' ⟨rfl, ⟨nd, rfl⟩⟩; refine ⟨_, rfl, ?_⟩) | (go_at_call 53; (with_reducible refine (spec_l1Chars.calls kj1 a0_4 (⟨#[47, 63]⟩ : ByteArray) false _ A32.out).mono ?_); rintro e w' ⟨rfl, ⟨nd, rfl⟩⟩))
            go_ret
            exact ⟨by first | rfl | (simp [errW_none, errW_some] <;> rfl) | (simp [*, errW_none, errW_some] <;> rfl), by repeat (first | (with_reducible first | exact HB.out | apply below_alloc | apply pw_below_drewN | apply below_drew1 | refine below_set ?_ GE267.out) | exact HB.out)⟩
        · replace c31 := Bool.eq_false_iff.mpr c31
          subst c31
          have H1 : (some false) = some r := by rw [if_neg (show ¬ (false = true) by decide)] at H; exact H
          clear H
          have H := H1
          clear H1
          obtain rfl := Option.some.inj H
          have hcz44_0 : wc.cell? ⟨gb267, 0, none⟩ = some (.string a0_0) := (blk_cell BK267.out 0).trans rfl
          have hcz44_1 : wc.cell? ⟨gb267, 1, none⟩ = some (.string a0_1) := (blk_cell BK267.out 1).trans rfl
          have hcz44_2 : wc.cell? ⟨gb267, 2, none⟩ = some (.int .i64 a0_2) := (blk_cell BK267.out 2).trans rfl
          have hcz44_3 : wc.cell? ⟨gb267, 3, none⟩ = some (.string a0_3) := (blk_cell BK267.out 3).trans rfl
          have hcz44_4 : wc.cell? ⟨gb267, 4, none⟩ = some (.string a0_4) := (blk_cell BK267.out 4).trans rfl
          have hcz44_5 : wc.cell? ⟨gb267, 5, none⟩ = some (.bool a0_5) := (blk_cell BK267.out 5).trans rfl
          have hfz44_0 := blk_frozen BK267.out 0
          have hfz44_1 := blk_frozen BK267.out 1
          have hfz44_2 := blk_frozen BK267.out 2
          have hfz44_3 := blk_frozen BK267.out 3
          have hfz44_4 := blk_frozen BK267.out 4
          have hfz44_5 := blk_frozen BK267.out 5
          go_wp2_with (first | ((with_reducible refine gate_callee (f := 53) rfl ?_); refine goesL_ (some 37) rfl rfl Tryd.func53 (by kernel_rfl) rfl #[.string a0_3, .string (⟨#[47]⟩ : ByteArray)] rfl (by (try simp only [List.map_toArray, List.map_cons, List.map_nil]); first | done | rfl | (simp only [List.length_drop, List.length_take]; rfl)) ?_; (with_reducible refine (spec_l1Chars.calls kj1 a0_3 (⟨#[47]⟩ : ByteArray) false _ A30.out).mono ?_); rintro e w' ⟨rfl, ⟨nd, rfl⟩⟩; refine ⟨_, rfl, ?_⟩))
          go_ret
          exact ⟨by first | rfl | (simp [errW_none, errW_some] <;> rfl) | (simp [*, errW_none, errW_some] <;> rfl), by repeat (first | (with_reducible first | exact HB.out | apply below_alloc | apply pw_below_drewN | apply below_drew1 | refine below_set ?_ GE267.out) | exact HB.out)⟩

/-! ### spec_UrlText: function 15 -/
def spec_UrlText.f (k : Nat) (a0_0 : ByteArray) (a0_1 : ByteArray) (a0_2 : Int) (a0_3 : ByteArray) (a0_4 : ByteArray) (a0_5 : Bool) : Option (ByteArray × Bool) := (spec_GoodUrl.f k a0_0 a0_1 a0_2 a0_3 a0_4 a0_5).bind fun t277 => (if t277 = true then ((spec_l1Text.f k a0_0 a0_1 a0_2 a0_3 a0_4 a0_5).bind fun t278 => (some (t278, true))) else (some ((⟨#[]⟩ : ByteArray), false)))
theorem spec_UrlText.mono : ∀ a0 a1 a2 a3 a4 a5 k, LeO (spec_UrlText.f k a0 a1 a2 a3 a4 a5) (spec_UrlText.f (k + 1) a0 a1 a2 a3 a4 a5) := by
  intro a0 a1 a2 a3 a4 a5 k
  unfold spec_UrlText.f
  repeat' first
      | (with_reducible exact spec_GoodUrl.mono _ _ _ _ _ _ _)
      | (with_reducible exact spec_l1Text.mono _ _ _ _ _ _ _)
      | (with_reducible exact LeO.refl _)
      | (with_reducible exact LeO.none _)
      | (with_reducible refine LeO.ite ?_ ?_)
      | (with_reducible refine LeO.bind ?_ (fun _ => ?_))
      | exact spec_GoodUrl.mono _ _ _ _ _ _ _
      | exact spec_l1Text.mono _ _ _ _ _ _ _
      | exact LeO.none _
      | refine LeO.ite ?_ ?_
      | refine LeO.bind ?_ (fun _ => ?_)
set_option maxHeartbeats 8000000 in
set_option maxRecDepth 100000 in
theorem spec_UrlText.calls (k : Nat) (a0_0 : ByteArray) (a0_1 : ByteArray) (a0_2 : Int) (a0_3 : ByteArray) (a0_4 : ByteArray) (a0_5 : Bool) (r1 : ByteArray) (r2 : Bool) (w : World) (h : spec_UrlText.f k a0_0 a0_1 a0_2 a0_3 a0_4 a0_5 = some (r1, r2)) :
    Calls Tryd.prog 15 #[.agg #[.string a0_0, .string a0_1, .int .i64 a0_2, .string a0_3, .string a0_4, .bool a0_5]] w fun e w' => e = .returned (.tuple #[.string r1, .bool r2]) ∧ Below w.heap.size w w' := by
  have hu24 := Tryd.underlying24
  have HB := Aside0.mk (Below.refl w.heap.size w)
  have H : ((spec_GoodUrl.f k a0_0 a0_1 a0_2 a0_3 a0_4 a0_5).bind fun t277 => (if t277 = true then ((spec_l1Text.f k a0_0 a0_1 a0_2 a0_3 a0_4 a0_5).bind fun t278 => (some (t278, true))) else (some ((⟨#[]⟩ : ByteArray), false)))) = some (r1, r2) := h
  clear h
  replace H := Option.bind_eq_some_iff.mp H
  obtain ⟨t277, A20, H⟩ := H
  replace H : (if t277 = true then ((spec_l1Text.f k a0_0 a0_1 a0_2 a0_3 a0_4 a0_5).bind fun t278 => (some (t278, true))) else (some ((⟨#[]⟩ : ByteArray), false))) = some (r1, r2) := H
  have A2 := Aside0.mk A20
  clear A20
  by_cases c3 : t277 = true
  · subst c3
    have H1 : ((spec_l1Text.f k a0_0 a0_1 a0_2 a0_3 a0_4 a0_5).bind fun t278 => (some (t278, true))) = some (r1, r2) := by rw [if_pos rfl] at H; exact H
    clear H
    have H := H1
    clear H1
    replace H := Option.bind_eq_some_iff.mp H
    obtain ⟨t278, A40, H⟩ := H
    replace H : (some (t278, true)) = some (r1, r2) := H
    have A4 := Aside0.mk A40
    clear A40
    simp only [Option.some.injEq, Prod.mk.injEq] at H
    obtain ⟨rfl, rfl⟩ := H
    go_enter Tryd.func15, Tryd.ntmps15
    go_wp2_with (first | ((with_reducible refine gate_dst (N := 1) rfl ?_); refine box_event ?hg (N := 1) ?hd (cs := #[.string a0_0, .string a0_1, .int .i64 a0_2, .string a0_3, .string a0_4, .bool a0_5]) (t := 24) ?hr ?_; (case hd => rfl); (case hg => rfl); (case hr => first | (go_simp; done) | (go_simp; rfl)); intro gb276 hg w5 hbox hb; have n0_ := Aside0.mk (below_step (by repeat (first | (with_reducible first | exact HB.out | apply below_alloc | apply pw_below_drewN | apply below_drew1) | exact HB.out)) hb); have n1_ := Aside0.mk (hbox); have n2_ := Aside0.mk ((by rw [hg]; exact (below_size (by repeat (first | (with_reducible first | exact HB.out | apply below_alloc | apply pw_below_drewN | apply below_drew1) | exact HB.out))) : w.heap.size ≤ gb276)); have n3_ := Aside0.mk ((by rw [hg]; exact (below_size (by repeat (first | (with_reducible first | exact HB.out | apply below_alloc | apply pw_below_drewN | apply below_drew1) | exact HB.out))) : w.heap.size ≤ gb276)); clear HB; have HB := n0_; have BK276 := n1_; have GW276 := n2_; have GE276 := n3_; clear n0_ n1_ n2_ n3_; clear hb hbox hg; have hcz6_0 : w5.cell? ⟨gb276, 0, none⟩ = some (.string a0_0) := (blk_cell BK276.out 0).trans rfl; have hcz6_1 : w5.cell? ⟨gb276, 1, none⟩ = some (.string a0_1) := (blk_cell BK276.out 1).trans rfl; have hcz6_2 : w5.cell? ⟨gb276, 2, none⟩ = some (.int .i64 a0_2) := (blk_cell BK276.out 2).trans rfl; have hcz6_3 : w5.cell? ⟨gb276, 3, none⟩ = some (.string a0_3) := (blk_cell BK276.out 3).trans rfl; have hcz6_4 : w5.cell? ⟨gb276, 4, none⟩ = some (.string a0_4) := (blk_cell BK276.out 4).trans rfl; have hcz6_5 : w5.cell? ⟨gb276, 5, none⟩ = some (.bool a0_5) := (blk_cell BK276.out 5).trans rfl; have hfz6_0 := blk_frozen BK276.out 0; have hfz6_1 := blk_frozen BK276.out 1; have hfz6_2 := blk_frozen BK276.out 2; have hfz6_3 := blk_frozen BK276.out 3; have hfz6_4 := blk_frozen BK276.out 4; have hfz6_5 := blk_frozen BK276.out 5) | ((with_reducible refine gate_callee (f := 23) rfl ?_); refine goesL_ (some 5) rfl rfl Tryd.func23 (by kernel_rfl) rfl #[.agg #[.string a0_0, .string a0_1, .int .i64 a0_2, .string a0_3, .string a0_4, .bool a0_5]] rfl (by (try simp only [List.map_toArray, List.map_cons, List.map_nil]); first | done | rfl | (simp only [List.length_drop, List.length_take]; rfl)) ?_; (with_reducible refine (spec_GoodUrl.calls k a0_0 a0_1 a0_2 a0_3 a0_4 a0_5 true _ A2.out).mono ?_); rintro e w7 ⟨rfl, hb⟩; refine ⟨_, rfl, ?_⟩; have n0_ := Aside0.mk (blk_below (g := gb276) (o := .cells #[.string a0_0, .string a0_1, .int .i64 a0_2, .string a0_3, .string a0_4, .bool a0_5] 24 (0, 0)) (by (with_reducible repeat (first | refine blk_drewN ?_ _ | refine blk_drew ?_ | refine blk_alloc ?_ _)); exact BK276.out) hb); have n1_ := Aside0.mk (below_step (by repeat (first | (with_reducible first | exact HB.out | apply below_alloc | apply pw_below_drewN | apply below_drew1 | refine below_set ?_ GE276.out) | exact HB.out)) hb); clear BK276; clear HB; have BK276 := n0_; have HB := n1_; clear n0_ n1_; (try clear hb); (try clear hb2); (try clear hk); (try clear hi); have hcz8_0 : w7.cell? ⟨gb276, 0, none⟩ = some (.string a0_0) := (blk_cell BK276.out 0).trans rfl; have hcz8_1 : w7.cell? ⟨gb276, 1, none⟩ = some (.string a0_1) := (blk_cell BK276.out 1).trans rfl; have hcz8_2 : w7.cell? ⟨gb276, 2, none⟩ = some (.int .i64 a0_2) := (blk_cell BK276.out 2).trans rfl; have hcz8_3 : w7.cell? ⟨gb276, 3, none⟩ = some (.string a0_3) := (blk_cell BK276.out 3).trans rfl; have hcz8_4 : w7.cell? ⟨gb276, 4, none⟩ = some (.string a0_4) := (blk_cell BK276.out 4).trans rfl; have hcz8_5 : w7.cell? ⟨gb276, 5, none⟩ = some (.bool a0_5) := (blk_cell BK276.out 5).trans rfl; have hfz8_0 := blk_frozen BK276.out 0; have hfz8_1 := blk_frozen BK276.out 1; have hfz8_2 := blk_frozen BK276.out 2; have hfz8_3 := blk_frozen BK276.out 3; have hfz8_4 := blk_frozen BK276.out 4; have hfz8_5 := blk_frozen BK276.out 5) | ((with_reducible refine gate_callee (f := 37) rfl ?_); refine goesL_ (some 8) rfl rfl Tryd.func37 (by kernel_rfl) rfl #[.agg #[.string a0_0, .string a0_1, .int .i64 a0_2, .string a0_3, .string a0_4, .bool a0_5]] rfl (by (try simp only [List.map_toArray, List.map_cons, List.map_nil]); first | done | rfl | (simp only [List.length_drop, List.length_take]; rfl)) ?_; (with_reducible refine (spec_l1Text.calls k a0_0 a0_1 a0_2 a0_3 a0_4 a0_5 t278 _ A4.out).mono ?_); rintro e w9 ⟨rfl, hb⟩; refine ⟨_, rfl, ?_⟩; have n0_ := Aside0.mk (blk_below (g := gb276) (o := .cells #[.string a0_0, .string a0_1, .int .i64 a0_2, .string a0_3, .string a0_4, .bool a0_5] 24 (0, 0)) (by (with_reducible repeat (first | refine blk_drewN ?_ _ | refine blk_drew ?_ | refine blk_alloc ?_ _)); exact BK276.out) hb); have n1_ := Aside0.mk (below_step (by repeat (first | (with_reducible first | exact HB.out | apply below_alloc | apply pw_below_drewN | apply below_drew1 | refine below_set ?_ GE276.out) | exact HB.out)) hb); clear BK276; clear HB; have BK276 := n0_; have HB := n1_; clear n0_ n1_; (try clear hb); (try clear hb2); (try clear hk); (try clear hi)))
    go_ret2
    exact ⟨by first | rfl | (simp [errW_none, errW_some] <;> rfl) | (simp [*, errW_none, errW_some] <;> rfl), by repeat (first | (with_reducible first | exact HB.out | apply below_alloc | apply pw_below_drewN | apply below_drew1 | refine below_set ?_ GE276.out) | exact HB.out)⟩
  · replace c3 := Bool.eq_false_iff.mpr c3
    subst c3
    have H1 : (some ((⟨#[]⟩ : ByteArray), false)) = some (r1, r2) := by rw [if_neg (show ¬ (false = true) by decide)] at H; exact H
    clear H
    have H := H1
    clear H1
    simp only [Option.some.injEq, Prod.mk.injEq] at H
    obtain ⟨rfl, rfl⟩ := H
    go_enter Tryd.func15, Tryd.ntmps15
    go_wp2_with (first | ((with_reducible refine gate_dst (N := 1) rfl ?_); refine box_event ?hg (N := 1) ?hd (cs := #[.string a0_0, .string a0_1, .int .i64 a0_2, .string a0_3, .string a0_4, .bool a0_5]) (t := 24) ?hr ?_; (case hd => rfl); (case hg => rfl); (case hr => first | (go_simp; done) | (go_simp; rfl)); intro gb276 hg w10 hbox hb; have n0_ := Aside0.mk (below_step (by repeat (first | (with_reducible first | exact HB.out | apply below_alloc | apply pw_below_drewN | apply below_drew1) | exact HB.out)) hb); have n1_ := Aside0.mk (hbox); have n2_ := Aside0.mk ((by rw [hg]; exact (below_size (by repeat (first | (with_reducible first | exact HB.out | apply below_alloc | apply pw_below_drewN | apply below_drew1) | exact HB.out))) : w.heap.size ≤ gb276)); have n3_ := Aside0.mk ((by rw [hg]; exact (below_size (by repeat (first | (with_reducible first | exact HB.out | apply below_alloc | apply pw_below_drewN | apply below_drew1) | exact HB.out))) : w.heap.size ≤ gb276)); clear HB; have HB := n0_; have BK276 := n1_; have GW276 := n2_; have GE276 := n3_; clear n0_ n1_ n2_ n3_; clear hb hbox hg; have hcz11_0 : w10.cell? ⟨gb276, 0, none⟩ = some (.string a0_0) := (blk_cell BK276.out 0).trans rfl; have hcz11_1 : w10.cell? ⟨gb276, 1, none⟩ = some (.string a0_1) := (blk_cell BK276.out 1).trans rfl; have hcz11_2 : w10.cell? ⟨gb276, 2, none⟩ = some (.int .i64 a0_2) := (blk_cell BK276.out 2).trans rfl; have hcz11_3 : w10.cell? ⟨gb276, 3, none⟩ = some (.string a0_3) := (blk_cell BK276.out 3).trans rfl; have hcz11_4 : w10.cell? ⟨gb276, 4, none⟩ = some (.string a0_4) := (blk_cell BK276.out 4).trans rfl; have hcz11_5 : w10.cell? ⟨gb276, 5, none⟩ = some (.bool a0_5) := (blk_cell BK276.out 5).trans rfl; have hfz11_0 := blk_frozen BK276.out 0; have hfz11_1 := blk_frozen BK276.out 1; have hfz11_2 := blk_frozen BK276.out 2; have hfz11_3 := blk_frozen BK276.out 3; have hfz11_4 := blk_frozen BK276.out 4; have hfz11_5 := blk_frozen BK276.out 5) | ((with_reducible refine gate_callee (f := 23) rfl ?_); refine goesL_ (some 5) rfl rfl Tryd.func23 (by kernel_rfl) rfl #[.agg #[.string a0_0, .string a0_1, .int .i64 a0_2, .string a0_3, .string a0_4, .bool a0_5]] rfl (by (try simp only [List.map_toArray, List.map_cons, List.map_nil]); first | done | rfl | (simp only [List.length_drop, List.length_take]; rfl)) ?_; (with_reducible refine (spec_GoodUrl.calls k a0_0 a0_1 a0_2 a0_3 a0_4 a0_5 false _ A2.out).mono ?_); rintro e w12 ⟨rfl, hb⟩; refine ⟨_, rfl, ?_⟩; have n0_ := Aside0.mk (blk_below (g := gb276) (o := .cells #[.string a0_0, .string a0_1, .int .i64 a0_2, .string a0_3, .string a0_4, .bool a0_5] 24 (0, 0)) (by (with_reducible repeat (first | refine blk_drewN ?_ _ | refine blk_drew ?_ | refine blk_alloc ?_ _)); exact BK276.out) hb); have n1_ := Aside0.mk (below_step (by repeat (first | (with_reducible first | exact HB.out | apply below_alloc | apply pw_below_drewN | apply below_drew1 | refine below_set ?_ GE276.out) | exact HB.out)) hb); clear BK276; clear HB; have BK276 := n0_; have HB := n1_; clear n0_ n1_; (try clear hb); (try clear hb2); (try clear hk); (try clear hi)))
    go_ret2
    exact ⟨by first | rfl | (simp [errW_none, errW_some] <;> rfl) | (simp [*, errW_none, errW_some] <;> rfl), by repeat (first | (with_reducible first | exact HB.out | apply below_alloc | apply pw_below_drewN | apply below_drew1 | refine below_set ?_ GE276.out) | exact HB.out)⟩

/-! ### strings_Cut: function 38 -/
def strings_Cut.f (a0 a1 : ByteArray) : Option (ByteArray × ByteArray × Bool) := if a0.size < 1000000000 then some (⟨(Lib.cut a0.data.toList a1.data.toList).1.toArray⟩, ⟨(Lib.cut a0.data.toList a1.data.toList).2.1.toArray⟩, (Lib.cut a0.data.toList a1.data.toList).2.2) else none
theorem strings_Cut.calls (a0 a1 : ByteArray) (r1 r2 : ByteArray) (r3 : Bool) (w : World) (h : strings_Cut.f a0 a1 = some (r1, r2, r3)) (hT : TabOk w) :
    Calls Tryd.prog 38 #[.string a0, .string a1] w fun e w' => e = .returned (.tuple #[.string r1, .string r2, .bool r3]) ∧ Below w.heap.size w w' := by
  unfold strings_Cut.f at h
  by_cases c : a0.size < 1000000000
  · rw [if_pos c] at h
    obtain ⟨rfl, rfl, rfl⟩ := (show _ = _ ∧ _ = _ ∧ _ = _ from by simpa using Option.some.inj h)
    obtain ⟨m, hm⟩ := hT.1
    exact (Tryd.strings_Cut a0 a1 m w (by omega) hm).mono fun e w' hq => ⟨hq.1, (Drawn0.mk hq.2).below⟩
  · rw [if_neg c] at h; cases h

/-! ### impl_number: function 40 -/
def impl_number.f (a0 : ByteArray) : Option (Int × Bool) := if a0.size ≤ 18 then (match Lib.atoi a0.data.toList with | some n => (if 0 ≤ n then (if n < 1000000 then some (n, decide ((⟨(Lib.itoa n).toArray⟩ : ByteArray) = a0)) else none) else none) | none => none) else none
set_option maxHeartbeats 2000000 in
theorem impl_number.calls (a0 : ByteArray) (r1 : Int) (r2 : Bool) (w : World) (h : impl_number.f a0 = some (r1, r2)) (hT : TabOk w) :
    Calls Tryd.prog 40 #[.string a0] w fun e w' => e = .returned (.tuple #[.int .i64 r1, .bool r2]) ∧ Below w.heap.size w w' := by
  unfold impl_number.f at h
  by_cases c : a0.size ≤ 18
  · rw [if_pos c] at h
    cases hn : Lib.atoi a0.data.toList with
    | none => rw [hn] at h; cases h
    | some n =>
      rw [hn] at h
      simp only at h
      by_cases c1 : 0 ≤ n
      · rw [if_pos c1] at h
        by_cases c2 : n < 1000000
        · rw [if_pos c2] at h
          obtain ⟨rfl, rfl⟩ := (show _ = _ ∧ _ = _ from by simpa using Option.some.inj h)
          have hA := Tryd.strconv_Atoi a0 n c hn w
          have hI : ∀ W, Below w.heap.size w W → Calls Tryd.prog 62 #[.int .i64 n] W fun e w' => e = .returned (.string ⟨(Lib.itoa n).toArray⟩) ∧ Below W.heap.size W w' := fun W hW => strconv_Itoa.calls n _ W (by unfold strconv_Itoa.f; rw [if_pos c1, if_pos c2]) (hT.below hW)
          have c1b : decide (n ≥ 0) = true := decide_eq_true c1
          have c1d : decide (0 ≤ n) = true := decide_eq_true c1
          obtain ⟨r, hr⟩ : ∃ r : ByteArray, r = ⟨(Lib.itoa n).toArray⟩ := ⟨_, rfl⟩
          rw [← hr] at hI ⊢
          have HI := Aside0.mk hI
          have hd : decide (r = a0) = (r.toList == a0.toList) := by
            rw [Bool.eq_iff_iff, decide_eq_true_iff, beq_iff_eq]
            exact ⟨fun hh => by rw [hh], fun hh => by rw [ByteArray.toList_eq] at hh; rw [ByteArray.toList_eq] at hh; exact ByteArray.ext (Array.ext' hh)⟩
          rw [hd]
          have hp2 : (r.toList == a0.toList && true) = (r.toList == a0.toList) := by simp
          clear h hn c hr hI hT hd
          go_enter Tryd.func40, Tryd.ntmps40
          go_wp2_with (first | (go_at_call 67; (refine hA.mono ?_; rintro e w1 ⟨rfl, t, rfl⟩; have hb1 := Lib.bytesWorld_below w 5 t; have hc := HI.out _ hb1; generalize Lib.bytesWorld w 5 t = W1 at hb1 hc ⊢)) | (go_at_call 62; (refine hc.mono ?_; rintro e w2 ⟨rfl, hb2⟩)))
          all_goals (go_ret2; exact ⟨by first | rfl | (simp [*]; done), hb1.trans (hb2.mono hb1.size)⟩)
        · rw [if_neg c2] at h; cases h
      · rw [if_neg c1] at h; cases h
  · rw [if_neg c] at h; cases h

/-! ### strings.IndexByte, its world named anew -/
def index_byte_in.f (a0 : ByteArray) (a1 : Int) : Option (Int) := strings_IndexByte.f a0 a1
theorem index_byte_in.calls (a0 : ByteArray) (a1 : Int) (r : Int) (w : World) (h : index_byte_in.f a0 a1 = some r) :
    Calls Tryd.prog 39 #[.string a0, .int .u8 a1] w fun e w' => e = .returned (.int .i64 r) ∧ Below w.heap.size w w' :=
  (strings_IndexByte.calls a0 a1 r w h).mono fun e w' hq => ⟨hq.1, hq.2.below⟩

end Go.Proofs.YtklicdjbihmbiaaDoor.PFnUrls
