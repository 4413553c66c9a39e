-- Written by a program of this project (xprint.py) out of the translation; Lean checks it.
import Derived.Test.YtpggepjfhgalkaaGreatDoorPFnExactPickItemx0
import Derived.Test.YtpggepjfhgalkaaGreatDoorPFnExactPickItemx12
import Derived.Test.YtpggepjfhgalkaaGreatDoorPFnExactPickItemx13
import Derived.Test.YtpggepjfhgalkaaGreatDoorPFnExactPickItemx14
namespace Go.Proofs.YtpggepjfhgalkaaGreatDoor.PFnExactPickItem
open Go.RowKit Go.Proofs.YtpggepjfhgalkaaGreatDoorW.PrintWords Go.Proofs.YtpggepjfhgalkaaGreatDoorW.PrintLast Go.Proofs.YtpggepjfhgalkaaGreatDoorW.PrintMore
attribute [local go_sem] max2_int min2_int max_two min_two max_three min_three max_four min_four   -- for this text's walks alone
set_option linter.unusedVariables false
set_option linter.unusedSimpArgs false

/-! ### impl_valuesOf: function 95 -/
def impl_valuesOf.l0 : Nat → ByteArray → List ByteArray → List (S105) → Int → Int → Option (List ByteArray)
 | 0, _, _, _, _, _ => none
 | k + 1, x1, x5, x8, x9, x10 => if x10 < x9 then (if 0 ≤ x10 then (if x10 < (x8.length : Int) then ((impl_small.f ((rd_T105 x8 x10).f0)).bind fun t365 => ((impl_small.f x1).bind fun t366 => (if t365.toList = t366.toList then (if x5.length < 8796093022208 then (impl_valuesOf.l0 k x1 (x5 ++ [(rd_T105 x8 x10).f1]) x8 x9 (wrap64 (x10 + 1))) else (none)) else (impl_valuesOf.l0 k x1 x5 x8 x9 (wrap64 (x10 + 1)))))) else (none)) else (none)) else (some x5)
def impl_valuesOf.f (k : Nat) (l0 : List (S105)) (a1 : ByteArray) : Option (List ByteArray) := impl_valuesOf.l0 k a1 ([] : List ByteArray) l0 (l0.length : Int) 0
set_option maxHeartbeats 8000000 in
set_option maxRecDepth 100000 in
theorem impl_valuesOf.calls (k : Nat) (A0 : Option Addr) (c0 : Nat) (l0 : List (S105)) (a1 : ByteArray) (r : List ByteArray) (w : World) (hr0 : Kd.C k105 w A0 l0.length l0) (hc0 : l0.length ≤ c0) (h : impl_valuesOf.f k l0 a1 = some r) :
  Calls Tryz.prog 95 #[.slice A0 l0.length c0, .string a1] w fun e w' => ∃ v0_ : Value, e = .returned (v0_) ∧ Kd.R Kd.string 9 w' w.heap.size (fun _ => True) v0_ r ∧ Below w.heap.size w w' := by
 have hu105 := Tryz.underlying105
 have HR0 := Aside0.mk hr0
 have HC0 := Aside0.mk hc0
 clear hr0 hc0
 have HB := Aside0.mk (Below.refl w.heap.size w)
 have H := h
 unfold impl_valuesOf.f at H
 clear h
 have H' := Aside0.mk H
 clear H
 go_enter Tryz.func95, Tryz.ntmps95
 go_wp2
 go_loopg [5, 10] k (fun kq v5 v10 w' => ∃ (x5_1 : List ByteArray) (x10_1 : Int), v10 = .int .i64 x10_1 ∧ Aside0 (impl_valuesOf.l0 kq a1 x5_1 l0 (l0.length : Int) x10_1 = some r) ∧ Aside0 (kq ≤ k) ∧ Aside0 (Kd.R Kd.string 9 w' w.heap.size (fun _ => True) v5 x5_1) ∧ Aside0 (Below w.heap.size w w'))
 case atStart => exact ⟨(([] : List ByteArray)), (0), me_, H', ⟨Nat.le_refl _⟩, ⟨by first | exact Kd.R_nil _ _ _ _ _ | exact Kd.N_nil _ _ _ _ _ | exact Kd.V_nil _ _ _ _ _ | exact Kd.Q_nil _ _ _ _ _ | exact Kd.S_nil _ _ _ _ _⟩, ⟨xw_ HB⟩⟩
 case round =>
  clear H'
  obtain ⟨x5_1, x10_1, rfl, HA, HK1, HO_5, HB⟩ := hrel
  cases gk with
  | zero => exact absurd HA.out (by simp [impl_valuesOf.l0])
  | succ k1 =>
   have H := HA.out
   clear HA
   simp only [impl_valuesOf.l0] at H
   by_cases c3 : x10_1 < (l0.length : Int)
   ·rw [if_pos c3] at H
    have c3b0 := decide_eq_true c3
    clear c3
    replace H := mi_ H
    obtain ⟨c4, H⟩ := H
    have c4b0 := decide_eq_true c4
    clear c4
    replace H := mi_ H
    obtain ⟨c5, H⟩ := H
    have c5b0 := decide_eq_true c5
    clear c5
    replace H := mb_ H
    obtain ⟨t365, A6, H⟩ := H
    replace H := mb_ H
    obtain ⟨t366, A7, H⟩ := H
    by_cases c8 : t365.toList = t366.toList
    ·rw [if_pos c8] at H
     have c8b0 : (t365.toList == t366.toList) = true := beq_iff_eq.mpr c8
     have c8b1 : (t365.toList != t366.toList) = false := bne_eq_false_iff_eq.mpr c8
     clear c8
     replace H := mi_ H
     obtain ⟨c9, H⟩ := H
     have LMc9 := Aside0.mk c9
     clear c9
     obtain ⟨y367, hy367⟩ : ∃ y_ : List ByteArray, y_ = (x5_1 ++ [(rd_T105 l0 x10_1).f1]) := ⟨_, rfl⟩
     replace H : (impl_valuesOf.l0 k1 a1 y367 l0 (l0.length : Int) (wrap64 (x10_1 + 1))) = some r := by first | (rw [hy367]; with_reducible exact H) | (have H2_ := (Option.bind_some _ _).symm.trans H; rw [hy367]; with_reducible exact H2_) | (have H2_ := (Option.bind_some _ _).symm.trans H; with_reducible exact H2_) | with_reducible exact H | (rw [hy367]; exact H) | exact H
     have Ny367 := Aside0.mk hy367
     clear hy367
     have H' := Aside0.mk H
     clear H
     have p363 : 0 ≤ (x10_1 : Int) := md_
     have q363 : x10_1 < (l0.length : Int) := md_
     obtain ⟨ad363, e363, hx363_0, hx363_1⟩ := at_T105 HR0.out x10_1 p363 q363
     cases e363
     (try replace hx363_0 := (HB.out.cell (World.block_lt_of_cell? w _ hx363_0)).trans hx363_0)
     (try replace hx363_1 := (HB.out.cell (World.block_lt_of_cell? w _ hx363_1)).trans hx363_1)
     replace p363 := eq_true p363
     replace q363 := eq_true q363
     go_wp2_with (first | ((with_reducible refine gd_ 7 ?_); refine xbe_ (N := 7) (cs := #[.string (⟨#[]⟩ : ByteArray), .string (⟨#[]⟩ : ByteArray)]) (t := 105) ?_; intro gb364 hg w10 hbox hb; replace HO_5 := xrb_ HO_5 hb; have BK364 := Aside0.mk (hbox); have GE364 := xge_ HB hg; replace HB := xws_ HB hb; clear hb hbox hg; have ⟨_, _, _, _⟩ := c2_ BK364) | ((with_reducible refine gc_ 81 ?_); refine xgl_ (some 16) Tryz.func81 #[.string ((rd_T105 l0 x10_1).f0)] ?_; (with_reducible refine (impl_small.calls ((rd_T105 l0 x10_1).f0) t365 _ A6.out).mono ?_); rintro e w12 ⟨rfl, hb⟩; refine ⟨_, rfl, ?_⟩; replace HO_5 := Aside0.mk (Kd.R_below (xrt_ ((Kd.R_mono (Kd.R_far (p := ⟨gb364, 1, none⟩) (Kd.R_far (p := ⟨gb364, 0, none⟩) (Kd.R_types HO_5.out BK364.out (by decide)) (fun _ hk => hk.2) (.string ((rd_T105 l0 x10_1).f0))) (fun _ hk => hk.2) (.string ((rd_T105 l0 x10_1).f1))) (fun _ h_ => h_.1)))) hb); replace BK364 := mxb_ (o' := .cells #[.string ((rd_T105 l0 x10_1).f0), .string ((rd_T105 l0 x10_1).f1)] 105 (0, 0)) BK364 hb; replace HB := xws_ HB hb; (try clear hb)) | ((with_reducible refine gc_ 81 ?_); refine xgl_ (some 18) Tryz.func81 #[.string a1] ?_; (with_reducible refine (impl_small.calls a1 t366 _ A7.out).mono ?_); rintro e w13 ⟨rfl, hb⟩; refine ⟨_, rfl, ?_⟩; replace HO_5 := xrb_ HO_5 hb; replace BK364 := xbb_ BK364 hb; replace HB := xws_ HB hb; (try clear hb); have ⟨_, _, _, _⟩ := c2_ BK364) | ((with_reducible refine gate_builtin (b := .append) (xs := #[.tmp 20, .tmp 23]) rfl ?_); at_builtin; refine Kd.R_append Kd.string (w0 := w) w.heap.size rfl (.tmp 20) (.tmp 23) 50 9 (.string ⟨#[]⟩) 16 rfl Tryz.underlying50 info9 rfl (by decide) (by omega) u5 x5_1 ((rd_T105 l0 x10_1).f1) [.string ((rd_T105 l0 x10_1).f1)] (fun _ => True) (fun _ => False) rfl rfl ?aP (fun _ hk => hk.elim) ?aF ?aO ?aB ?aS ?aL ?_; (case aP => exact rfl); (case aB => exact (xw_ HB)); (case aF => exact (fun _ _ => trivial)); (case aO => exact (xr_ HO_5)); (case aS => exact (below_size (xw_ HB))); (case aL => have := LMc9.out; omega); intro v368 w15 ho hb hg hat; rw [← Ny367.out] at ho; replace BK364 := Aside0.mk (blk_grown (g := gb364) (o := .cells #[.string ((rd_T105 l0 x10_1).f0), .string ((rd_T105 l0 x10_1).f1)] 105 (0, 0)) (xb_ BK364) hg (Kd.R_ne HO_5.out BK364.out (by decide))); replace HB := Aside0.mk (hb); have HO369 := Aside0.mk (ho); clear HO_5; clear ho hb hg hat))
     go_roundg k1
     case measure => have := HK1.out; omega
     case rel => exact ⟨(y367), (wrap64 (x10_1 + 1)), me_, H', ⟨by have := HK1.out; omega⟩, ⟨xr_ HO369⟩, ⟨xw_ HB⟩⟩
    ·rw [if_neg c8] at H
     have c8b0 : (t365.toList == t366.toList) = false := beq_eq_false_iff_ne.mpr c8
     have c8b1 : (t365.toList != t366.toList) = true := bne_iff_ne.mpr c8
     have H' := Aside0.mk H
     clear H
     have p363 : 0 ≤ (x10_1 : Int) := md_
     have q363 : x10_1 < (l0.length : Int) := md_
     obtain ⟨ad363, e363, hx363_0, hx363_1⟩ := at_T105 HR0.out x10_1 p363 q363
     cases e363
     (try replace hx363_0 := (HB.out.cell (World.block_lt_of_cell? w _ hx363_0)).trans hx363_0)
     (try replace hx363_1 := (HB.out.cell (World.block_lt_of_cell? w _ hx363_1)).trans hx363_1)
     replace p363 := eq_true p363
     replace q363 := eq_true q363
     go_wp2_with (first | ((with_reducible refine gd_ 7 ?_); refine xbe_ (N := 7) (cs := #[.string (⟨#[]⟩ : ByteArray), .string (⟨#[]⟩ : ByteArray)]) (t := 105) ?_; intro gb364 hg w16 hbox hb; replace HO_5 := xrb_ HO_5 hb; have BK364 := Aside0.mk (hbox); have GE364 := xge_ HB hg; replace HB := xws_ HB hb; clear hb hbox hg; have ⟨_, _, _, _⟩ := c2_ BK364) | ((with_reducible refine gc_ 81 ?_); refine xgl_ (some 16) Tryz.func81 #[.string ((rd_T105 l0 x10_1).f0)] ?_; (with_reducible refine (impl_small.calls ((rd_T105 l0 x10_1).f0) t365 _ A6.out).mono ?_); rintro e w18 ⟨rfl, hb⟩; refine ⟨_, rfl, ?_⟩; replace HO_5 := Aside0.mk (Kd.R_below (xrt_ ((Kd.R_mono (Kd.R_far (p := ⟨gb364, 1, none⟩) (Kd.R_far (p := ⟨gb364, 0, none⟩) (Kd.R_types HO_5.out BK364.out (by decide)) (fun _ hk => hk.2) (.string ((rd_T105 l0 x10_1).f0))) (fun _ hk => hk.2) (.string ((rd_T105 l0 x10_1).f1))) (fun _ h_ => h_.1)))) hb); replace BK364 := mxb_ (o' := .cells #[.string ((rd_T105 l0 x10_1).f0), .string ((rd_T105 l0 x10_1).f1)] 105 (0, 0)) BK364 hb; replace HB := xws_ HB hb; (try clear hb)) | ((with_reducible refine gc_ 81 ?_); refine xgl_ (some 18) Tryz.func81 #[.string a1] ?_; (with_reducible refine (impl_small.calls a1 t366 _ A7.out).mono ?_); rintro e w19 ⟨rfl, hb⟩; refine ⟨_, rfl, ?_⟩; replace HO_5 := xrb_ HO_5 hb; replace BK364 := xbb_ BK364 hb; replace HB := xws_ HB hb; (try clear hb)))
     go_roundg k1
     case measure => have := HK1.out; omega
     case rel => exact ⟨(x5_1), (wrap64 (x10_1 + 1)), me_, H', ⟨by have := HK1.out; omega⟩, ⟨xr_ HO_5⟩, ⟨xw_ HB⟩⟩
   ·rw [if_neg c3] at H
    have c3b0 := decide_eq_false c3
    clear c3
    obtain rfl := Option.some.inj H
    go_wp2
    go_ret
    exact ⟨_, mf_, by (with_reducible repeat (first | apply Kd.R_alloc | apply Kd.R_drewN | apply Kd.R_drew)); exact HO_5.out, xw_ HB⟩

/-! ### impl_listOf: function 93 -/
mutual
def impl_listOf.l0 : Nat → ByteArray → List ByteArray → Int → Bool → Int → Option (List ByteArray × Bool)
 | 0, _, _, _, _, _ => none
 | k + 1, x0, x4, x5, x6, x7 => if x7 ≤ (x0.size : Int) then (if x7 = (x0.size : Int) then (impl_listOf.j1 k x0 x4 x5 x6 x7 true) else (if 0 ≤ x7 then (if x7 < (x0.size : Int) then (if (bt x0 x7) = 44 then (impl_listOf.j1 k x0 x4 x5 x6 x7 (!x6)) else (impl_listOf.j1 k x0 x4 x5 x6 x7 false)) else (none)) else (none))) else (some (x4, !x6))
def impl_listOf.j1 : Nat → ByteArray → List ByteArray → Int → Bool → Int → Bool → Option (List ByteArray × Bool)
 | 0, _, _, _, _, _, _ => none
 | k + 1, x0, x4, x5, x6, x7, x15 => if x15 = true then (if 0 ≤ x5 then (if x5 ≤ x7 then (if x7 ≤ (x0.size : Int) then ((strings_Trim.f k (x0.extract (x5 : Int).toNat (x7 : Int).toNat) (⟨#[32]⟩ : ByteArray)).bind fun t370 => (if t370.toList = ([] : List UInt8) then (impl_listOf.l0 k x0 x4 (wrap64 (x7 + 1)) x6 (wrap64 (x7 + 1))) else (if x4.length < 8796093022208 then (impl_listOf.l0 k x0 (x4 ++ [t370]) (wrap64 (x7 + 1)) x6 (wrap64 (x7 + 1))) else (none)))) else (none)) else (none)) else (none)) else (if 0 ≤ x7 then (if x7 < (x0.size : Int) then (if (bt x0 x7) = 34 then (impl_listOf.l0 k x0 x4 x5 (!x6) (wrap64 (x7 + 1))) else (if (bt x0 x7) = 92 then (impl_listOf.j2 k x0 x4 x5 x6 x7 x6) else (impl_listOf.j2 k x0 x4 x5 x6 x7 false))) else (none)) else (none))
def impl_listOf.j2 : Nat → ByteArray → List ByteArray → Int → Bool → Int → Bool → Option (List ByteArray × Bool)
 | 0, _, _, _, _, _, _ => none
 | k + 1, x0, x4, x5, x6, x7, x50 => if x50 = true then (if (wrap64 (x7 + 1)) = (x0.size : Int) then (some (([] : List ByteArray), false)) else (impl_listOf.l0 k x0 x4 x5 x6 (wrap64 ((wrap64 (x7 + 1)) + 1)))) else (impl_listOf.l0 k x0 x4 x5 x6 (wrap64 (x7 + 1)))
end
def impl_listOf.f (k : Nat) (a0 : ByteArray) : Option (List ByteArray × Bool) := impl_listOf.l0 k a0 ([] : List ByteArray) 0 false 0
set_option maxHeartbeats 8000000 in
set_option maxRecDepth 100000 in
theorem impl_listOf.calls (k : Nat) (a0 : ByteArray) (r1 : List ByteArray) (r2 : Bool) (w : World) (h : impl_listOf.f k a0 = some (r1, r2)) :
  Calls Tryz.prog 93 #[.string a0] w fun e w' => ∃ v0_ : Value, e = .returned (.tuple #[v0_, .bool r2]) ∧ Kd.R Kd.string 9 w' w.heap.size (fun _ => True) v0_ r1 ∧ Below w.heap.size w w' := by
 have HB := Aside0.mk (Below.refl w.heap.size w)
 have H := h
 unfold impl_listOf.f at H
 clear h
 have H' := Aside0.mk H
 clear H
 go_enter Tryz.func93, Tryz.ntmps93
 go_wp2
 go_loopg [4, 5, 6, 7] k (fun kq v4 v5 v6 v7 w' => ∃ (x4_1 : List ByteArray) (x5_1 : Int) (x6_1 : Bool) (x7_1 : Int), v5 = .int .i64 x5_1 ∧ v6 = .bool x6_1 ∧ v7 = .int .i64 x7_1 ∧ Aside0 (impl_listOf.l0 kq a0 x4_1 x5_1 x6_1 x7_1 = some (r1, r2)) ∧ Aside0 (kq ≤ k) ∧ Aside0 (Kd.R Kd.string 9 w' w.heap.size (fun _ => True) v4 x4_1) ∧ Aside0 (Below w.heap.size w w'))
 case atStart => exact ⟨(([] : List ByteArray)), (0), (false), (0), me_, me_, me_, H', ⟨Nat.le_refl _⟩, ⟨by first | exact Kd.R_nil _ _ _ _ _ | exact Kd.N_nil _ _ _ _ _ | exact Kd.V_nil _ _ _ _ _ | exact Kd.Q_nil _ _ _ _ _ | exact Kd.S_nil _ _ _ _ _⟩, ⟨xw_ HB⟩⟩
 case round =>
  clear H'
  obtain ⟨x4_1, x5_1, x6_1, x7_1, rfl, rfl, rfl, HA, HK1, HO_4, HB⟩ := hrel
  cases gk with
  | zero => exact absurd HA.out (by simp [impl_listOf.l0])
  | succ k1 =>
   have H := HA.out
   clear HA
   simp only [impl_listOf.l0] at H
   by_cases c2 : x7_1 ≤ (a0.size : Int)
   ·rw [if_pos c2] at H
    have c2b0 := decide_eq_true c2
    clear c2
    have HC3 := Aside0.mk H
    clear H
    go_upto_region 6 with (fail)
    go_cut [15] (fun v15 wc => ∃ (kq : Nat) (x15_2 : Bool), v15 = .bool x15_2 ∧ Aside0 (impl_listOf.j1 kq a0 x4_1 x5_1 x6_1 x7_1 x15_2 = some (r1, r2)) ∧ Aside0 (kq ≤ k1) ∧ Aside0 (Kd.R Kd.string 9 wc w.heap.size (fun _ => True) u4 x4_1) ∧ Aside0 (Below w.heap.size w wc))
    case first =>
     have H := HC3.out
     clear HC3
     by_cases c4 : x7_1 = (a0.size : Int)
     ·rw [if_pos c4] at H
      have c4b0 : (x7_1 == (a0.size : Int)) = true := beq_iff_eq.mpr c4
      have c4b1 : (x7_1 != (a0.size : Int)) = false := bne_eq_false_iff_eq.mpr c4
      clear c4
      (first | rw [c4b0] | (simp only [i64_w, i32_w]; rw [c4b0]) | skip)
      have H' := Aside0.mk H
      clear H
      go_wp2
      go_meet
      case rel => exact ⟨_, (true), me_, H', ⟨by have := HK1.out; first | omega | exact Nat.le_refl _⟩, ⟨xr_ HO_4⟩, ⟨xw_ HB⟩⟩
     ·rw [if_neg c4] at H
      have c4b0 : (x7_1 == (a0.size : Int)) = false := beq_eq_false_iff_ne.mpr c4
      have c4b1 : (x7_1 != (a0.size : Int)) = true := bne_iff_ne.mpr c4
      (first | rw [c4b0] | (simp only [i64_w, i32_w]; rw [c4b0]) | skip)
      replace H := mi_ H
      obtain ⟨c5, H⟩ := H
      have c5b0 := decide_eq_true c5
      clear c5
      replace H := mi_ H
      obtain ⟨c6, H⟩ := H
      have c6b0 := decide_eq_true c6
      clear c6
      by_cases c8 : (bt a0 x7_1) = 44
      ·rw [if_pos c8] at H
       have c8b0 : ((bt a0 x7_1) == 44) = true := beq_iff_eq.mpr c8
       have c8b1 : ((bt a0 x7_1) != 44) = false := bne_eq_false_iff_eq.mpr c8
       clear c8
       have H' := Aside0.mk H
       clear H
       have p7 : 0 ≤ (x7_1 : Int) := md_
       have q7 : x7_1 < (a0.size : Int) := md_
       have hx7 := bt_at a0 x7_1
       replace p7 := eq_true p7
       replace q7 := eq_true q7
       go_wp2
       go_meet
       case rel => exact ⟨_, (!x6_1), me_, H', ⟨by have := HK1.out; first | omega | exact Nat.le_refl _⟩, ⟨xr_ HO_4⟩, ⟨xw_ HB⟩⟩
      ·rw [if_neg c8] at H
       have c8b0 : ((bt a0 x7_1) == 44) = false := beq_eq_false_iff_ne.mpr c8
       have c8b1 : ((bt a0 x7_1) != 44) = true := bne_iff_ne.mpr c8
       have H' := Aside0.mk H
       clear H
       have p7 : 0 ≤ (x7_1 : Int) := md_
       have q7 : x7_1 < (a0.size : Int) := md_
       have hx7 := bt_at a0 x7_1
       replace p7 := eq_true p7
       replace q7 := eq_true q7
       go_wp2
       go_meet
       case rel => exact ⟨_, (false), me_, H', ⟨by have := HK1.out; first | omega | exact Nat.le_refl _⟩, ⟨xr_ HO_4⟩, ⟨xw_ HB⟩⟩
    case rest =>
     clear HC3
     try clear c2
     try clear c2b0
     obtain ⟨kq, x15_2, rfl, HA, HJ2, HO_4, HB⟩ := hcut
     cases kq with
     | zero => exact absurd HA.out (by simp [impl_listOf.j1])
     | succ kj2 =>
      have H := HA.out
      clear HA
      simp only [impl_listOf.j1] at H
      by_cases c9 : x15_2 = true
      ·subst c9
       rw [if_pos rfl] at H
       replace H := mi_ H
       obtain ⟨c10, H⟩ := H
       have c10b0 := eq_true c10
       have c10b1 := decide_eq_true c10
       clear c10
       replace H := mi_ H
       obtain ⟨c11, H⟩ := H
       have c11b0 := eq_true c11
       have c11b1 := decide_eq_true c11
       clear c11
       replace H := mi_ H
       obtain ⟨c12, H⟩ := H
       have c12b0 := eq_true c12
       have c12b1 := decide_eq_true c12
       clear c12
       replace H := mb_ H
       obtain ⟨t370, A13, H⟩ := H
       by_cases c14 : t370.toList = ([] : List UInt8)
       ·rw [if_pos c14] at H
        have c14b0 : (t370.toList == ([] : List UInt8)) = true := beq_iff_eq.mpr c14
        have c14b1 : (t370.toList != ([] : List UInt8)) = false := bne_eq_false_iff_eq.mpr c14
        clear c14
        have H' := Aside0.mk H
        clear H
        go_wp2_with (first | ((with_reducible refine gc_ 142 ?_); refine xgl_ (some 34) Tryz.func142 #[.string (a0.extract (x5_1 : Int).toNat (x7_1 : Int).toNat), .string (⟨#[32]⟩ : ByteArray)] ?_; (with_reducible refine (strings_Trim.calls kj2 (a0.extract (x5_1 : Int).toNat (x7_1 : Int).toNat) (⟨#[32]⟩ : ByteArray) t370 _ A13.out).mono ?_); rintro e w15 ⟨rfl, hb⟩; refine ⟨_, rfl, ?_⟩; replace HO_4 := xrb_ HO_4 hb; replace HB := xws_ HB hb; (try clear hb)))
        go_roundg kj2
        case measure => have := HK1.out; have := HJ2.out; omega
        case rel => exact ⟨(x4_1), (wrap64 (x7_1 + 1)), (x6_1), (wrap64 (x7_1 + 1)), me_, me_, me_, H', ⟨by have := HK1.out; have := HJ2.out; omega⟩, ⟨xr_ HO_4⟩, ⟨xw_ HB⟩⟩
       ·rw [if_neg c14] at H
        have c14b0 : (t370.toList == ([] : List UInt8)) = false := beq_eq_false_iff_ne.mpr c14
        have c14b1 : (t370.toList != ([] : List UInt8)) = true := bne_iff_ne.mpr c14
        replace H := mi_ H
        obtain ⟨c16, H⟩ := H
        have LMc16 := Aside0.mk c16
        clear c16
        obtain ⟨y371, hy371⟩ : ∃ y_ : List ByteArray, y_ = (x4_1 ++ [t370]) := ⟨_, rfl⟩
        replace H : (impl_listOf.l0 kj2 a0 y371 (wrap64 (x7_1 + 1)) x6_1 (wrap64 (x7_1 + 1))) = some (r1, r2) := by first | (rw [hy371]; with_reducible exact H) | (have H2_ := (Option.bind_some _ _).symm.trans H; rw [hy371]; with_reducible exact H2_) | (have H2_ := (Option.bind_some _ _).symm.trans H; with_reducible exact H2_) | with_reducible exact H | (rw [hy371]; exact H) | exact H
        have Ny371 := Aside0.mk hy371
        clear hy371
        have H' := Aside0.mk H
        clear H
        go_wp2_with (first | ((with_reducible refine gc_ 142 ?_); refine xgl_ (some 34) Tryz.func142 #[.string (a0.extract (x5_1 : Int).toNat (x7_1 : Int).toNat), .string (⟨#[32]⟩ : ByteArray)] ?_; (with_reducible refine (strings_Trim.calls kj2 (a0.extract (x5_1 : Int).toNat (x7_1 : Int).toNat) (⟨#[32]⟩ : ByteArray) t370 _ A13.out).mono ?_); rintro e w17 ⟨rfl, hb⟩; refine ⟨_, rfl, ?_⟩; replace HO_4 := xrb_ HO_4 hb; replace HB := xws_ HB hb; (try clear hb)) | ((with_reducible refine gate_builtin (b := .append) (xs := #[.tmp 37, .tmp 39]) rfl ?_); at_builtin; refine Kd.R_append Kd.string (w0 := w) w.heap.size rfl (.tmp 37) (.tmp 39) 50 9 (.string ⟨#[]⟩) 16 rfl Tryz.underlying50 info9 rfl (by decide) (by omega) u4 x4_1 t370 [.string t370] (fun _ => True) (fun _ => False) rfl rfl ?aP (fun _ hk => hk.elim) ?aF ?aO ?aB ?aS ?aL ?_; (case aP => exact rfl); (case aB => exact (xw_ HB)); (case aF => exact (fun _ _ => trivial)); (case aO => exact (xr_ HO_4)); (case aS => exact (below_size (xw_ HB))); (case aL => have := LMc16.out; omega); intro v372 w18 ho hb hg hat; rw [← Ny371.out] at ho; replace HB := Aside0.mk (hb); have HO373 := Aside0.mk (ho); clear HO_4; clear ho hb hg hat))
        go_roundg kj2
        case measure => have := HK1.out; have := HJ2.out; omega
        case rel => exact ⟨(y371), (wrap64 (x7_1 + 1)), (x6_1), (wrap64 (x7_1 + 1)), me_, me_, me_, H', ⟨by have := HK1.out; have := HJ2.out; omega⟩, ⟨xr_ HO373⟩, ⟨xw_ HB⟩⟩
      ·replace c9 := Bool.eq_false_iff.mpr c9
       subst c9
       rw [if_neg (show ¬ (false = true) by decide)] at H
       replace H := mi_ H
       obtain ⟨c19, H⟩ := H
       have c19b0 := decide_eq_true c19
       clear c19
       replace H := mi_ H
       obtain ⟨c20, H⟩ := H
       have c20b0 := decide_eq_true c20
       clear c20
       by_cases c22 : (bt a0 x7_1) = 34
       ·rw [if_pos c22] at H
        have c22b0 : ((bt a0 x7_1) == 34) = true := beq_iff_eq.mpr c22
        have c22b1 : ((bt a0 x7_1) != 34) = false := bne_eq_false_iff_eq.mpr c22
        clear c22
        have H' := Aside0.mk H
        clear H
        have p21 : 0 ≤ (x7_1 : Int) := md_
        have q21 : x7_1 < (a0.size : Int) := md_
        have hx21 := bt_at a0 x7_1
        replace p21 := eq_true p21
        replace q21 := eq_true q21
        go_wp2
        go_roundg kj2
        case measure => have := HK1.out; have := HJ2.out; omega
        case rel => exact ⟨(x4_1), (x5_1), (!x6_1), (wrap64 (x7_1 + 1)), me_, me_, me_, H', ⟨by have := HK1.out; have := HJ2.out; omega⟩, ⟨xr_ HO_4⟩, ⟨xw_ HB⟩⟩
       ·rw [if_neg c22] at H
        have c22b0 : ((bt a0 x7_1) == 34) = false := beq_eq_false_iff_ne.mpr c22
        have c22b1 : ((bt a0 x7_1) != 34) = true := bne_iff_ne.mpr c22
        have HC23 := Aside0.mk H
        clear H
        have p21 : 0 ≤ (x7_1 : Int) := md_
        have q21 : x7_1 < (a0.size : Int) := md_
        have hx21 := bt_at a0 x7_1
        replace p21 := eq_true p21
        replace q21 := eq_true q21
        go_upto_region 13 with (fail)
        go_cut [50] (fun v50 wc => ∃ (kq : Nat) (x50_22 : Bool), v50 = .bool x50_22 ∧ Aside0 (impl_listOf.j2 kq a0 x4_1 x5_1 x6_1 x7_1 x50_22 = some (r1, r2)) ∧ Aside0 (kq ≤ kj2) ∧ Aside0 (Kd.R Kd.string 9 wc w.heap.size (fun _ => True) u4 x4_1) ∧ Aside0 (Below w.heap.size w wc))
        case first =>
         have H := HC23.out
         clear HC23
         by_cases c25 : (bt a0 x7_1) = 92
         ·rw [if_pos c25] at H
          have c25b0 : ((bt a0 x7_1) == 92) = true := beq_iff_eq.mpr c25
          have c25b1 : ((bt a0 x7_1) != 92) = false := bne_eq_false_iff_eq.mpr c25
          clear c25
          (first | rw [c25b0] | (simp only [i64_w, i32_w]; rw [c25b0]) | skip)
          have H' := Aside0.mk H
          clear H
          have p24 : 0 ≤ (x7_1 : Int) := md_
          have q24 : x7_1 < (a0.size : Int) := md_
          have hx24 := bt_at a0 x7_1
          replace p24 := eq_true p24
          replace q24 := eq_true q24
          go_wp2
          go_meet
          case rel => exact ⟨_, (x6_1), me_, H', ⟨by have := HK1.out; have := HJ2.out; first | omega | exact Nat.le_refl _⟩, ⟨xr_ HO_4⟩, ⟨xw_ HB⟩⟩
         ·rw [if_neg c25] at H
          have c25b0 : ((bt a0 x7_1) == 92) = false := beq_eq_false_iff_ne.mpr c25
          have c25b1 : ((bt a0 x7_1) != 92) = true := bne_iff_ne.mpr c25
          (first | rw [c25b0] | (simp only [i64_w, i32_w]; rw [c25b0]) | skip)
          have H' := Aside0.mk H
          clear H
          have p24 : 0 ≤ (x7_1 : Int) := md_
          have q24 : x7_1 < (a0.size : Int) := md_
          have hx24 := bt_at a0 x7_1
          replace p24 := eq_true p24
          replace q24 := eq_true q24
          go_wp2
          go_meet
          case rel => exact ⟨_, (false), me_, H', ⟨by have := HK1.out; have := HJ2.out; first | omega | exact Nat.le_refl _⟩, ⟨xr_ HO_4⟩, ⟨xw_ HB⟩⟩
        case rest =>
         clear HC23
         try clear c2
         try clear c2b0
         try clear c9
         try clear c10
         try clear c10b0
         try clear c10b1
         try clear c11
         try clear c11b0
         try clear c11b1
         try clear c12
         try clear c12b0
         try clear c12b1
         try clear c14
         try clear c19
         try clear c19b0
         try clear c20
         try clear c20b0
         try clear p21
         try clear q21
         try clear hx21
         try clear c22
         try clear c22b0
         try clear c22b1
         try clear p21
         try clear q21
         obtain ⟨kq, x50_22, rfl, HA, HJ22, HO_4, HB⟩ := hcut
         cases kq with
         | zero => exact absurd HA.out (by simp [impl_listOf.j2])
         | succ kj22 =>
          have H := HA.out
          clear HA
          simp only [impl_listOf.j2] at H
          by_cases c26 : x50_22 = true
          ·subst c26
           rw [if_pos rfl] at H
           by_cases c27 : (wrap64 (x7_1 + 1)) = (a0.size : Int)
           ·rw [if_pos c27] at H
            have c27b0 : ((wrap64 (x7_1 + 1)) == (a0.size : Int)) = true := beq_iff_eq.mpr c27
            have c27b1 : ((wrap64 (x7_1 + 1)) != (a0.size : Int)) = false := bne_eq_false_iff_eq.mpr c27
            clear c27
            simp only [Option.some.injEq, Prod.mk.injEq] at H
            obtain ⟨rfl, rfl⟩ := H
            go_wp2
            go_ret2
            exact ⟨_, mf_, by first | exact Kd.R_nil _ _ _ _ _ | exact Kd.N_nil _ _ _ _ _ | exact Kd.V_nil _ _ _ _ _ | exact Kd.Q_nil _ _ _ _ _ | exact Kd.S_nil _ _ _ _ _, xw_ HB⟩
           ·rw [if_neg c27] at H
            have c27b0 : ((wrap64 (x7_1 + 1)) == (a0.size : Int)) = false := beq_eq_false_iff_ne.mpr c27
            have c27b1 : ((wrap64 (x7_1 + 1)) != (a0.size : Int)) = true := bne_iff_ne.mpr c27
            have H' := Aside0.mk H
            clear H
            go_wp2
            go_roundg kj22
            case measure => have := HK1.out; have := HJ2.out; have := HJ22.out; omega
            case rel => exact ⟨(x4_1), (x5_1), (x6_1), (wrap64 ((wrap64 (x7_1 + 1)) + 1)), me_, me_, me_, H', ⟨by have := HK1.out; have := HJ2.out; have := HJ22.out; omega⟩, ⟨xr_ HO_4⟩, ⟨xw_ HB⟩⟩
          ·replace c26 := Bool.eq_false_iff.mpr c26
           subst c26
           rw [if_neg (show ¬ (false = true) by decide)] at H
           have H' := Aside0.mk H
           clear H
           go_wp2
           go_roundg kj22
           case measure => have := HK1.out; have := HJ2.out; have := HJ22.out; omega
           case rel => exact ⟨(x4_1), (x5_1), (x6_1), (wrap64 (x7_1 + 1)), me_, me_, me_, H', ⟨by have := HK1.out; have := HJ2.out; have := HJ22.out; omega⟩, ⟨xr_ HO_4⟩, ⟨xw_ HB⟩⟩
   ·rw [if_neg c2] at H
    have c2b0 := decide_eq_false c2
    clear c2
    simp only [Option.some.injEq, Prod.mk.injEq] at H
    obtain ⟨rfl, rfl⟩ := H
    go_wp2
    go_ret2
    exact ⟨_, mf_, by (with_reducible repeat (first | apply Kd.R_alloc | apply Kd.R_drewN | apply Kd.R_drew)); exact HO_4.out, xw_ HB⟩

theorem tabIs_below {P : Program} {w W : World} {name : String} {k : IntKind} {zs : List Int} (h : Lib.TabIs P w name k zs) (hb : Below w.heap.size w W) : Lib.TabIs P W name k zs := by
  unfold Lib.TabIs World.var? at h ⊢
  cases hg : P.globalNamed name with
  | none => rw [hg] at h; cases h
  | some g =>
    rw [hg] at h
    simp only [Option.bind_some] at h ⊢
    by_cases hlt : g < w.heap.size
    · rw [hb.block g hlt]; exact h
    · rw [Array.getElem?_eq_none (by omega)] at h; cases h
/-- a variable of an interface's type: nil, or some value -/
def IfOk (w : World) (g : Nat) : Prop := ∃ ev, w.cell? ⟨g, 0, none⟩ = some ev ∧ (ev = .nilIface ∨ ∃ te pe, ev = .iface te pe)
/-- what the library's variables hold: bytealg's length (some number), strconv's table of powers, its two errors -/
structure TabOk (w : World) : Prop where
  mx : ∃ m, w.cell? ⟨0, 0, none⟩ = some (.int .i64 m)
  tab : Lib.TabIs Tryz.prog w "internal/strconv.uint64pow10" .u64 Lib.pow10Tab
  syn : IfOk w 4
  rng : IfOk w 5
theorem IfOk.below {w W : World} {g : Nat} (h : IfOk w g) (hb : Below w.heap.size w W) : IfOk W g := h.imp fun ev hv => ⟨(hb.cell (World.block_lt_of_cell? w _ hv.1)).trans hv.1, hv.2⟩
theorem TabOk.below {w W : World} (h : TabOk w) (hb : Below w.heap.size w W) : TabOk W := ⟨h.1.imp fun m hm => (hb.cell (World.block_lt_of_cell? w _ hm)).trans hm, tabIs_below h.2 hb, h.3.below hb, h.4.below hb⟩
theorem below_grow_ (w : World) (n : Nat) (os : Array Obj) : Below w.heap.size w (Go.Sort.grow (w.drewN n) os) :=
  ⟨rfl, rfl, rfl, by show w.heap.size ≤ (w.heap ++ os).size; rw [Array.size_append]; omega, fun k hk => by
    show (w.heap ++ os)[k]? = _
    rw [Array.getElem?_append_left hk]⟩
/-! ### strconv_Atoi: function 199 -/
def strconv_Atoi.f (a0 : ByteArray) : Option (Int × Option Int) := if a0.size < 1000000000000 then (match Lib.atoiAll a0.data.toList with | .ok v => some (v, none) | .«syntax» => some (0, some 0) | .range => some (Lib.atoiSat a0.data.toList, some 0)) else none
theorem strconv_Atoi.calls (a0 : ByteArray) (r1 : Int) (r2 : Option Int) (w : World) (h : strconv_Atoi.f a0 = some (r1, r2)) (hn : r2 = none := by rfl) :
    Calls Tryz.prog 199 #[.string a0] w fun e w' => e = .returned (.tuple #[.int .i64 r1, errW r2]) ∧ Below w.heap.size w w' := by
  subst hn
  unfold strconv_Atoi.f at h
  by_cases c : a0.size < 1000000000000
  · rw [if_pos c] at h
    cases hq : Lib.atoiAll a0.data.toList with
    | ok v =>
      rw [hq] at h
      obtain ⟨rfl, _⟩ := Prod.mk.inj (Option.some.inj h)
      refine (Tryz.strconv_Atoi_ok a0 (by omega) v hq w).mono fun e w' hq => ⟨hq.1, ?_⟩
      rcases hq.2 with rfl | ⟨t, rfl⟩
      · exact Below.refl _ _
      · exact Lib.bytesWorld_below w 5 t
    | «syntax» => rw [hq] at h; exact absurd (congrArg Prod.snd (Option.some.inj h)) (by simp)
    | range => rw [hq] at h; exact absurd (congrArg Prod.snd (Option.some.inj h)) (by simp)
  · rw [if_neg c] at h; cases h
/-- where it is no numeral, or one too great: an error that is not nil -/
theorem strconv_AtoiF.calls (a0 : ByteArray) (r1 q : Int) (w : World) (h : strconv_Atoi.f a0 = some (r1, some q)) (hT : TabOk w) :
    Calls Tryz.prog 199 #[.string a0] w fun e w' => ∃ te pe, e = .returned (.tuple #[.int .i64 r1, .iface te pe]) ∧ Below w.heap.size w w' := by
  unfold strconv_Atoi.f at h
  by_cases c : a0.size < 1000000000000
  · rw [if_pos c] at h
    cases hq : Lib.atoiAll a0.data.toList with
    | ok v => rw [hq] at h; exact absurd (congrArg Prod.snd (Option.some.inj h)) (by simp)
    | «syntax» =>
      rw [hq] at h
      obtain ⟨rfl, _⟩ := Prod.mk.inj (Option.some.inj h)
      obtain ⟨ev, h1, h2⟩ := hT.syn
      exact (Tryz.strconv_Atoi_syntax a0 (by omega) hq ev w h1 h2).mono fun e w' ⟨N, he, _, _, hb⟩ => ⟨_, _, he, hb⟩
    | range =>
      rw [hq] at h
      obtain ⟨rfl, _⟩ := Prod.mk.inj (Option.some.inj h)
      obtain ⟨ev, h1, h2⟩ := hT.rng
      exact (Tryz.strconv_Atoi_range a0 (by omega) hq ev w h1 h2).mono fun e w' ⟨N, he, _, _, hb⟩ => ⟨_, _, he, hb⟩
  · rw [if_neg c] at h; cases h

/-! ### xAll_u8_impl_isDigit: function 158, with function 160 -/
def xAll_u8_impl_isDigit.z (x : Int) : Option Bool := (impl_isDigit.f x).bind fun b => some (!b)
def xAll_u8_impl_isDigit.f (l0 : List Int) : Option (Bool) := if l0.length < 9223372036854775807 then ((idxO (xAll_u8_impl_isDigit.z) l0 0).bind fun i => some (!decide (i ≥ 0))) else none
set_option maxHeartbeats 8000000 in
set_option maxRecDepth 100000 in
theorem xAll_u8_impl_isDigit.calls (A0 : Option Addr) (c0 : Nat) (l0 : List Int) (r : Bool) (w : World) (hr0 : Kd.C (Kd.int .u8) w A0 l0.length l0) (hc0 : l0.length ≤ c0) (h : xAll_u8_impl_isDigit.f l0 = some r) :
    Calls Tryz.prog 158 #[.slice A0 l0.length c0, .func (.func 160) #[] #[]] w fun e w' => e = .returned (.bool r) ∧ Below w.heap.size w w' := by
  have hbig : l0.length < 9223372036854775807 := by
    by_cases c : l0.length < 9223372036854775807
    · exact c
    · unfold xAll_u8_impl_isDigit.f at h; rw [if_neg c] at h; cases h
  have h1 : ((idxO (xAll_u8_impl_isDigit.z) l0 0).bind fun i => some (!decide (i ≥ 0))) = some r := by unfold xAll_u8_impl_isDigit.f at h; rw [if_pos hbig] at h; exact h
  clear h
  obtain ⟨i, hi1, hi2⟩ := Option.bind_eq_some_iff.mp h1
  clear h1
  obtain rfl := Option.some.inj hi2
  clear hi2
  have eg : ∀ args w, (callFunc 197 args).run Tryz.prog w = .ok (.enter 197 args) w := enters_of Tryz.func197 (by kernel_rfl) rfl
  have hb1 : Below w.heap.size w (w.alloc (.cells #[.func (.func 160) #[] #[]] 123)) := (Below.refl _ w).alloc (Nat.le_refl _) _
  have hcall := xContainsFunc_u8 (xAll_u8_impl_isDigit.z) 197 #[.pointer (some ⟨w.heap.size, 0, none⟩)] eg A0 c0 l0 i (w.alloc (.cells #[.func (.func 160) #[] #[]] 123)) (Kd.C_below hr0 hb1) hc0 hbig
    (by
      intro W x b hb hz
      have hcell : W.cell? ⟨w.heap.size, 0, none⟩ = some (.func (.func 160) #[] #[]) := (hb.cell (p := ⟨w.heap.size, 0, none⟩) (by simp)).trans (by simp)
      obtain ⟨b2, hq, hb2⟩ := Option.bind_eq_some_iff.mp hz
      obtain rfl : (!b2) = b := Option.some.inj hb2
      have hq' := Aside0.mk hq
      have hb' := Aside0.mk hb
      clear hb hz hb2 hq
      show Calls Tryz.prog 197 #[.int .u8 x, .pointer (some ⟨w.heap.size, 0, none⟩)] W _
      go_enter Tryz.func197, Tryz.ntmps197
      go_wp2_with (go_at_call 160; refine (impl_isDigit.calls x b2 _ hq'.out).mono ?_; rintro e w' ⟨rfl, ⟨nd, rfl⟩⟩)
      go_ret
      exact ⟨rfl, by repeat (first | (with_reducible first | exact hb'.out | apply below_alloc | apply pw_below_drewN | apply below_drew1) | exact hb'.out)⟩)
    hi1
  have hb1' := Aside0.mk hb1
  clear hr0 hc0 hbig hi1 hb1 eg
  go_enter Tryz.func158, Tryz.ntmps158
  go_wp2_with (go_at_call 196; refine hcall.mono ?_; rintro e w' ⟨rfl, hb'⟩)
  go_ret
  exact ⟨rfl, below_then hb1'.out (by simp) hb'⟩
/-! ### xBytes_impl_isDigit: function 120, with function 160 -/
def xBytes_impl_isDigit.f (a0 : ByteArray) : Option (Bool) := if a0.size < 100000000 then xAll_u8_impl_isDigit.f (bytesOf a0) else none
set_option maxHeartbeats 4000000 in
theorem xBytes_impl_isDigit.calls (a0 : ByteArray) (r : Bool) (w : World) (h : xBytes_impl_isDigit.f a0 = some r) :
    Calls Tryz.prog 120 #[.string a0, .func (.func 160) #[] #[]] w fun e w' => e = .returned (.bool r) ∧ Below w.heap.size w w' := by
  unfold xBytes_impl_isDigit.f at h
  by_cases c : a0.size < 100000000
  · rw [if_pos c] at h
    have hcv := Lib.run_convert_string_bytes (P := Tryz.prog) w 9 120 5 a0 Tryz.underlying9 Tryz.underlying120 Tryz.underlying5
    have hC : (Kd.int .u8).C (Lib.bytesWorld w 5 a0) (some ⟨w.heap.size, 0, none⟩) (bytesOf a0).length (bytesOf a0) := by
      rw [bytesOf_length]
      exact Kd.C_of_reads (d := (0 : Int)) (bytes_reads w 5 a0 (by omega))
    have hbe := Lib.bytesWorld_below w 5 a0
    have hcall := xAll_u8_impl_isDigit.calls (some ⟨w.heap.size, 0, none⟩) (grownCap w a0.size 0 5) (bytesOf a0) r (Lib.bytesWorld w 5 a0) hC (by rw [bytesOf_length]; exact grownCap_ge w a0.size 0 5) h
    rw [bytesOf_length] at hcall
    obtain ⟨W0, hW0⟩ : ∃ W0, W0 = Lib.bytesWorld w 5 a0 := ⟨_, rfl⟩
    rw [← hW0] at hcv hcall hbe
    have HB0 := Aside0.mk hbe
    clear hW0 hbe c h hC
    go_enter Tryz.func120, Tryz.ntmps120
    go_wp2_with (go_at_call 158; refine hcall.mono ?_; rintro e w' ⟨rfl, hb'⟩)
    go_ret
    exact ⟨rfl, below_step HB0.out hb'⟩
  · rw [if_neg c] at h; cases h

end Go.Proofs.YtpggepjfhgalkaaGreatDoor.PFnExactPickItem
