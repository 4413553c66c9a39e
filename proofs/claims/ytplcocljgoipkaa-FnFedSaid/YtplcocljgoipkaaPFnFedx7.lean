-- Written by a program of this project (xprint.py) out of the translation; Lean checks it.
import Derived.Test.YtplcocljgoipkaaPFnFedx0
import Derived.Test.YtplcocljgoipkaaPFnFedx6
namespace Go.Proofs.Ytplcocljgoipkaa.PFnFed
open Go.RowKit Go.Proofs.YtplcocljgoipkaaW.PrintWords Go.Proofs.YtplcocljgoipkaaW.PrintLast Go.Proofs.YtplcocljgoipkaaW.PrintMore
attribute [local go_sem] max2_int min2_int max_two min_two max_three min_three max_four min_four   -- for this text's walks alone
set_option linter.unusedVariables false
set_option linter.unusedSimpArgs false

/-! ### spec_l5Chunks: function 56 -/
mutual
def spec_l5Chunks.l0 : Nat → ByteArray → ByteArray → Int → Int → Option (ByteArray × Int × Int)
  | 0, _, _, _, _ => none
  | k + 1, x0, x5, x6, x7 => spec_l5Chunks.l1 k x0 x5 x6 x7 x6
def spec_l5Chunks.l1 : Nat → ByteArray → ByteArray → Int → Int → Int → Option (ByteArray × Int × Int)
  | 0, _, _, _, _, _ => none
  | k + 1, x0, x5, x6, x7, x8 => if x8 < (x0.size : Int) then (if (wrap64 (x8 - x6)) < 5 then (if 0 ≤ x8 then (spec_l5Chunks.j2 k x0 x5 x6 x7 x8 ((bt x0 x8) != 13)) else (none)) else (spec_l5Chunks.j2 k x0 x5 x6 x7 x8 false)) else (spec_l5Chunks.j2 k x0 x5 x6 x7 x8 false)
def spec_l5Chunks.j2 : Nat → ByteArray → ByteArray → Int → Int → Int → Bool → Option (ByteArray × Int × Int)
  | 0, _, _, _, _, _, _ => none
  | k + 1, x0, x5, x6, x7, x8, x30 => if x30 = true then (if 0 ≤ x8 then (if x8 < (x0.size : Int) then ((spec_l1Hex.f k (bt x0 x8)).bind fun t252 => (if t252 < 0 then (some ((⟨#[]⟩ : ByteArray), 0, 2)) else (spec_l5Chunks.l1 k x0 x5 x6 x7 (wrap64 (x8 + 1))))) else (none)) else (none)) else (if (wrap64 (x8 - x6)) > 4 then (spec_l5Chunks.j3 k x0 x5 x6 x7 x8 true) else (if x8 = x6 then (spec_l5Chunks.j3 k x0 x5 x6 x7 x8 (decide (x8 < (x0.size : Int)))) else (spec_l5Chunks.j3 k x0 x5 x6 x7 x8 false)))
def spec_l5Chunks.j3 : Nat → ByteArray → ByteArray → Int → Int → Int → Bool → Option (ByteArray × Int × Int)
  | 0, _, _, _, _, _, _ => none
  | k + 1, x0, x5, x6, x7, x8, x52 => if x52 = true then (some ((⟨#[]⟩ : ByteArray), 0, 2)) else (if x8 > x6 then (if 0 ≤ x6 then (if x6 ≤ x8 then (if x8 ≤ (x0.size : Int) then ((spec_l5Read.f k (x0.extract (x6 : Int).toNat (x8 : Int).toNat)).bind fun t253 => (spec_l5Chunks.j4 k x0 x5 x7 x8 t253)) else (none)) else (none)) else (none)) else (spec_l5Chunks.j4 k x0 x5 x7 x8 0))
def spec_l5Chunks.j4 : Nat → ByteArray → ByteArray → Int → Int → Int → Option (ByteArray × Int × Int)
  | 0, _, _, _, _, _ => none
  | k + 1, x0, x5, x7, x8, x9 => if x8 < (x0.size : Int) then (if (wrap64 ((x5.size : Int) + x9)) > 300 then (spec_l5Chunks.j5 k x0 x5 x7 x8 x9 true) else (if x9 > 0 then (spec_l5Chunks.j5 k x0 x5 x7 x8 x9 (x7 == 60)) else (spec_l5Chunks.j5 k x0 x5 x7 x8 x9 false))) else (spec_l5Chunks.j5 k x0 x5 x7 x8 x9 false)
def spec_l5Chunks.j5 : Nat → ByteArray → ByteArray → Int → Int → Int → Bool → Option (ByteArray × Int × Int)
  | 0, _, _, _, _, _, _ => none
  | k + 1, x0, x5, x7, x8, x9, x79 => if x79 = true then (some ((⟨#[]⟩ : ByteArray), 0, 2)) else ((spec_l5Expect.f k x0 x8).bind fun t254 => (if t254 = 0 then (if x9 > (wrap64 ((x0.size : Int) - (wrap64 (x8 + 2)))) then (some ((⟨#[]⟩ : ByteArray), 0, 1)) else (if 0 ≤ (wrap64 (x8 + 2)) then (if (wrap64 (x8 + 2)) ≤ (wrap64 ((wrap64 (x8 + 2)) + x9)) then (if (wrap64 ((wrap64 (x8 + 2)) + x9)) ≤ (x0.size : Int) then (if x5.size + (x0.extract ((wrap64 (x8 + 2)) : Int).toNat ((wrap64 ((wrap64 (x8 + 2)) + x9)) : Int).toNat).size ≤ 9223372036854775807 then ((spec_l5Expect.f k x0 (wrap64 ((wrap64 (x8 + 2)) + x9))).bind fun t255 => (if t255 = 0 then (if x9 = 0 then (some (x5 ++ (x0.extract ((wrap64 (x8 + 2)) : Int).toNat ((wrap64 ((wrap64 (x8 + 2)) + x9)) : Int).toNat), wrap64 ((wrap64 ((wrap64 (x8 + 2)) + x9)) + 2), 0)) else (spec_l5Chunks.l0 k x0 (x5 ++ (x0.extract ((wrap64 (x8 + 2)) : Int).toNat ((wrap64 ((wrap64 (x8 + 2)) + x9)) : Int).toNat)) (wrap64 ((wrap64 ((wrap64 (x8 + 2)) + x9)) + 2)) (wrap64 (x7 + 1)))) else (some ((⟨#[]⟩ : ByteArray), 0, t255)))) else (none)) else (none)) else (none)) else (none))) else (some ((⟨#[]⟩ : ByteArray), 0, t254))))
end
def spec_l5Chunks.f (k : Nat) (a0 : ByteArray) : Option (ByteArray × Int × Int) := spec_l5Chunks.l0 k a0 (⟨#[]⟩ : ByteArray) 0 0
theorem spec_l5Chunks.mono_l : ∀ k, (∀ y0 y1 y2 y3, LeO (spec_l5Chunks.l0 k y0 y1 y2 y3) (spec_l5Chunks.l0 (k + 1) y0 y1 y2 y3)) ∧ (∀ y0 y1 y2 y3 y4, LeO (spec_l5Chunks.l1 k y0 y1 y2 y3 y4) (spec_l5Chunks.l1 (k + 1) y0 y1 y2 y3 y4)) ∧ (∀ y0 y1 y2 y3 y4 y5, LeO (spec_l5Chunks.j2 k y0 y1 y2 y3 y4 y5) (spec_l5Chunks.j2 (k + 1) y0 y1 y2 y3 y4 y5)) ∧ (∀ y0 y1 y2 y3 y4 y5, LeO (spec_l5Chunks.j3 k y0 y1 y2 y3 y4 y5) (spec_l5Chunks.j3 (k + 1) y0 y1 y2 y3 y4 y5)) ∧ (∀ y0 y1 y2 y3 y4, LeO (spec_l5Chunks.j4 k y0 y1 y2 y3 y4) (spec_l5Chunks.j4 (k + 1) y0 y1 y2 y3 y4)) ∧ (∀ y0 y1 y2 y3 y4 y5, LeO (spec_l5Chunks.j5 k y0 y1 y2 y3 y4 y5) (spec_l5Chunks.j5 (k + 1) y0 y1 y2 y3 y4 y5))
  | 0 => ⟨fun _ _ _ _ r h => by simp [spec_l5Chunks.l0] at h, fun _ _ _ _ _ r h => by simp [spec_l5Chunks.l1] at h, fun _ _ _ _ _ _ r h => by simp [spec_l5Chunks.j2] at h, fun _ _ _ _ _ _ r h => by simp [spec_l5Chunks.j3] at h, fun _ _ _ _ _ r h => by simp [spec_l5Chunks.j4] at h, fun _ _ _ _ _ _ r h => by simp [spec_l5Chunks.j5] at h⟩
  | k + 1 => by
    obtain ⟨ih0, ih1, ih2, ih3, ih4, ih5⟩ := spec_l5Chunks.mono_l k
    refine ⟨?_, ?_, ?_, ?_, ?_, ?_⟩
    · intro y0 y1 y2 y3
      unfold spec_l5Chunks.l0
      repeat' first
      | (with_reducible exact ih0 _ _ _ _)
      | (with_reducible exact ih1 _ _ _ _ _)
      | (with_reducible exact ih2 _ _ _ _ _ _)
      | (with_reducible exact ih3 _ _ _ _ _ _)
      | (with_reducible exact ih4 _ _ _ _ _)
      | (with_reducible exact ih5 _ _ _ _ _ _)
      | (with_reducible exact spec_l1Hex.mono _ _)
      | (with_reducible exact spec_l5Expect.mono _ _ _)
      | (with_reducible exact spec_l5Read.mono _ _)
      | (with_reducible exact LeO.refl _)
      | (with_reducible exact LeO.none _)
      | (with_reducible refine LeO.ite ?_ ?_)
      | (with_reducible refine LeO.bind ?_ (fun _ => ?_))
      | exact ih0 _ _ _ _
      | exact ih1 _ _ _ _ _
      | exact ih2 _ _ _ _ _ _
      | exact ih3 _ _ _ _ _ _
      | exact ih4 _ _ _ _ _
      | exact ih5 _ _ _ _ _ _
      | exact spec_l1Hex.mono _ _
      | exact spec_l5Expect.mono _ _ _
      | exact spec_l5Read.mono _ _
      | exact LeO.none _
      | refine LeO.ite ?_ ?_
      | refine LeO.bind ?_ (fun _ => ?_)
    · intro y0 y1 y2 y3 y4
      unfold spec_l5Chunks.l1
      repeat' first
      | (with_reducible exact ih0 _ _ _ _)
      | (with_reducible exact ih1 _ _ _ _ _)
      | (with_reducible exact ih2 _ _ _ _ _ _)
      | (with_reducible exact ih3 _ _ _ _ _ _)
      | (with_reducible exact ih4 _ _ _ _ _)
      | (with_reducible exact ih5 _ _ _ _ _ _)
      | (with_reducible exact spec_l1Hex.mono _ _)
      | (with_reducible exact spec_l5Expect.mono _ _ _)
      | (with_reducible exact spec_l5Read.mono _ _)
      | (with_reducible exact LeO.refl _)
      | (with_reducible exact LeO.none _)
      | (with_reducible refine LeO.ite ?_ ?_)
      | (with_reducible refine LeO.bind ?_ (fun _ => ?_))
      | exact ih0 _ _ _ _
      | exact ih1 _ _ _ _ _
      | exact ih2 _ _ _ _ _ _
      | exact ih3 _ _ _ _ _ _
      | exact ih4 _ _ _ _ _
      | exact ih5 _ _ _ _ _ _
      | exact spec_l1Hex.mono _ _
      | exact spec_l5Expect.mono _ _ _
      | exact spec_l5Read.mono _ _
      | exact LeO.none _
      | refine LeO.ite ?_ ?_
      | refine LeO.bind ?_ (fun _ => ?_)
    · intro y0 y1 y2 y3 y4 y5
      unfold spec_l5Chunks.j2
      repeat' first
      | (with_reducible exact ih0 _ _ _ _)
      | (with_reducible exact ih1 _ _ _ _ _)
      | (with_reducible exact ih2 _ _ _ _ _ _)
      | (with_reducible exact ih3 _ _ _ _ _ _)
      | (with_reducible exact ih4 _ _ _ _ _)
      | (with_reducible exact ih5 _ _ _ _ _ _)
      | (with_reducible exact spec_l1Hex.mono _ _)
      | (with_reducible exact spec_l5Expect.mono _ _ _)
      | (with_reducible exact spec_l5Read.mono _ _)
      | (with_reducible exact LeO.refl _)
      | (with_reducible exact LeO.none _)
      | (with_reducible refine LeO.ite ?_ ?_)
      | (with_reducible refine LeO.bind ?_ (fun _ => ?_))
      | exact ih0 _ _ _ _
      | exact ih1 _ _ _ _ _
      | exact ih2 _ _ _ _ _ _
      | exact ih3 _ _ _ _ _ _
      | exact ih4 _ _ _ _ _
      | exact ih5 _ _ _ _ _ _
      | exact spec_l1Hex.mono _ _
      | exact spec_l5Expect.mono _ _ _
      | exact spec_l5Read.mono _ _
      | exact LeO.none _
      | refine LeO.ite ?_ ?_
      | refine LeO.bind ?_ (fun _ => ?_)
    · intro y0 y1 y2 y3 y4 y5
      unfold spec_l5Chunks.j3
      repeat' first
      | (with_reducible exact ih0 _ _ _ _)
      | (with_reducible exact ih1 _ _ _ _ _)
      | (with_reducible exact ih2 _ _ _ _ _ _)
      | (with_reducible exact ih3 _ _ _ _ _ _)
      | (with_reducible exact ih4 _ _ _ _ _)
      | (with_reducible exact ih5 _ _ _ _ _ _)
      | (with_reducible exact spec_l1Hex.mono _ _)
      | (with_reducible exact spec_l5Expect.mono _ _ _)
      | (with_reducible exact spec_l5Read.mono _ _)
      | (with_reducible exact LeO.refl _)
      | (with_reducible exact LeO.none _)
      | (with_reducible refine LeO.ite ?_ ?_)
      | (with_reducible refine LeO.bind ?_ (fun _ => ?_))
      | exact ih0 _ _ _ _
      | exact ih1 _ _ _ _ _
      | exact ih2 _ _ _ _ _ _
      | exact ih3 _ _ _ _ _ _
      | exact ih4 _ _ _ _ _
      | exact ih5 _ _ _ _ _ _
      | exact spec_l1Hex.mono _ _
      | exact spec_l5Expect.mono _ _ _
      | exact spec_l5Read.mono _ _
      | exact LeO.none _
      | refine LeO.ite ?_ ?_
      | refine LeO.bind ?_ (fun _ => ?_)
    · intro y0 y1 y2 y3 y4
      unfold spec_l5Chunks.j4
      repeat' first
      | (with_reducible exact ih0 _ _ _ _)
      | (with_reducible exact ih1 _ _ _ _ _)
      | (with_reducible exact ih2 _ _ _ _ _ _)
      | (with_reducible exact ih3 _ _ _ _ _ _)
      | (with_reducible exact ih4 _ _ _ _ _)
      | (with_reducible exact ih5 _ _ _ _ _ _)
      | (with_reducible exact spec_l1Hex.mono _ _)
      | (with_reducible exact spec_l5Expect.mono _ _ _)
      | (with_reducible exact spec_l5Read.mono _ _)
      | (with_reducible exact LeO.refl _)
      | (with_reducible exact LeO.none _)
      | (with_reducible refine LeO.ite ?_ ?_)
      | (with_reducible refine LeO.bind ?_ (fun _ => ?_))
      | exact ih0 _ _ _ _
      | exact ih1 _ _ _ _ _
      | exact ih2 _ _ _ _ _ _
      | exact ih3 _ _ _ _ _ _
      | exact ih4 _ _ _ _ _
      | exact ih5 _ _ _ _ _ _
      | exact spec_l1Hex.mono _ _
      | exact spec_l5Expect.mono _ _ _
      | exact spec_l5Read.mono _ _
      | exact LeO.none _
      | refine LeO.ite ?_ ?_
      | refine LeO.bind ?_ (fun _ => ?_)
    · intro y0 y1 y2 y3 y4 y5
      unfold spec_l5Chunks.j5
      repeat' first
      | (with_reducible exact ih0 _ _ _ _)
      | (with_reducible exact ih1 _ _ _ _ _)
      | (with_reducible exact ih2 _ _ _ _ _ _)
      | (with_reducible exact ih3 _ _ _ _ _ _)
      | (with_reducible exact ih4 _ _ _ _ _)
      | (with_reducible exact ih5 _ _ _ _ _ _)
      | (with_reducible exact spec_l1Hex.mono _ _)
      | (with_reducible exact spec_l5Expect.mono _ _ _)
      | (with_reducible exact spec_l5Read.mono _ _)
      | (with_reducible exact LeO.refl _)
      | (with_reducible exact LeO.none _)
      | (with_reducible refine LeO.ite ?_ ?_)
      | (with_reducible refine LeO.bind ?_ (fun _ => ?_))
      | exact ih0 _ _ _ _
      | exact ih1 _ _ _ _ _
      | exact ih2 _ _ _ _ _ _
      | exact ih3 _ _ _ _ _ _
      | exact ih4 _ _ _ _ _
      | exact ih5 _ _ _ _ _ _
      | exact spec_l1Hex.mono _ _
      | exact spec_l5Expect.mono _ _ _
      | exact spec_l5Read.mono _ _
      | exact LeO.none _
      | refine LeO.ite ?_ ?_
      | refine LeO.bind ?_ (fun _ => ?_)
theorem spec_l5Chunks.mono : ∀ a0 k, LeO (spec_l5Chunks.f k a0) (spec_l5Chunks.f (k + 1) a0) := by
  intro a0 k
  obtain ⟨ih0, ih1, ih2, ih3, ih4, ih5⟩ := spec_l5Chunks.mono_l k
  unfold spec_l5Chunks.f
  repeat' first
      | (with_reducible exact ih0 _ _ _ _)
      | (with_reducible exact ih1 _ _ _ _ _)
      | (with_reducible exact ih2 _ _ _ _ _ _)
      | (with_reducible exact ih3 _ _ _ _ _ _)
      | (with_reducible exact ih4 _ _ _ _ _)
      | (with_reducible exact ih5 _ _ _ _ _ _)
      | (with_reducible exact spec_l1Hex.mono _ _)
      | (with_reducible exact spec_l5Expect.mono _ _ _)
      | (with_reducible exact spec_l5Read.mono _ _)
      | (with_reducible exact LeO.refl _)
      | (with_reducible exact LeO.none _)
      | (with_reducible refine LeO.ite ?_ ?_)
      | (with_reducible refine LeO.bind ?_ (fun _ => ?_))
      | exact ih0 _ _ _ _
      | exact ih1 _ _ _ _ _
      | exact ih2 _ _ _ _ _ _
      | exact ih3 _ _ _ _ _ _
      | exact ih4 _ _ _ _ _
      | exact ih5 _ _ _ _ _ _
      | exact spec_l1Hex.mono _ _
      | exact spec_l5Expect.mono _ _ _
      | exact spec_l5Read.mono _ _
      | exact LeO.none _
      | refine LeO.ite ?_ ?_
      | refine LeO.bind ?_ (fun _ => ?_)
set_option maxHeartbeats 8000000 in
set_option maxRecDepth 100000 in
theorem spec_l5Chunks.calls (k : Nat) (a0 : ByteArray) (r1 : ByteArray) (r2 : Int) (r3 : Int) (w : World) (h : spec_l5Chunks.f k a0 = some (r1, r2, r3)) :
    Calls Try.prog 56 #[.string a0] w fun e w' => e = .returned (.tuple #[.string r1, .int .i64 r2, .int .i64 r3]) ∧ Below w.heap.size w w' := by
  have HB := Aside0.mk (Below.refl w.heap.size w)
  have H : (spec_l5Chunks.l0 k a0 (⟨#[]⟩ : ByteArray) 0 0) = some (r1, r2, r3) := h
  clear h
  have H' := Aside0.mk H
  clear H
  go_enter Try.func56, Try.ntmps56
  go_wp2
  go_loopg [5, 6, 7] k (fun kq v5 v6 v7 w' => ∃ (x5_1 : ByteArray) (x6_1 : Int) (x7_1 : Int), v5 = .string x5_1 ∧ v6 = .int .i64 x6_1 ∧ v7 = .int .i64 x7_1 ∧ Aside0 (spec_l5Chunks.l0 kq a0 x5_1 x6_1 x7_1 = some (r1, r2, r3)) ∧ Aside0 (kq ≤ k) ∧ Aside0 (Below w.heap.size w w'))
  case atStart => exact ⟨((⟨#[]⟩ : ByteArray)), (0), (0), (by first | rfl | (simp; done) | (simp [*]; done)), (by first | rfl | (simp; done) | (simp [*]; done)), (by first | rfl | (simp; done) | (simp [*]; done)), H', ⟨Nat.le_refl _⟩, ⟨by repeat (first | (with_reducible first | exact HB.out | apply below_alloc | apply pw_below_drewN | apply below_drew1) | exact HB.out)⟩⟩
  case round =>
    clear H'
    obtain ⟨x5_1, x6_1, x7_1, rfl, rfl, rfl, HA, HK1, HB⟩ := hrel
    cases gk with
    | zero => exact absurd HA.out (by simp [spec_l5Chunks.l0])
    | succ k1 =>
      have H := HA.out
      clear HA
      simp only [spec_l5Chunks.l0] at H
      have H' := Aside0.mk H
      clear H
      go_wp2
      go_loopg [8] k1 (fun kq v8 w' => ∃ (x8_2 : Int), v8 = .int .i64 x8_2 ∧ Aside0 (spec_l5Chunks.l1 kq a0 x5_1 x6_1 x7_1 x8_2 = some (r1, r2, r3)) ∧ Aside0 (kq ≤ k1) ∧ Aside0 (Below w.heap.size w w'))
      case atStart => exact ⟨(x6_1), (by first | rfl | (simp; done) | (simp [*]; done)), H', ⟨Nat.le_refl _⟩, ⟨by repeat (first | (with_reducible first | exact HB.out | apply below_alloc | apply pw_below_drewN | apply below_drew1) | exact HB.out)⟩⟩
      case round =>
        clear H'
        obtain ⟨x8_2, rfl, HA, HK2, HB⟩ := hrel
        cases gk with
        | zero => exact absurd HA.out (by simp [spec_l5Chunks.l1])
        | succ k2 =>
          have H := HA.out
          clear HA
          simp only [spec_l5Chunks.l1] at H
          have HC2 := Aside0.mk H
          clear H
          go_upto_region 6 with (fail)
          go_cut [30] (fun v30 wc => ∃ (kq : Nat) (x30_1 : Bool), v30 = .bool x30_1 ∧ Aside0 (spec_l5Chunks.j2 kq a0 x5_1 x6_1 x7_1 x8_2 x30_1 = some (r1, r2, r3)) ∧ Aside0 (kq ≤ k2) ∧ Aside0 (Below w.heap.size w wc))
          case first =>
            have H := HC2.out
            clear HC2
            by_cases c3 : x8_2 < (a0.size : Int)
            · rw [if_pos c3] at H
              have c3b0 : decide (x8_2 < (a0.size : Int)) = true := decide_eq_true c3
              clear c3
              (first | rw [c3b0] | (simp only [i64_w, i32_w]; rw [c3b0]) | skip)
              by_cases c4 : (wrap64 (x8_2 - x6_1)) < 5
              · rw [if_pos c4] at H
                have c4b0 : decide ((wrap64 (x8_2 - x6_1)) < 5) = true := decide_eq_true c4
                clear c4
                by_cases c5 : 0 ≤ x8_2
                · rw [if_pos c5] at H
                  have c5b0 : decide (0 ≤ x8_2) = true := decide_eq_true c5
                  clear c5
                  have H' := Aside0.mk H
                  clear H
                  have p6 : 0 ≤ (x8_2 : Int) := of_decide_eq_true (by first | (with_reducible assumption) | assumption)
                  have q6 : x8_2 < (a0.size : Int) := of_decide_eq_true (by first | (with_reducible assumption) | assumption)
                  have hx6 := bt_at a0 x8_2
                  replace p6 := eq_true p6
                  replace q6 := eq_true q6
                  go_wp2
                  go_meet
                  case rel => exact ⟨_, (((bt a0 x8_2) != 13)), (by first | rfl | (simp; done) | (simp [*]; done)), H', ⟨by have := HK1.out; have := HK2.out; first | omega | exact Nat.le_refl _⟩, ⟨by repeat (first | (with_reducible first | exact HB.out | apply below_alloc | apply pw_below_drewN | apply below_drew1) | exact HB.out)⟩⟩
                · rw [if_neg c5] at H
                  exact absurd H (by simp)
              · rw [if_neg c4] at H
                have c4b0 : decide ((wrap64 (x8_2 - x6_1)) < 5) = false := decide_eq_false c4
                clear c4
                have H' := Aside0.mk H
                clear H
                go_wp2
                go_meet
                case rel => exact ⟨_, (false), (by first | rfl | (simp; done) | (simp [*]; done)), H', ⟨by have := HK1.out; have := HK2.out; first | omega | exact Nat.le_refl _⟩, ⟨by repeat (first | (with_reducible first | exact HB.out | apply below_alloc | apply pw_below_drewN | apply below_drew1) | exact HB.out)⟩⟩
            · rw [if_neg c3] at H
              have c3b0 : decide (x8_2 < (a0.size : Int)) = false := decide_eq_false c3
              clear c3
              (first | rw [c3b0] | (simp only [i64_w, i32_w]; rw [c3b0]) | skip)
              have H' := Aside0.mk H
              clear H
              go_wp2
              go_meet
              case rel => exact ⟨_, (false), (by first | rfl | (simp; done) | (simp [*]; done)), H', ⟨by have := HK1.out; have := HK2.out; first | omega | exact Nat.le_refl _⟩, ⟨by repeat (first | (with_reducible first | exact HB.out | apply below_alloc | apply pw_below_drewN | apply below_drew1) | exact HB.out)⟩⟩
          case rest =>
            clear HC2
            try clear p2
            try clear c3
            try clear c3b0
            try clear c4
            try clear c4b0
            try clear c5
            try clear c5b0
            try clear p6
            try clear q6
            try clear hx6
            try clear p6
            try clear q6
            obtain ⟨kq, x30_1, rfl, HA, HJ1, HB⟩ := hcut
            cases kq with
            | zero => exact absurd HA.out (by simp [spec_l5Chunks.j2])
            | succ kj1 =>
              have H := HA.out
              clear HA
              simp only [spec_l5Chunks.j2] at H
              by_cases c7 : x30_1 = true
              · subst c7
                have H1 : (if 0 ≤ x8_2 then (if x8_2 < (a0.size : Int) then ((spec_l1Hex.f kj1 (bt a0 x8_2)).bind fun t252 => (if t252 < 0 then (some ((⟨#[]⟩ : ByteArray), 0, 2)) else (spec_l5Chunks.l1 kj1 a0 x5_1 x6_1 x7_1 (wrap64 (x8_2 + 1))))) else (none)) else (none)) = some (r1, r2, r3) := by rw [if_pos rfl] at H; exact H
                clear H
                have H := H1
                clear H1
                by_cases c8 : 0 ≤ x8_2
                · rw [if_pos c8] at H
                  have c8b0 : decide (0 ≤ x8_2) = true := decide_eq_true c8
                  clear c8
                  by_cases c9 : x8_2 < (a0.size : Int)
                  · rw [if_pos c9] at H
                    have c9b0 : decide (x8_2 < (a0.size : Int)) = true := decide_eq_true c9
                    clear c9
                    replace H := Option.bind_eq_some_iff.mp H
                    obtain ⟨t252, A110, H⟩ := H
                    replace H : (if t252 < 0 then (some ((⟨#[]⟩ : ByteArray), 0, 2)) else (spec_l5Chunks.l1 kj1 a0 x5_1 x6_1 x7_1 (wrap64 (x8_2 + 1)))) = some (r1, r2, r3) := H
                    have A11 := Aside0.mk A110
                    clear A110
                    by_cases c12 : t252 < 0
                    · rw [if_pos c12] at H
                      have c12b0 : decide (t252 < 0) = true := decide_eq_true c12
                      clear c12
                      simp only [Option.some.injEq, Prod.mk.injEq] at H
                      obtain ⟨rfl, rfl, rfl⟩ := H
                      have p10 : 0 ≤ (x8_2 : Int) := of_decide_eq_true (by first | (with_reducible assumption) | assumption)
                      have q10 : x8_2 < (a0.size : Int) := of_decide_eq_true (by first | (with_reducible assumption) | assumption)
                      have hx10 := bt_at a0 x8_2
                      replace p10 := eq_true p10
                      replace q10 := eq_true q10
                      go_wp2_with (first | ((with_reducible refine gate_callee (f := 64) rfl ?_); refine goesL_ (some 34) rfl rfl Try.func64 (by kernel_rfl) rfl #[.int .u8 (bt a0 x8_2)] rfl (by (try simp only [List.map_toArray, List.map_cons, List.map_nil]); first | done | rfl | (simp only [List.length_drop, List.length_take]; rfl)) ?_; (with_reducible refine (spec_l1Hex.calls kj1 (bt a0 x8_2) t252 _ A11.out).mono ?_); rintro e w' ⟨rfl, ⟨nd, rfl⟩⟩; refine ⟨_, rfl, ?_⟩))
                      go_ret3
                      exact ⟨by first | rfl | (simp [errW_none, errW_some] <;> rfl) | (simp [*, errW_none, errW_some] <;> rfl), by repeat (first | (with_reducible first | exact HB.out | apply below_alloc | apply pw_below_drewN | apply below_drew1) | exact HB.out)⟩
                    · rw [if_neg c12] at H
                      have c12b0 : decide (t252 < 0) = false := decide_eq_false c12
                      clear c12
                      have H' := Aside0.mk H
                      clear H
                      have p10 : 0 ≤ (x8_2 : Int) := of_decide_eq_true (by first | (with_reducible assumption) | assumption)
                      have q10 : x8_2 < (a0.size : Int) := of_decide_eq_true (by first | (with_reducible assumption) | assumption)
                      have hx10 := bt_at a0 x8_2
                      replace p10 := eq_true p10
                      replace q10 := eq_true q10
                      go_wp2_with (first | ((with_reducible refine gate_callee (f := 64) rfl ?_); refine goesL_ (some 34) rfl rfl Try.func64 (by kernel_rfl) rfl #[.int .u8 (bt a0 x8_2)] rfl (by (try simp only [List.map_toArray, List.map_cons, List.map_nil]); first | done | rfl | (simp only [List.length_drop, List.length_take]; rfl)) ?_; (with_reducible refine (spec_l1Hex.calls kj1 (bt a0 x8_2) t252 _ A11.out).mono ?_); rintro e w' ⟨rfl, ⟨nd, rfl⟩⟩; refine ⟨_, rfl, ?_⟩))
                      go_roundg kj1
                      case measure => have := HK1.out; have := HK2.out; have := HJ1.out; omega
                      case rel => exact ⟨(wrap64 (x8_2 + 1)), (by first | rfl | (simp; done) | (simp [*]; done)), H', ⟨by have := HK1.out; have := HK2.out; have := HJ1.out; omega⟩, ⟨by repeat (first | (with_reducible first | exact HB.out | apply below_alloc | apply pw_below_drewN | apply below_drew1) | exact HB.out)⟩⟩
                  · rw [if_neg c9] at H
                    exact absurd H (by simp)
                · rw [if_neg c8] at H
                  exact absurd H (by simp)
              · replace c7 := Bool.eq_false_iff.mpr c7
                subst c7
                have H1 : (if (wrap64 (x8_2 - x6_1)) > 4 then (spec_l5Chunks.j3 kj1 a0 x5_1 x6_1 x7_1 x8_2 true) else (if x8_2 = x6_1 then (spec_l5Chunks.j3 kj1 a0 x5_1 x6_1 x7_1 x8_2 (decide (x8_2 < (a0.size : Int)))) else (spec_l5Chunks.j3 kj1 a0 x5_1 x6_1 x7_1 x8_2 false))) = some (r1, r2, r3) := by rw [if_neg (show ¬ (false = true) by decide)] at H; exact H
                clear H
                have H := H1
                clear H1
                have HC13 := Aside0.mk H
                clear H
                go_upto_region 10 with (fail)
                go_cut [52] (fun v52 wc => ∃ (kq : Nat) (x52_12 : Bool), v52 = .bool x52_12 ∧ Aside0 (spec_l5Chunks.j3 kq a0 x5_1 x6_1 x7_1 x8_2 x52_12 = some (r1, r2, r3)) ∧ Aside0 (kq ≤ kj1) ∧ Aside0 (Below w.heap.size w wc))
                case first =>
                  have H := HC13.out
                  clear HC13
                  by_cases c14 : (wrap64 (x8_2 - x6_1)) > 4
                  · rw [if_pos c14] at H
                    have c14b0 : decide (4 < (wrap64 (x8_2 - x6_1))) = true := decide_eq_true c14
                    clear c14
                    (first | rw [c14b0] | (simp only [i64_w, i32_w]; rw [c14b0]) | skip)
                    have H' := Aside0.mk H
                    clear H
                    go_wp2
                    go_meet
                    case rel => exact ⟨_, (true), (by first | rfl | (simp; done) | (simp [*]; done)), H', ⟨by have := HK1.out; have := HK2.out; have := HJ1.out; first | omega | exact Nat.le_refl _⟩, ⟨by repeat (first | (with_reducible first | exact HB.out | apply below_alloc | apply pw_below_drewN | apply below_drew1) | exact HB.out)⟩⟩
                  · rw [if_neg c14] at H
                    have c14b0 : decide (4 < (wrap64 (x8_2 - x6_1))) = false := decide_eq_false c14
                    clear c14
                    (first | rw [c14b0] | (simp only [i64_w, i32_w]; rw [c14b0]) | skip)
                    by_cases c15 : x8_2 = x6_1
                    · rw [if_pos c15] at H
                      have c15b0 : (x8_2 == x6_1) = true := beq_iff_eq.mpr c15
                      have c15b1 : (x8_2 != x6_1) = false := bne_eq_false_iff_eq.mpr c15
                      clear c15
                      have H' := Aside0.mk H
                      clear H
                      go_wp2
                      go_meet
                      case rel => exact ⟨_, (decide (x8_2 < (a0.size : Int))), (by first | rfl | (simp; done) | (simp [*]; done)), H', ⟨by have := HK1.out; have := HK2.out; have := HJ1.out; first | omega | exact Nat.le_refl _⟩, ⟨by repeat (first | (with_reducible first | exact HB.out | apply below_alloc | apply pw_below_drewN | apply below_drew1) | exact HB.out)⟩⟩
                    · rw [if_neg c15] at H
                      have c15b0 : (x8_2 == x6_1) = false := beq_eq_false_iff_ne.mpr c15
                      have c15b1 : (x8_2 != x6_1) = true := bne_iff_ne.mpr c15
                      have H' := Aside0.mk H
                      clear H
                      go_wp2
                      go_meet
                      case rel => exact ⟨_, (false), (by first | rfl | (simp; done) | (simp [*]; done)), H', ⟨by have := HK1.out; have := HK2.out; have := HJ1.out; first | omega | exact Nat.le_refl _⟩, ⟨by repeat (first | (with_reducible first | exact HB.out | apply below_alloc | apply pw_below_drewN | apply below_drew1) | exact HB.out)⟩⟩
                case rest =>
                  clear HC13
                  try clear c1
                  try clear p1
                  try clear q1
                  try clear hx1
                  try clear p2
                  try clear c3
                  try clear c3b0
                  try clear c4
                  try clear c4b0
                  try clear c5
                  try clear c5b0
                  try clear c6
                  try clear p6
                  try clear q6
                  try clear hx6
                  try clear c7
                  try clear c8
                  try clear c8b0
                  try clear c9
                  try clear c9b0
                  try clear p10
                  try clear q10
                  try clear hx10
                  try clear c12
                  try clear c12b0
                  try clear c14
                  try clear c14b0
                  try clear c15
                  try clear c15b0
                  try clear c15b1
                  try clear p10
                  try clear p2
                  try clear p6
                  try clear q10
                  try clear q6
                  obtain ⟨kq, x52_12, rfl, HA, HJ12, HB⟩ := hcut
                  cases kq with
                  | zero => exact absurd HA.out (by simp [spec_l5Chunks.j3])
                  | succ kj12 =>
                    have H := HA.out
                    clear HA
                    simp only [spec_l5Chunks.j3] at H
                    by_cases c16 : x52_12 = true
                    · subst c16
                      have H1 : (some ((⟨#[]⟩ : ByteArray), 0, 2)) = some (r1, r2, r3) := by rw [if_pos rfl] at H; exact H
                      clear H
                      have H := H1
                      clear H1
                      simp only [Option.some.injEq, Prod.mk.injEq] at H
                      obtain ⟨rfl, rfl, rfl⟩ := H
                      go_wp2
                      go_ret3
                      exact ⟨by first | rfl | (simp [errW_none, errW_some] <;> rfl) | (simp [*, errW_none, errW_some] <;> rfl), by repeat (first | (with_reducible first | exact HB.out | apply below_alloc | apply pw_below_drewN | apply below_drew1) | exact HB.out)⟩
                    · replace c16 := Bool.eq_false_iff.mpr c16
                      subst c16
                      have H1 : (if x8_2 > x6_1 then (if 0 ≤ x6_1 then (if x6_1 ≤ x8_2 then (if x8_2 ≤ (a0.size : Int) then ((spec_l5Read.f kj12 (a0.extract (x6_1 : Int).toNat (x8_2 : Int).toNat)).bind fun t253 => (spec_l5Chunks.j4 kj12 a0 x5_1 x7_1 x8_2 t253)) else (none)) else (none)) else (none)) else (spec_l5Chunks.j4 kj12 a0 x5_1 x7_1 x8_2 0)) = some (r1, r2, r3) := by rw [if_neg (show ¬ (false = true) by decide)] at H; exact H
                      clear H
                      have H := H1
                      clear H1
                      have HC17 := Aside0.mk H
                      clear H
                      go_upto_if 55 with (fail)
                      go_cut [9] (fun v9 wc => ∃ (kq : Nat) (x9_16 : Int), v9 = .int .i64 x9_16 ∧ Aside0 (spec_l5Chunks.j4 kq a0 x5_1 x7_1 x8_2 x9_16 = some (r1, r2, r3)) ∧ Aside0 (kq ≤ kj12) ∧ Aside0 (Below w.heap.size w wc))
                      case first =>
                        have H := HC17.out
                        clear HC17
                        by_cases c18 : x8_2 > x6_1
                        · rw [if_pos c18] at H
                          have c18b0 : decide (x6_1 < x8_2) = true := decide_eq_true c18
                          clear c18
                          (first | rw [c18b0] | (simp only [i64_w, i32_w]; rw [c18b0]) | skip)
                          by_cases c19 : 0 ≤ x6_1
                          · rw [if_pos c19] at H
                            have c19b0 := eq_true c19
                            have c19b1 : decide (0 ≤ x6_1) = true := decide_eq_true c19
                            clear c19
                            by_cases c20 : x6_1 ≤ x8_2
                            · rw [if_pos c20] at H
                              have c20b0 := eq_true c20
                              have c20b1 : decide (x6_1 ≤ x8_2) = true := decide_eq_true c20
                              clear c20
                              by_cases c21 : x8_2 ≤ (a0.size : Int)
                              · rw [if_pos c21] at H
                                have c21b0 := eq_true c21
                                have c21b1 : decide (x8_2 ≤ (a0.size : Int)) = true := decide_eq_true c21
                                clear c21
                                replace H := Option.bind_eq_some_iff.mp H
                                obtain ⟨t253, A220, H⟩ := H
                                replace H : (spec_l5Chunks.j4 kj12 a0 x5_1 x7_1 x8_2 t253) = some (r1, r2, r3) := H
                                have A22 := Aside0.mk A220
                                clear A220
                                have H' := Aside0.mk H
                                clear H
                                go_wp2_with (first | ((with_reducible refine gate_callee (f := 65) rfl ?_); refine goesL_ (some 60) rfl rfl Try.func65 (by kernel_rfl) rfl #[.string (a0.extract (x6_1 : Int).toNat (x8_2 : Int).toNat)] rfl (by (try simp only [List.map_toArray, List.map_cons, List.map_nil]); first | done | rfl | (simp only [List.length_drop, List.length_take]; rfl)) ?_; (with_reducible refine (spec_l5Read.calls kj12 (a0.extract (x6_1 : Int).toNat (x8_2 : Int).toNat) t253 _ A22.out).mono ?_); rintro e w' ⟨rfl, ⟨nd, rfl⟩⟩; refine ⟨_, rfl, ?_⟩))
                                go_meet
                                case rel => exact ⟨_, (t253), (by first | rfl | (simp; done) | (simp [*]; done)), H', ⟨by have := HK1.out; have := HK2.out; have := HJ1.out; have := HJ12.out; first | omega | exact Nat.le_refl _⟩, ⟨by repeat (first | (with_reducible first | exact HB.out | apply below_alloc | apply pw_below_drewN | apply below_drew1) | exact HB.out)⟩⟩
                              · rw [if_neg c21] at H
                                exact absurd H (by simp)
                            · rw [if_neg c20] at H
                              exact absurd H (by simp)
                          · rw [if_neg c19] at H
                            exact absurd H (by simp)
                        · rw [if_neg c18] at H
                          have c18b0 : decide (x6_1 < x8_2) = false := decide_eq_false c18
                          clear c18
                          (first | rw [c18b0] | (simp only [i64_w, i32_w]; rw [c18b0]) | skip)
                          have H' := Aside0.mk H
                          clear H
                          go_wp2
                          go_meet
                          case rel => exact ⟨_, (0), (by first | rfl | (simp; done) | (simp [*]; done)), H', ⟨by have := HK1.out; have := HK2.out; have := HJ1.out; have := HJ12.out; first | omega | exact Nat.le_refl _⟩, ⟨by repeat (first | (with_reducible first | exact HB.out | apply below_alloc | apply pw_below_drewN | apply below_drew1) | exact HB.out)⟩⟩
                      case rest =>
                        clear HC17
                        try clear c1
                        try clear p1
                        try clear q1
                        try clear hx1
                        try clear c2
                        try clear p2
                        try clear c3
                        try clear c3b0
                        try clear c4
                        try clear c4b0
                        try clear c5
                        try clear c5b0
                        try clear c6
                        try clear p6
                        try clear q6
                        try clear hx6
                        try clear c7
                        try clear c8
                        try clear c8b0
                        try clear c9
                        try clear c9b0
                        try clear p10
                        try clear q10
                        try clear hx10
                        try clear c12
                        try clear c12b0
                        try clear c14
                        try clear c14b0
                        try clear c15
                        try clear c15b0
                        try clear c15b1
                        try clear c16
                        try clear c18
                        try clear c18b0
                        try clear c19
                        try clear c19b0
                        try clear c19b1
                        try clear c20
                        try clear c20b0
                        try clear c20b1
                        try clear c21
                        try clear c21b0
                        try clear c21b1
                        try clear p1
                        try clear p10
                        try clear p2
                        try clear p6
                        try clear q1
                        try clear q10
                        try clear q6
                        obtain ⟨kq, x9_16, rfl, HA, HJ16, HB⟩ := hcut
                        cases kq with
                        | zero => exact absurd HA.out (by simp [spec_l5Chunks.j4])
                        | succ kj16 =>
                          have H := HA.out
                          clear HA
                          simp only [spec_l5Chunks.j4] at H
                          have HC23 := Aside0.mk H
                          clear H
                          go_upto_region 15 with (fail)
                          go_cut [79] (fun v79 wc => ∃ (kq : Nat) (x79_22 : Bool), v79 = .bool x79_22 ∧ Aside0 (spec_l5Chunks.j5 kq a0 x5_1 x7_1 x8_2 x9_16 x79_22 = some (r1, r2, r3)) ∧ Aside0 (kq ≤ kj16) ∧ Aside0 (Below w.heap.size w wc))
                          case first =>
                            have H := HC23.out
                            clear HC23
                            by_cases c24 : x8_2 < (a0.size : Int)
                            · rw [if_pos c24] at H
                              have c24b0 : decide (x8_2 < (a0.size : Int)) = true := decide_eq_true c24
                              clear c24
                              (first | rw [c24b0] | (simp only [i64_w, i32_w]; rw [c24b0]) | skip)
                              by_cases c25 : (wrap64 ((x5_1.size : Int) + x9_16)) > 300
                              · rw [if_pos c25] at H
                                have c25b0 : decide (300 < (wrap64 ((x5_1.size : Int) + x9_16))) = true := decide_eq_true c25
                                clear c25
                                have H' := Aside0.mk H
                                clear H
                                go_wp2
                                go_meet
                                case rel => exact ⟨_, (true), (by first | rfl | (simp; done) | (simp [*]; done)), H', ⟨by have := HK1.out; have := HK2.out; have := HJ1.out; have := HJ12.out; have := HJ16.out; first | omega | exact Nat.le_refl _⟩, ⟨by repeat (first | (with_reducible first | exact HB.out | apply below_alloc | apply pw_below_drewN | apply below_drew1) | exact HB.out)⟩⟩
                              · rw [if_neg c25] at H
                                have c25b0 : decide (300 < (wrap64 ((x5_1.size : Int) + x9_16))) = false := decide_eq_false c25
                                clear c25
                                by_cases c26 : x9_16 > 0
                                · rw [if_pos c26] at H
                                  have c26b0 : decide (0 < x9_16) = true := decide_eq_true c26
                                  clear c26
                                  have H' := Aside0.mk H
                                  clear H
                                  go_wp2
                                  go_meet
                                  case rel => exact ⟨_, ((x7_1 == 60)), (by first | rfl | (simp; done) | (simp [*]; done)), H', ⟨by have := HK1.out; have := HK2.out; have := HJ1.out; have := HJ12.out; have := HJ16.out; first | omega | exact Nat.le_refl _⟩, ⟨by repeat (first | (with_reducible first | exact HB.out | apply below_alloc | apply pw_below_drewN | apply below_drew1) | exact HB.out)⟩⟩
                                · rw [if_neg c26] at H
                                  have c26b0 : decide (0 < x9_16) = false := decide_eq_false c26
                                  clear c26
                                  have H' := Aside0.mk H
                                  clear H
                                  go_wp2
                                  go_meet
                                  case rel => exact ⟨_, (false), (by first | rfl | (simp; done) | (simp [*]; done)), H', ⟨by have := HK1.out; have := HK2.out; have := HJ1.out; have := HJ12.out; have := HJ16.out; first | omega | exact Nat.le_refl _⟩, ⟨by repeat (first | (with_reducible first | exact HB.out | apply below_alloc | apply pw_below_drewN | apply below_drew1) | exact HB.out)⟩⟩
                            · rw [if_neg c24] at H
                              have c24b0 : decide (x8_2 < (a0.size : Int)) = false := decide_eq_false c24
                              clear c24
                              (first | rw [c24b0] | (simp only [i64_w, i32_w]; rw [c24b0]) | skip)
                              have H' := Aside0.mk H
                              clear H
                              go_wp2
                              go_meet
                              case rel => exact ⟨_, (false), (by first | rfl | (simp; done) | (simp [*]; done)), H', ⟨by have := HK1.out; have := HK2.out; have := HJ1.out; have := HJ12.out; have := HJ16.out; first | omega | exact Nat.le_refl _⟩, ⟨by repeat (first | (with_reducible first | exact HB.out | apply below_alloc | apply pw_below_drewN | apply below_drew1) | exact HB.out)⟩⟩
                          case rest =>
                            clear HC23
                            try clear c1
                            try clear p1
                            try clear q1
                            try clear hx1
                            try clear c2
                            try clear p2
                            try clear c3
                            try clear c3b0
                            try clear c4
                            try clear c4b0
                            try clear c5
                            try clear c5b0
                            try clear c6
                            try clear p6
                            try clear q6
                            try clear hx6
                            try clear c7
                            try clear c8
                            try clear c8b0
                            try clear c9
                            try clear c9b0
                            try clear p10
                            try clear q10
                            try clear hx10
                            try clear c12
                            try clear c12b0
                            try clear c14
                            try clear c14b0
                            try clear c15
                            try clear c15b0
                            try clear c15b1
                            try clear c16
                            try clear c18
                            try clear c18b0
                            try clear c19
                            try clear c19b0
                            try clear c19b1
                            try clear c20
                            try clear c20b0
                            try clear c20b1
                            try clear c21
                            try clear c21b0
                            try clear c21b1
                            try clear c24
                            try clear c24b0
                            try clear c25
                            try clear c25b0
                            try clear c26
                            try clear c26b0
                            try clear p1
                            try clear p10
                            try clear p2
                            try clear p6
                            try clear q1
                            try clear q10
                            try clear q6
                            obtain ⟨kq, x79_22, rfl, HA, HJ22, HB⟩ := hcut
                            cases kq with
                            | zero => exact absurd HA.out (by simp [spec_l5Chunks.j5])
                            | succ kj22 =>
                              have H := HA.out
                              clear HA
                              simp only [spec_l5Chunks.j5] at H
                              by_cases c27 : x79_22 = true
                              · subst c27
                                have H1 : (some ((⟨#[]⟩ : ByteArray), 0, 2)) = some (r1, r2, r3) := by rw [if_pos rfl] at H; exact H
                                clear H
                                have H := H1
                                clear H1
                                simp only [Option.some.injEq, Prod.mk.injEq] at H
                                obtain ⟨rfl, rfl, rfl⟩ := H
                                go_wp2
                                go_ret3
                                exact ⟨by first | rfl | (simp [errW_none, errW_some] <;> rfl) | (simp [*, errW_none, errW_some] <;> rfl), by repeat (first | (with_reducible first | exact HB.out | apply below_alloc | apply pw_below_drewN | apply below_drew1) | exact HB.out)⟩
                              · replace c27 := Bool.eq_false_iff.mpr c27
                                subst c27
                                have H1 : ((spec_l5Expect.f kj22 a0 x8_2).bind fun t254 => (if t254 = 0 then (if x9_16 > (wrap64 ((a0.size : Int) - (wrap64 (x8_2 + 2)))) then (some ((⟨#[]⟩ : ByteArray), 0, 1)) else (if 0 ≤ (wrap64 (x8_2 + 2)) then (if (wrap64 (x8_2 + 2)) ≤ (wrap64 ((wrap64 (x8_2 + 2)) + x9_16)) then (if (wrap64 ((wrap64 (x8_2 + 2)) + x9_16)) ≤ (a0.size : Int) then (if x5_1.size + (a0.extract ((wrap64 (x8_2 + 2)) : Int).toNat ((wrap64 ((wrap64 (x8_2 + 2)) + x9_16)) : Int).toNat).size ≤ 9223372036854775807 then ((spec_l5Expect.f kj22 a0 (wrap64 ((wrap64 (x8_2 + 2)) + x9_16))).bind fun t255 => (if t255 = 0 then (if x9_16 = 0 then (some (x5_1 ++ (a0.extract ((wrap64 (x8_2 + 2)) : Int).toNat ((wrap64 ((wrap64 (x8_2 + 2)) + x9_16)) : Int).toNat), wrap64 ((wrap64 ((wrap64 (x8_2 + 2)) + x9_16)) + 2), 0)) else (spec_l5Chunks.l0 kj22 a0 (x5_1 ++ (a0.extract ((wrap64 (x8_2 + 2)) : Int).toNat ((wrap64 ((wrap64 (x8_2 + 2)) + x9_16)) : Int).toNat)) (wrap64 ((wrap64 ((wrap64 (x8_2 + 2)) + x9_16)) + 2)) (wrap64 (x7_1 + 1)))) else (some ((⟨#[]⟩ : ByteArray), 0, t255)))) else (none)) else (none)) else (none)) else (none))) else (some ((⟨#[]⟩ : ByteArray), 0, t254)))) = some (r1, r2, r3) := by rw [if_neg (show ¬ (false = true) by decide)] at H; exact H
                                clear H
                                have H := H1
                                clear H1
                                replace H := Option.bind_eq_some_iff.mp H
                                obtain ⟨t254, A280, H⟩ := H
                                replace H : (if t254 = 0 then (if x9_16 > (wrap64 ((a0.size : Int) - (wrap64 (x8_2 + 2)))) then (some ((⟨#[]⟩ : ByteArray), 0, 1)) else (if 0 ≤ (wrap64 (x8_2 + 2)) then (if (wrap64 (x8_2 + 2)) ≤ (wrap64 ((wrap64 (x8_2 + 2)) + x9_16)) then (if (wrap64 ((wrap64 (x8_2 + 2)) + x9_16)) ≤ (a0.size : Int) then (if x5_1.size + (a0.extract ((wrap64 (x8_2 + 2)) : Int).toNat ((wrap64 ((wrap64 (x8_2 + 2)) + x9_16)) : Int).toNat).size ≤ 9223372036854775807 then ((spec_l5Expect.f kj22 a0 (wrap64 ((wrap64 (x8_2 + 2)) + x9_16))).bind fun t255 => (if t255 = 0 then (if x9_16 = 0 then (some (x5_1 ++ (a0.extract ((wrap64 (x8_2 + 2)) : Int).toNat ((wrap64 ((wrap64 (x8_2 + 2)) + x9_16)) : Int).toNat), wrap64 ((wrap64 ((wrap64 (x8_2 + 2)) + x9_16)) + 2), 0)) else (spec_l5Chunks.l0 kj22 a0 (x5_1 ++ (a0.extract ((wrap64 (x8_2 + 2)) : Int).toNat ((wrap64 ((wrap64 (x8_2 + 2)) + x9_16)) : Int).toNat)) (wrap64 ((wrap64 ((wrap64 (x8_2 + 2)) + x9_16)) + 2)) (wrap64 (x7_1 + 1)))) else (some ((⟨#[]⟩ : ByteArray), 0, t255)))) else (none)) else (none)) else (none)) else (none))) else (some ((⟨#[]⟩ : ByteArray), 0, t254))) = some (r1, r2, r3) := H
                                have A28 := Aside0.mk A280
                                clear A280
                                by_cases c29 : t254 = 0
                                · rw [if_pos c29] at H
                                  have c29b0 : (t254 == 0) = true := beq_iff_eq.mpr c29
                                  have c29b1 : (t254 != 0) = false := bne_eq_false_iff_eq.mpr c29
                                  clear c29
                                  by_cases c30 : x9_16 > (wrap64 ((a0.size : Int) - (wrap64 (x8_2 + 2))))
                                  · rw [if_pos c30] at H
                                    have c30b0 : decide ((wrap64 ((a0.size : Int) - (wrap64 (x8_2 + 2)))) < x9_16) = true := decide_eq_true c30
                                    clear c30
                                    simp only [Option.some.injEq, Prod.mk.injEq] at H
                                    obtain ⟨rfl, rfl, rfl⟩ := H
                                    go_wp2_with (first | ((with_reducible refine gate_callee (f := 66) rfl ?_); refine goesL_ (some 82) rfl rfl Try.func66 (by kernel_rfl) rfl #[.string a0, .int .i64 x8_2] rfl (by (try simp only [List.map_toArray, List.map_cons, List.map_nil]); first | done | rfl | (simp only [List.length_drop, List.length_take]; rfl)) ?_; (with_reducible refine (spec_l5Expect.calls kj22 a0 x8_2 t254 _ A28.out).mono ?_); rintro e w31 ⟨rfl, hb⟩; refine ⟨_, rfl, ?_⟩; have n0_ := Aside0.mk (below_step (by repeat (first | (with_reducible first | exact HB.out | apply below_alloc | apply pw_below_drewN | apply below_drew1) | exact HB.out)) hb); clear HB; have HB := n0_; clear n0_; (try clear hb); (try clear hb2); (try clear hk); (try clear hi)))
                                    go_ret3
                                    exact ⟨by first | rfl | (simp [errW_none, errW_some] <;> rfl) | (simp [*, errW_none, errW_some] <;> rfl), by repeat (first | (with_reducible first | exact HB.out | apply below_alloc | apply pw_below_drewN | apply below_drew1) | exact HB.out)⟩
                                  · rw [if_neg c30] at H
                                    have c30b0 : decide ((wrap64 ((a0.size : Int) - (wrap64 (x8_2 + 2)))) < x9_16) = false := decide_eq_false c30
                                    clear c30
                                    obtain ⟨ji32, hji32⟩ : ∃ j_ : Int, (wrap64 (x8_2 + 2)) = j_ := ⟨_, rfl⟩
                                    replace H : (if 0 ≤ (ji32) then (if (ji32) ≤ (wrap64 ((ji32) + x9_16)) then (if (wrap64 ((ji32) + x9_16)) ≤ (a0.size : Int) then (if x5_1.size + (a0.extract ((ji32) : Int).toNat ((wrap64 ((ji32) + x9_16)) : Int).toNat).size ≤ 9223372036854775807 then ((spec_l5Expect.f kj22 a0 (wrap64 ((ji32) + x9_16))).bind fun t255 => (if t255 = 0 then (if x9_16 = 0 then (some (x5_1 ++ (a0.extract ((ji32) : Int).toNat ((wrap64 ((ji32) + x9_16)) : Int).toNat), wrap64 ((wrap64 ((ji32) + x9_16)) + 2), 0)) else (spec_l5Chunks.l0 kj22 a0 (x5_1 ++ (a0.extract ((ji32) : Int).toNat ((wrap64 ((ji32) + x9_16)) : Int).toNat)) (wrap64 ((wrap64 ((ji32) + x9_16)) + 2)) (wrap64 (x7_1 + 1)))) else (some ((⟨#[]⟩ : ByteArray), 0, t255)))) else (none)) else (none)) else (none)) else (none)) = some (r1, r2, r3) := by first | (rw [hji32] at H; exact H) | (simp only [hji32] at H ⊢; exact H)
                                    (try rw [hji32] at c30b0)
                                    (try rw [hji32] at A28)
                                    have hji32w : (IntKind.i64.wrap (x8_2 + 2)) = ji32 := (i64_w _).trans hji32
                                    by_cases c33 : 0 ≤ (ji32)
                                    · rw [if_pos c33] at H
                                      have c33b0 := eq_true c33
                                      have c33b1 : decide (0 ≤ (ji32)) = true := decide_eq_true c33
                                      clear c33
                                      by_cases c34 : (ji32) ≤ (wrap64 ((ji32) + x9_16))
                                      · rw [if_pos c34] at H
                                        have c34b0 := eq_true c34
                                        have c34b1 : decide ((ji32) ≤ (wrap64 ((ji32) + x9_16))) = true := decide_eq_true c34
                                        by_cases c35 : (wrap64 ((ji32) + x9_16)) ≤ (a0.size : Int)
                                        · rw [if_pos c35] at H
                                          have c35b0 := eq_true c35
                                          have c35b1 : decide ((wrap64 ((ji32) + x9_16)) ≤ (a0.size : Int)) = true := decide_eq_true c35
                                          by_cases c36 : x5_1.size + (a0.extract ((ji32) : Int).toNat ((wrap64 ((ji32) + x9_16)) : Int).toNat).size ≤ 9223372036854775807
                                          · rw [if_pos c36] at H
                                            have c36b0 := eq_true c36
                                            have c36b1 : decide (x5_1.size + (a0.extract ((ji32) : Int).toNat ((wrap64 ((ji32) + x9_16)) : Int).toNat).size ≤ 9223372036854775807) = true := decide_eq_true c36
                                            try have c36b2 : (9223372036854775807 < x5_1.size + (a0.extract ((ji32) : Int).toNat ((wrap64 ((ji32) + x9_16)) : Int).toNat).size) = False := eq_false (Nat.not_lt.2 c36)
                                            replace H := Option.bind_eq_some_iff.mp H
                                            obtain ⟨t255, A370, H⟩ := H
                                            replace H : (if t255 = 0 then (if x9_16 = 0 then (some (x5_1 ++ (a0.extract ((ji32) : Int).toNat ((wrap64 ((ji32) + x9_16)) : Int).toNat), wrap64 ((wrap64 ((ji32) + x9_16)) + 2), 0)) else (spec_l5Chunks.l0 kj22 a0 (x5_1 ++ (a0.extract ((ji32) : Int).toNat ((wrap64 ((ji32) + x9_16)) : Int).toNat)) (wrap64 ((wrap64 ((ji32) + x9_16)) + 2)) (wrap64 (x7_1 + 1)))) else (some ((⟨#[]⟩ : ByteArray), 0, t255))) = some (r1, r2, r3) := H
                                            have A37 := Aside0.mk A370
                                            clear A370
                                            by_cases c38 : t255 = 0
                                            · rw [if_pos c38] at H
                                              have c38b0 : (t255 == 0) = true := beq_iff_eq.mpr c38
                                              have c38b1 : (t255 != 0) = false := bne_eq_false_iff_eq.mpr c38
                                              clear c38
                                              by_cases c39 : x9_16 = 0
                                              · rw [if_pos c39] at H
                                                have c39b0 : (x9_16 == 0) = true := beq_iff_eq.mpr c39
                                                have c39b1 : (x9_16 != 0) = false := bne_eq_false_iff_eq.mpr c39
                                                clear c39
                                                simp only [Option.some.injEq, Prod.mk.injEq] at H
                                                obtain ⟨rfl, rfl, rfl⟩ := H
                                                go_wp2_with (first | ((with_reducible refine gate_callee (f := 66) rfl ?_); refine goesL_ (some 82) rfl rfl Try.func66 (by kernel_rfl) rfl #[.string a0, .int .i64 x8_2] rfl (by (try simp only [List.map_toArray, List.map_cons, List.map_nil]); first | done | rfl | (simp only [List.length_drop, List.length_take]; rfl)) ?_; (with_reducible refine (spec_l5Expect.calls kj22 a0 x8_2 t254 _ A28.out).mono ?_); rintro e w40 ⟨rfl, hb⟩; refine ⟨_, rfl, ?_⟩; have n0_ := Aside0.mk (below_step (by repeat (first | (with_reducible first | exact HB.out | apply below_alloc | apply pw_below_drewN | apply below_drew1) | exact HB.out)) hb); clear HB; have HB := n0_; clear n0_; (try clear hb); (try clear hb2); (try clear hk); (try clear hi)) | ((with_reducible refine gate_callee (f := 66) rfl ?_); refine goesL_ (some 107) rfl rfl Try.func66 (by kernel_rfl) rfl #[.string a0, .int .i64 (wrap64 ((ji32) + x9_16))] rfl (by (try simp only [List.map_toArray, List.map_cons, List.map_nil]); first | done | (simp only [hji32]; rfl) | rfl | (simp only [List.length_drop, List.length_take]; rfl)) ?_; (with_reducible refine (spec_l5Expect.calls kj22 a0 (wrap64 ((ji32) + x9_16)) t255 _ A37.out).mono ?_); rintro e w41 ⟨rfl, hb⟩; refine ⟨_, rfl, ?_⟩; have n0_ := Aside0.mk (below_step (by repeat (first | (with_reducible first | exact HB.out | apply below_alloc | apply pw_below_drewN | apply below_drew1) | exact HB.out)) hb); clear HB; have HB := n0_; clear n0_; (try clear hb); (try clear hb2); (try clear hk); (try clear hi)))
                                                go_ret3
                                                exact ⟨by first | rfl | (simp [errW_none, errW_some] <;> rfl) | (simp only [← hji32]; first | rfl | (simp [errW_none, errW_some] <;> rfl)) | (simp [*, errW_none, errW_some] <;> rfl), by repeat (first | (with_reducible first | exact HB.out | apply below_alloc | apply pw_below_drewN | apply below_drew1) | exact HB.out)⟩
                                              · rw [if_neg c39] at H
                                                have c39b0 : (x9_16 == 0) = false := beq_eq_false_iff_ne.mpr c39
                                                have c39b1 : (x9_16 != 0) = true := bne_iff_ne.mpr c39
                                                have H' := Aside0.mk H
                                                clear H
                                                go_wp2_with (first | ((with_reducible refine gate_callee (f := 66) rfl ?_); refine goesL_ (some 82) rfl rfl Try.func66 (by kernel_rfl) rfl #[.string a0, .int .i64 x8_2] rfl (by (try simp only [List.map_toArray, List.map_cons, List.map_nil]); first | done | rfl | (simp only [List.length_drop, List.length_take]; rfl)) ?_; (with_reducible refine (spec_l5Expect.calls kj22 a0 x8_2 t254 _ A28.out).mono ?_); rintro e w42 ⟨rfl, hb⟩; refine ⟨_, rfl, ?_⟩; have n0_ := Aside0.mk (below_step (by repeat (first | (with_reducible first | exact HB.out | apply below_alloc | apply pw_below_drewN | apply below_drew1) | exact HB.out)) hb); clear HB; have HB := n0_; clear n0_; (try clear hb); (try clear hb2); (try clear hk); (try clear hi)) | ((with_reducible refine gate_callee (f := 66) rfl ?_); refine goesL_ (some 107) rfl rfl Try.func66 (by kernel_rfl) rfl #[.string a0, .int .i64 (wrap64 ((ji32) + x9_16))] rfl (by (try simp only [List.map_toArray, List.map_cons, List.map_nil]); first | done | (simp only [hji32]; rfl) | rfl | (simp only [List.length_drop, List.length_take]; rfl)) ?_; (with_reducible refine (spec_l5Expect.calls kj22 a0 (wrap64 ((ji32) + x9_16)) t255 _ A37.out).mono ?_); rintro e w43 ⟨rfl, hb⟩; refine ⟨_, rfl, ?_⟩; have n0_ := Aside0.mk (below_step (by repeat (first | (with_reducible first | exact HB.out | apply below_alloc | apply pw_below_drewN | apply below_drew1) | exact HB.out)) hb); clear HB; have HB := n0_; clear n0_; (try clear hb); (try clear hb2); (try clear hk); (try clear hi)))
                                                go_roundg kj22
                                                case measure => have := HK1.out; have := HK2.out; have := HJ1.out; have := HJ12.out; have := HJ16.out; have := HJ22.out; omega
                                                case rel => exact ⟨(x5_1 ++ (a0.extract ((ji32) : Int).toNat ((wrap64 ((ji32) + x9_16)) : Int).toNat)), (wrap64 ((wrap64 ((ji32) + x9_16)) + 2)), (wrap64 (x7_1 + 1)), (by first | rfl | (simp; done) | (simp only [← hji32] <;> (first | rfl | simp)) | (simp [*]; done)), (by first | rfl | (simp; done) | (simp only [← hji32] <;> (first | rfl | simp)) | (simp [*]; done)), (by first | rfl | (simp; done) | (simp [*]; done)), H', ⟨by have := HK1.out; have := HK2.out; have := HJ1.out; have := HJ12.out; have := HJ16.out; have := HJ22.out; omega⟩, ⟨by repeat (first | (with_reducible first | exact HB.out | apply below_alloc | apply pw_below_drewN | apply below_drew1) | exact HB.out)⟩⟩
                                            · rw [if_neg c38] at H
                                              have c38b0 : (t255 == 0) = false := beq_eq_false_iff_ne.mpr c38
                                              have c38b1 : (t255 != 0) = true := bne_iff_ne.mpr c38
                                              simp only [Option.some.injEq, Prod.mk.injEq] at H
                                              obtain ⟨rfl, rfl, rfl⟩ := H
                                              go_wp2_with (first | ((with_reducible refine gate_callee (f := 66) rfl ?_); refine goesL_ (some 82) rfl rfl Try.func66 (by kernel_rfl) rfl #[.string a0, .int .i64 x8_2] rfl (by (try simp only [List.map_toArray, List.map_cons, List.map_nil]); first | done | rfl | (simp only [List.length_drop, List.length_take]; rfl)) ?_; (with_reducible refine (spec_l5Expect.calls kj22 a0 x8_2 t254 _ A28.out).mono ?_); rintro e w44 ⟨rfl, hb⟩; refine ⟨_, rfl, ?_⟩; have n0_ := Aside0.mk (below_step (by repeat (first | (with_reducible first | exact HB.out | apply below_alloc | apply pw_below_drewN | apply below_drew1) | exact HB.out)) hb); clear HB; have HB := n0_; clear n0_; (try clear hb); (try clear hb2); (try clear hk); (try clear hi)) | ((with_reducible refine gate_callee (f := 66) rfl ?_); refine goesL_ (some 107) rfl rfl Try.func66 (by kernel_rfl) rfl #[.string a0, .int .i64 (wrap64 ((ji32) + x9_16))] rfl (by (try simp only [List.map_toArray, List.map_cons, List.map_nil]); first | done | (simp only [hji32]; rfl) | rfl | (simp only [List.length_drop, List.length_take]; rfl)) ?_; (with_reducible refine (spec_l5Expect.calls kj22 a0 (wrap64 ((ji32) + x9_16)) t255 _ A37.out).mono ?_); rintro e w45 ⟨rfl, hb⟩; refine ⟨_, rfl, ?_⟩; have n0_ := Aside0.mk (below_step (by repeat (first | (with_reducible first | exact HB.out | apply below_alloc | apply pw_below_drewN | apply below_drew1) | exact HB.out)) hb); clear HB; have HB := n0_; clear n0_; (try clear hb); (try clear hb2); (try clear hk); (try clear hi)))
                                              go_ret3
                                              exact ⟨by first | rfl | (simp [errW_none, errW_some] <;> rfl) | (simp only [← hji32]; first | rfl | (simp [errW_none, errW_some] <;> rfl)) | (simp [*, errW_none, errW_some] <;> rfl), by repeat (first | (with_reducible first | exact HB.out | apply below_alloc | apply pw_below_drewN | apply below_drew1) | exact HB.out)⟩
                                          · rw [if_neg c36] at H
                                            exact absurd H (by simp)
                                        · rw [if_neg c35] at H
                                          exact absurd H (by simp)
                                      · rw [if_neg c34] at H
                                        exact absurd H (by simp)
                                    · rw [if_neg c33] at H
                                      exact absurd H (by simp)
                                · rw [if_neg c29] at H
                                  have c29b0 : (t254 == 0) = false := beq_eq_false_iff_ne.mpr c29
                                  have c29b1 : (t254 != 0) = true := bne_iff_ne.mpr c29
                                  simp only [Option.some.injEq, Prod.mk.injEq] at H
                                  obtain ⟨rfl, rfl, rfl⟩ := H
                                  go_wp2_with (first | ((with_reducible refine gate_callee (f := 66) rfl ?_); refine goesL_ (some 82) rfl rfl Try.func66 (by kernel_rfl) rfl #[.string a0, .int .i64 x8_2] rfl (by (try simp only [List.map_toArray, List.map_cons, List.map_nil]); first | done | rfl | (simp only [List.length_drop, List.length_take]; rfl)) ?_; (with_reducible refine (spec_l5Expect.calls kj22 a0 x8_2 t254 _ A28.out).mono ?_); rintro e w46 ⟨rfl, hb⟩; refine ⟨_, rfl, ?_⟩; have n0_ := Aside0.mk (below_step (by repeat (first | (with_reducible first | exact HB.out | apply below_alloc | apply pw_below_drewN | apply below_drew1) | exact HB.out)) hb); clear HB; have HB := n0_; clear n0_; (try clear hb); (try clear hb2); (try clear hk); (try clear hi)))
                                  go_ret3
                                  exact ⟨by first | rfl | (simp [errW_none, errW_some] <;> rfl) | (simp [*, errW_none, errW_some] <;> rfl), by repeat (first | (with_reducible first | exact HB.out | apply below_alloc | apply pw_below_drewN | apply below_drew1) | exact HB.out)⟩

end Go.Proofs.Ytplcocljgoipkaa.PFnFed
