-- Written by a program of this project (xprint.py) out of the translation; Lean checks it.
import Derived.Test.YtpggepjfhgalkaaGreatDoorPFnExactMatchesx0
import Derived.Test.YtpggepjfhgalkaaGreatDoorPFnExactMatchesx4
import Derived.Test.YtpggepjfhgalkaaGreatDoorPFnExactMatchesx12
namespace Go.Proofs.YtpggepjfhgalkaaGreatDoor.PFnExactMatches
open Go.RowKit Go.Proofs.YtpggepjfhgalkaaGreatDoorW.PrintWords Go.Proofs.YtpggepjfhgalkaaGreatDoorW.PrintLast Go.Proofs.YtpggepjfhgalkaaGreatDoorW.PrintMore
attribute [local go_sem] max2_int min2_int max_two min_two max_three min_three max_four min_four   -- for this text's walks alone
set_option linter.unusedVariables false
set_option linter.unusedSimpArgs false

/-! ### impl_areFields: function 102 -/
def impl_areFields.f (k : Nat) (l0 : List (S105)) : Option (Bool) := if (l0.length : Int) ≤ 40 then ((xAll_T105_impl_GoodField.f k l0).bind fun t333 => (some t333)) else (some false)
set_option maxHeartbeats 8000000 in
set_option maxRecDepth 100000 in
theorem impl_areFields.calls (k : Nat) (A0 : Option Addr) (c0 : Nat) (l0 : List (S105)) (r : Bool) (w : World) (hr0 : Kd.C k105 w A0 l0.length l0) (hc0 : l0.length ≤ c0) (h : impl_areFields.f k l0 = some r) :
  Calls Tryz.prog 102 #[.slice A0 l0.length c0] w fun e w' => e = .returned (.bool r) ∧ Below w.heap.size w w' := by
 have HR0 := Aside0.mk hr0
 have HC0 := Aside0.mk hc0
 clear hr0 hc0
 have HB := Aside0.mk (Below.refl w.heap.size w)
 have H := h
 unfold impl_areFields.f at H
 clear h
 by_cases c2 : (l0.length : Int) ≤ 40
 ·rw [if_pos c2] at H
  have c2b0 := decide_eq_true c2
  have c2b1 : decide (l0.length ≤ 40) = true := decide_eq_true (by omega)
  clear c2
  replace H := mb_ H
  obtain ⟨t333, A3, H⟩ := H
  obtain rfl := Option.some.inj H
  go_enter Tryz.func102, Tryz.ntmps102
  go_wp2_with (first | (go_at_call 151; (with_reducible refine (xAll_T105_impl_GoodField.calls k _ _ l0  t333 _ ?side1 ?side2 A3.out).mono ?_); (case side1 => repeat (first | exact HR0.out | (with_reducible refine Kd.C_alloc ?_ _) | (with_reducible refine Kd.C_drewN ?_ _) | (with_reducible refine Kd.C_drew ?_))); (case side2 => exact HC0.out); rintro e w4 ⟨rfl, hb⟩; replace HB := xws_ HB hb; (try clear hb)))
  go_ret
  exact ⟨mf_, xw_ HB⟩
 ·rw [if_neg c2] at H
  have c2b0 := decide_eq_false c2
  have c2b1 : decide (l0.length ≤ 40) = false := decide_eq_false (by omega)
  clear c2
  obtain rfl := Option.some.inj H
  go_enter Tryz.func102, Tryz.ntmps102
  go_wp2
  go_ret
  exact ⟨mf_, xw_ HB⟩

/-! ### impl_headText: function 130 -/
def impl_headText.l0 : Nat → ByteArray → List (S105) → Int → Int → Option (ByteArray)
 | 0, _, _, _, _ => none
 | k + 1, x5, x10, x11, x12 => if x12 < x11 then (if 0 ≤ x12 then (if x12 < (x10.length : Int) then (if ((rd_T105 x10 x12).f0).size + 2 ≤ 9223372036854775807 then (if (((rd_T105 x10 x12).f0) ++ (⟨#[58, 32]⟩ : ByteArray)).size + ((rd_T105 x10 x12).f1).size ≤ 9223372036854775807 then (if ((((rd_T105 x10 x12).f0) ++ (⟨#[58, 32]⟩ : ByteArray)) ++ ((rd_T105 x10 x12).f1)).size + 2 ≤ 9223372036854775807 then (if x5.size + (((((rd_T105 x10 x12).f0) ++ (⟨#[58, 32]⟩ : ByteArray)) ++ ((rd_T105 x10 x12).f1)) ++ (⟨#[13, 10]⟩ : ByteArray)).size ≤ 9223372036854775807 then (impl_headText.l0 k (x5 ++ (((((rd_T105 x10 x12).f0) ++ (⟨#[58, 32]⟩ : ByteArray)) ++ ((rd_T105 x10 x12).f1)) ++ (⟨#[13, 10]⟩ : ByteArray))) x10 x11 (wrap64 (x12 + 1))) else (none)) else (none)) else (none)) else (none)) else (none)) else (none)) else (if x5.size + 2 ≤ 9223372036854775807 then (some (x5 ++ (⟨#[13, 10]⟩ : ByteArray))) else (none))
def impl_headText.f (k : Nat) (a0 : ByteArray) (l1 : List (S105)) : Option (ByteArray) := if a0.size + 2 ≤ 9223372036854775807 then (impl_headText.l0 k (a0 ++ (⟨#[13, 10]⟩ : ByteArray)) l1 (l1.length : Int) 0) else (none)
set_option maxHeartbeats 8000000 in
set_option maxRecDepth 100000 in
theorem impl_headText.calls (k : Nat) (a0 : ByteArray) (A1 : Option Addr) (c1 : Nat) (l1 : List (S105)) (r : ByteArray) (w : World) (hr1 : Kd.C k105 w A1 l1.length l1) (hc1 : l1.length ≤ c1) (h : impl_headText.f k a0 l1 = some r) :
  Calls Tryz.prog 130 #[.string a0, .slice A1 l1.length c1] w fun e w' => e = .returned (.string r) ∧ Below w.heap.size w w' := by
 have hu105 := Tryz.underlying105
 have HR1 := Aside0.mk hr1
 have HC1 := Aside0.mk hc1
 clear hr1 hc1
 have HB := Aside0.mk (Below.refl w.heap.size w)
 have H := h
 unfold impl_headText.f at H
 clear h
 replace H := mi_ H
 obtain ⟨c3, H⟩ := H
 have c3b0 := eq_true c3
 have c3b1 := decide_eq_true c3
 try have c3b2 : (9223372036854775807 < a0.size + 2) = False := eq_false (Nat.not_lt.2 c3)
 have H' := Aside0.mk H
 clear H
 go_enter Tryz.func130, Tryz.ntmps130
 go_wp2
 go_loopg [5, 12] k (fun kq v5 v12 w' => ∃ (x5_1 : ByteArray) (x12_1 : Int), v5 = .string x5_1 ∧ v12 = .int .i64 x12_1 ∧ Aside0 (impl_headText.l0 kq x5_1 l1 (l1.length : Int) x12_1 = some r) ∧ Aside0 (kq ≤ k) ∧ Aside0 (Below w.heap.size w w'))
 case atStart => exact ⟨(a0 ++ (⟨#[13, 10]⟩ : ByteArray)), (0), me_, me_, H', ⟨Nat.le_refl _⟩, ⟨xw_ HB⟩⟩
 case round =>
  clear H'
  try clear c3
  try clear c3b0
  try clear c3b1
  try clear c3b2
  obtain ⟨x5_1, x12_1, rfl, rfl, HA, HK1, HB⟩ := hrel
  cases gk with
  | zero => exact absurd HA.out (by simp [impl_headText.l0])
  | succ k1 =>
   have H := HA.out
   clear HA
   simp only [impl_headText.l0] at H
   by_cases c4 : x12_1 < (l1.length : Int)
   ·rw [if_pos c4] at H
    have c4b0 := decide_eq_true c4
    clear c4
    replace H := mi_ H
    obtain ⟨c5, H⟩ := H
    have c5b0 := decide_eq_true c5
    clear c5
    replace H := mi_ H
    obtain ⟨c6, H⟩ := H
    have c6b0 := decide_eq_true c6
    clear c6
    replace H := mi_ H
    obtain ⟨c7, H⟩ := H
    have c7b0 := eq_true c7
    have c7b1 := decide_eq_true c7
    try have c7b2 : (9223372036854775807 < ((rd_T105 l1 x12_1).f0).size + 2) = False := eq_false (Nat.not_lt.2 c7)
    replace H := mi_ H
    obtain ⟨c8, H⟩ := H
    have c8b0 := eq_true c8
    have c8b1 := decide_eq_true c8
    try have c8b2 : (9223372036854775807 < (((rd_T105 l1 x12_1).f0) ++ (⟨#[58, 32]⟩ : ByteArray)).size + ((rd_T105 l1 x12_1).f1).size) = False := eq_false (Nat.not_lt.2 c8)
    try have c8b3 : (9223372036854775807 < ((rd_T105 l1 x12_1).f0).size + 2 + ((rd_T105 l1 x12_1).f1).size) = False := eq_false (Nat.not_lt.2 (by have z_ := c8; simp only [ByteArray.size_append] at z_; exact z_))
    replace H := mi_ H
    obtain ⟨c9, H⟩ := H
    have c9b0 := eq_true c9
    have c9b1 := decide_eq_true c9
    try have c9b2 : (9223372036854775807 < ((((rd_T105 l1 x12_1).f0) ++ (⟨#[58, 32]⟩ : ByteArray)) ++ ((rd_T105 l1 x12_1).f1)).size + 2) = False := eq_false (Nat.not_lt.2 c9)
    try have c9b3 : (9223372036854775807 < ((rd_T105 l1 x12_1).f0).size + 2 + ((rd_T105 l1 x12_1).f1).size + 2) = False := eq_false (Nat.not_lt.2 (by have z_ := c9; simp only [ByteArray.size_append] at z_; exact z_))
    replace H := mi_ H
    obtain ⟨c10, H⟩ := H
    have c10b0 := eq_true c10
    have c10b1 := decide_eq_true c10
    try have c10b2 : (9223372036854775807 < x5_1.size + (((((rd_T105 l1 x12_1).f0) ++ (⟨#[58, 32]⟩ : ByteArray)) ++ ((rd_T105 l1 x12_1).f1)) ++ (⟨#[13, 10]⟩ : ByteArray)).size) = False := eq_false (Nat.not_lt.2 c10)
    try have c10b3 : (9223372036854775807 < x5_1.size + (((rd_T105 l1 x12_1).f0).size + 2 + ((rd_T105 l1 x12_1).f1).size + 2)) = False := eq_false (Nat.not_lt.2 (by have z_ := c10; simp only [ByteArray.size_append] at z_; exact z_))
    have H' := Aside0.mk H
    clear H
    have p334 : 0 ≤ (x12_1 : Int) := md_
    have q334 : x12_1 < (l1.length : Int) := md_
    obtain ⟨ad334, e334, hx334_0, hx334_1⟩ := at_T105 HR1.out x12_1 p334 q334
    cases e334
    (try replace hx334_0 := (HB.out.cell (World.block_lt_of_cell? w _ hx334_0)).trans hx334_0)
    (try replace hx334_1 := (HB.out.cell (World.block_lt_of_cell? w _ hx334_1)).trans hx334_1)
    replace p334 := eq_true p334
    replace q334 := eq_true q334
    go_wp2_with (first | ((with_reducible refine gd_ 7 ?_); refine xbe_ (N := 7) (cs := #[.string (⟨#[]⟩ : ByteArray), .string (⟨#[]⟩ : ByteArray)]) (t := 105) ?_; intro gb335 hg w11 hbox hb; have BK335 := Aside0.mk (hbox); have GE335 := xge_ HB hg; replace HB := xws_ HB hb; clear hb hbox hg; have ⟨_, _, _, _⟩ := c2_ BK335))
    go_roundg k1
    case measure => have := HK1.out; omega
    case rel => exact ⟨(x5_1 ++ (((((rd_T105 l1 x12_1).f0) ++ (⟨#[58, 32]⟩ : ByteArray)) ++ ((rd_T105 l1 x12_1).f1)) ++ (⟨#[13, 10]⟩ : ByteArray))), (wrap64 (x12_1 + 1)), me_, me_, H', ⟨by have := HK1.out; omega⟩, ⟨xw_ HB⟩⟩
   ·rw [if_neg c4] at H
    have c4b0 := decide_eq_false c4
    clear c4
    replace H := mi_ H
    obtain ⟨c13, H⟩ := H
    have c13b0 := eq_true c13
    have c13b1 := decide_eq_true c13
    try have c13b2 : (9223372036854775807 < x5_1.size + 2) = False := eq_false (Nat.not_lt.2 c13)
    obtain rfl := Option.some.inj H
    go_wp2
    go_ret
    exact ⟨mf_, xw_ HB⟩

/-! ### impl_small: function 81 -/
def impl_small.f (a0 : ByteArray) : Option (ByteArray) := if a0.size < 100000000 then some ⟨a0.data.map lowB⟩ else none
set_option maxHeartbeats 4000000 in
theorem impl_small.calls (a0 : ByteArray) (r : ByteArray) (w : World) (h : impl_small.f a0 = some r) :
    Calls Tryz.prog 81 #[.string a0] w fun e w' => e = .returned (.string r) ∧ Below w.heap.size w w' := by
  unfold impl_small.f at h
  by_cases c : a0.size < 100000000
  · rw [if_pos c] at h
    obtain rfl := Option.some.inj h
    have hcv := Lib.run_convert_string_bytes (P := Tryz.prog) w 9 120 5 a0 Tryz.underlying9 Tryz.underlying120 Tryz.underlying5
    have hst := low_start w a0
    have hbe := Lib.bytesWorld_below w 5 a0
    obtain ⟨W0, hW0⟩ : ∃ W0, W0 = Lib.bytesWorld w 5 a0 := ⟨_, rfl⟩
    rw [← hW0] at hcv hst hbe
    have HS := Aside0.mk hst
    have HB0 := Aside0.mk hbe
    have HC := Aside0.mk c
    clear hW0 hst hbe c h
    go_enter Tryz.func81, Tryz.ntmps81
    go_wp2
    go_loopg [10] 1000000001 (fun kq v10 w' => ∃ (i : Nat), v10 = .int .i64 i ∧ Aside0 (a0.size + 1 ≤ i + kq) ∧ Aside0 (i ≤ a0.size) ∧ Aside0 (LowRow w' w.heap.size i a0) ∧ Aside0 (Below w.heap.size w w'))
    case atStart => exact ⟨0, rfl, ⟨by have := HC.out; omega⟩, ⟨Nat.zero_le _⟩, HS, HB0⟩
    case round =>
      obtain ⟨i, rfl, HK, HI, HL, HB⟩ := hrel
      cases gk with
      | zero => exact absurd HK.out (by have := HI.out; omega)
      | succ k1 =>
        by_cases c2 : i < a0.size
        · have c2b : decide ((i : Int) < (a0.size : Int)) = true := decide_eq_true (by omega)
          have hx := (HL.out i c2).1
          have hf := (HL.out i c2).2
          rw [if_neg (Nat.lt_irrefl i)] at hx
          have p1 : (0 ≤ (i : Int)) = True := eq_true (by omega)
          have q1 : ((i : Int) < (a0.size : Int)) = True := eq_true (by omega)
          obtain ⟨B, hB⟩ : ∃ B, B = a0.data.toList.getD i 0 := ⟨_, rfl⟩
          rw [← hB] at hx
          have HBB := Aside0.mk hB
          clear hB
          have hw1 : wrap64 ((i : Int) + 1) = ((i + 1 : Nat) : Int) := by unfold wrap64; have := HC.out; omega
          have HW1 := Aside0.mk hw1
          clear hw1
          by_cases d1 : 65 ≤ B.toNat
          · have d1b : decide ((B.toNat : Int) ≥ 65) = true := decide_eq_true (by omega)
            have d1c : decide (65 ≤ (B.toNat : Int)) = true := decide_eq_true (by omega)
            by_cases d2 : B.toNat ≤ 90
            · have d2b : decide ((B.toNat : Int) ≤ 90) = true := decide_eq_true (by omega)
              have HL2 := Aside0.mk (low_step HL.out c2)
              have hlow : ((lowB (a0.data.toList.getD i 0)).toNat : Int) = (B.toNat : Int) + 32 := by rw [← HBB.out]; exact lowB_yes B d1 d2
              rw [hlow] at HL2
              have HB2 := Aside0.mk (HB.out.setCell (p := ⟨w.heap.size, i, none⟩) (Nat.le_refl _) (.int .u8 ((B.toNat : Int) + 32)))
              clear hlow
              go_wp2
              go_roundg k1
              case measure => have := HK.out; omega
              case rel => exact ⟨i + 1, by rw [HW1.out], ⟨by have := HK.out; omega⟩, ⟨by omega⟩, HL2, HB2⟩
            · have d2b : decide ((B.toNat : Int) ≤ 90) = false := decide_eq_false (by omega)
              have HL2 := Aside0.mk (low_keep HL.out (by rw [← HBB.out]; exact lowB_no2 B d2))
              go_wp2
              go_roundg k1
              case measure => have := HK.out; omega
              case rel => exact ⟨i + 1, by rw [HW1.out], ⟨by have := HK.out; omega⟩, ⟨by omega⟩, HL2, HB⟩
          · have d1b : decide ((B.toNat : Int) ≥ 65) = false := decide_eq_false (by omega)
            have d1c : decide (65 ≤ (B.toNat : Int)) = false := decide_eq_false (by omega)
            have HL2 := Aside0.mk (low_keep HL.out (by rw [← HBB.out]; exact lowB_no1 B d1))
            go_wp2
            go_roundg k1
            case measure => have := HK.out; omega
            case rel => exact ⟨i + 1, by rw [HW1.out], ⟨by have := HK.out; omega⟩, ⟨by omega⟩, HL2, HB⟩
        · have c2b : decide ((i : Int) < (a0.size : Int)) = false := decide_eq_false (by omega)
          have hi : i = a0.size := by have := HI.out; omega
          subst hi
          have hbk := low_back wr w.heap.size (grownCap w a0.size 0 5) a0 HL.out
          go_wp2
          go_ret
          exact ⟨rfl, HB.out⟩
  · rw [if_neg c] at h; cases h

/-! ### impl_valuesOf: function 95 -/
def impl_valuesOf.l0 : Nat → ByteArray → List ByteArray → List (S105) → Int → Int → Option (List ByteArray)
 | 0, _, _, _, _, _ => none
 | k + 1, x1, x5, x8, x9, x10 => if x10 < x9 then (if 0 ≤ x10 then (if x10 < (x8.length : Int) then ((impl_small.f ((rd_T105 x8 x10).f0)).bind fun t338 => ((impl_small.f x1).bind fun t339 => (if t338.toList = t339.toList then (if x5.length < 8796093022208 then (impl_valuesOf.l0 k x1 (x5 ++ [(rd_T105 x8 x10).f1]) x8 x9 (wrap64 (x10 + 1))) else (none)) else (impl_valuesOf.l0 k x1 x5 x8 x9 (wrap64 (x10 + 1)))))) else (none)) else (none)) else (some x5)
def impl_valuesOf.f (k : Nat) (l0 : List (S105)) (a1 : ByteArray) : Option (List ByteArray) := impl_valuesOf.l0 k a1 ([] : List ByteArray) l0 (l0.length : Int) 0
set_option maxHeartbeats 8000000 in
set_option maxRecDepth 100000 in
theorem impl_valuesOf.calls (k : Nat) (A0 : Option Addr) (c0 : Nat) (l0 : List (S105)) (a1 : ByteArray) (r : List ByteArray) (w : World) (hr0 : Kd.C k105 w A0 l0.length l0) (hc0 : l0.length ≤ c0) (h : impl_valuesOf.f k l0 a1 = some r) :
  Calls Tryz.prog 95 #[.slice A0 l0.length c0, .string a1] w fun e w' => ∃ v0_ : Value, e = .returned (v0_) ∧ Kd.R Kd.string 9 w' w.heap.size (fun _ => True) v0_ r ∧ Below w.heap.size w w' := by
 have hu105 := Tryz.underlying105
 have HR0 := Aside0.mk hr0
 have HC0 := Aside0.mk hc0
 clear hr0 hc0
 have HB := Aside0.mk (Below.refl w.heap.size w)
 have H := h
 unfold impl_valuesOf.f at H
 clear h
 have H' := Aside0.mk H
 clear H
 go_enter Tryz.func95, Tryz.ntmps95
 go_wp2
 go_loopg [5, 10] k (fun kq v5 v10 w' => ∃ (x5_1 : List ByteArray) (x10_1 : Int), v10 = .int .i64 x10_1 ∧ Aside0 (impl_valuesOf.l0 kq a1 x5_1 l0 (l0.length : Int) x10_1 = some r) ∧ Aside0 (kq ≤ k) ∧ Aside0 (Kd.R Kd.string 9 w' w.heap.size (fun _ => True) v5 x5_1) ∧ Aside0 (Below w.heap.size w w'))
 case atStart => exact ⟨(([] : List ByteArray)), (0), me_, H', ⟨Nat.le_refl _⟩, ⟨by first | exact Kd.R_nil _ _ _ _ _ | exact Kd.N_nil _ _ _ _ _ | exact Kd.V_nil _ _ _ _ _ | exact Kd.Q_nil _ _ _ _ _ | exact Kd.S_nil _ _ _ _ _⟩, ⟨xw_ HB⟩⟩
 case round =>
  clear H'
  obtain ⟨x5_1, x10_1, rfl, HA, HK1, HO_5, HB⟩ := hrel
  cases gk with
  | zero => exact absurd HA.out (by simp [impl_valuesOf.l0])
  | succ k1 =>
   have H := HA.out
   clear HA
   simp only [impl_valuesOf.l0] at H
   by_cases c3 : x10_1 < (l0.length : Int)
   ·rw [if_pos c3] at H
    have c3b0 := decide_eq_true c3
    clear c3
    replace H := mi_ H
    obtain ⟨c4, H⟩ := H
    have c4b0 := decide_eq_true c4
    clear c4
    replace H := mi_ H
    obtain ⟨c5, H⟩ := H
    have c5b0 := decide_eq_true c5
    clear c5
    replace H := mb_ H
    obtain ⟨t338, A6, H⟩ := H
    replace H := mb_ H
    obtain ⟨t339, A7, H⟩ := H
    by_cases c8 : t338.toList = t339.toList
    ·rw [if_pos c8] at H
     have c8b0 : (t338.toList == t339.toList) = true := beq_iff_eq.mpr c8
     have c8b1 : (t338.toList != t339.toList) = false := bne_eq_false_iff_eq.mpr c8
     clear c8
     replace H := mi_ H
     obtain ⟨c9, H⟩ := H
     have LMc9 := Aside0.mk c9
     clear c9
     obtain ⟨y340, hy340⟩ : ∃ y_ : List ByteArray, y_ = (x5_1 ++ [(rd_T105 l0 x10_1).f1]) := ⟨_, rfl⟩
     replace H : (impl_valuesOf.l0 k1 a1 y340 l0 (l0.length : Int) (wrap64 (x10_1 + 1))) = some r := by first | (rw [hy340]; with_reducible exact H) | (have H2_ := (Option.bind_some _ _).symm.trans H; rw [hy340]; with_reducible exact H2_) | (have H2_ := (Option.bind_some _ _).symm.trans H; with_reducible exact H2_) | with_reducible exact H | (rw [hy340]; exact H) | exact H
     have Ny340 := Aside0.mk hy340
     clear hy340
     have H' := Aside0.mk H
     clear H
     have p336 : 0 ≤ (x10_1 : Int) := md_
     have q336 : x10_1 < (l0.length : Int) := md_
     obtain ⟨ad336, e336, hx336_0, hx336_1⟩ := at_T105 HR0.out x10_1 p336 q336
     cases e336
     (try replace hx336_0 := (HB.out.cell (World.block_lt_of_cell? w _ hx336_0)).trans hx336_0)
     (try replace hx336_1 := (HB.out.cell (World.block_lt_of_cell? w _ hx336_1)).trans hx336_1)
     replace p336 := eq_true p336
     replace q336 := eq_true q336
     go_wp2_with (first | ((with_reducible refine gd_ 7 ?_); refine xbe_ (N := 7) (cs := #[.string (⟨#[]⟩ : ByteArray), .string (⟨#[]⟩ : ByteArray)]) (t := 105) ?_; intro gb337 hg w10 hbox hb; replace HO_5 := xrb_ HO_5 hb; have BK337 := Aside0.mk (hbox); have GE337 := xge_ HB hg; replace HB := xws_ HB hb; clear hb hbox hg; have ⟨_, _, _, _⟩ := c2_ BK337) | ((with_reducible refine gc_ 81 ?_); refine xgl_ (some 16) Tryz.func81 #[.string ((rd_T105 l0 x10_1).f0)] ?_; (with_reducible refine (impl_small.calls ((rd_T105 l0 x10_1).f0) t338 _ A6.out).mono ?_); rintro e w12 ⟨rfl, hb⟩; refine ⟨_, rfl, ?_⟩; replace HO_5 := Aside0.mk (Kd.R_below (xrt_ ((Kd.R_mono (Kd.R_far (p := ⟨gb337, 1, none⟩) (Kd.R_far (p := ⟨gb337, 0, none⟩) (Kd.R_types HO_5.out BK337.out (by decide)) (fun _ hk => hk.2) (.string ((rd_T105 l0 x10_1).f0))) (fun _ hk => hk.2) (.string ((rd_T105 l0 x10_1).f1))) (fun _ h_ => h_.1)))) hb); replace BK337 := mxb_ (o' := .cells #[.string ((rd_T105 l0 x10_1).f0), .string ((rd_T105 l0 x10_1).f1)] 105 (0, 0)) BK337 hb; replace HB := xws_ HB hb; (try clear hb)) | ((with_reducible refine gc_ 81 ?_); refine xgl_ (some 18) Tryz.func81 #[.string a1] ?_; (with_reducible refine (impl_small.calls a1 t339 _ A7.out).mono ?_); rintro e w13 ⟨rfl, hb⟩; refine ⟨_, rfl, ?_⟩; replace HO_5 := xrb_ HO_5 hb; replace BK337 := xbb_ BK337 hb; replace HB := xws_ HB hb; (try clear hb); have ⟨_, _, _, _⟩ := c2_ BK337) | ((with_reducible refine gate_builtin (b := .append) (xs := #[.tmp 20, .tmp 23]) rfl ?_); at_builtin; refine Kd.R_append Kd.string (w0 := w) w.heap.size rfl (.tmp 20) (.tmp 23) 50 9 (.string ⟨#[]⟩) 16 rfl Tryz.underlying50 info9 rfl (by decide) (by omega) u5 x5_1 ((rd_T105 l0 x10_1).f1) [.string ((rd_T105 l0 x10_1).f1)] (fun _ => True) (fun _ => False) rfl rfl ?aP (fun _ hk => hk.elim) ?aF ?aO ?aB ?aS ?aL ?_; (case aP => exact rfl); (case aB => exact (xw_ HB)); (case aF => exact (fun _ _ => trivial)); (case aO => exact (xr_ HO_5)); (case aS => exact (below_size (xw_ HB))); (case aL => have := LMc9.out; omega); intro v341 w15 ho hb hg hat; rw [← Ny340.out] at ho; replace BK337 := Aside0.mk (blk_grown (g := gb337) (o := .cells #[.string ((rd_T105 l0 x10_1).f0), .string ((rd_T105 l0 x10_1).f1)] 105 (0, 0)) (xb_ BK337) hg (Kd.R_ne HO_5.out BK337.out (by decide))); replace HB := Aside0.mk (hb); have HO342 := Aside0.mk (ho); clear HO_5; clear ho hb hg hat))
     go_roundg k1
     case measure => have := HK1.out; omega
     case rel => exact ⟨(y340), (wrap64 (x10_1 + 1)), me_, H', ⟨by have := HK1.out; omega⟩, ⟨xr_ HO342⟩, ⟨xw_ HB⟩⟩
    ·rw [if_neg c8] at H
     have c8b0 : (t338.toList == t339.toList) = false := beq_eq_false_iff_ne.mpr c8
     have c8b1 : (t338.toList != t339.toList) = true := bne_iff_ne.mpr c8
     have H' := Aside0.mk H
     clear H
     have p336 : 0 ≤ (x10_1 : Int) := md_
     have q336 : x10_1 < (l0.length : Int) := md_
     obtain ⟨ad336, e336, hx336_0, hx336_1⟩ := at_T105 HR0.out x10_1 p336 q336
     cases e336
     (try replace hx336_0 := (HB.out.cell (World.block_lt_of_cell? w _ hx336_0)).trans hx336_0)
     (try replace hx336_1 := (HB.out.cell (World.block_lt_of_cell? w _ hx336_1)).trans hx336_1)
     replace p336 := eq_true p336
     replace q336 := eq_true q336
     go_wp2_with (first | ((with_reducible refine gd_ 7 ?_); refine xbe_ (N := 7) (cs := #[.string (⟨#[]⟩ : ByteArray), .string (⟨#[]⟩ : ByteArray)]) (t := 105) ?_; intro gb337 hg w16 hbox hb; replace HO_5 := xrb_ HO_5 hb; have BK337 := Aside0.mk (hbox); have GE337 := xge_ HB hg; replace HB := xws_ HB hb; clear hb hbox hg; have ⟨_, _, _, _⟩ := c2_ BK337) | ((with_reducible refine gc_ 81 ?_); refine xgl_ (some 16) Tryz.func81 #[.string ((rd_T105 l0 x10_1).f0)] ?_; (with_reducible refine (impl_small.calls ((rd_T105 l0 x10_1).f0) t338 _ A6.out).mono ?_); rintro e w18 ⟨rfl, hb⟩; refine ⟨_, rfl, ?_⟩; replace HO_5 := Aside0.mk (Kd.R_below (xrt_ ((Kd.R_mono (Kd.R_far (p := ⟨gb337, 1, none⟩) (Kd.R_far (p := ⟨gb337, 0, none⟩) (Kd.R_types HO_5.out BK337.out (by decide)) (fun _ hk => hk.2) (.string ((rd_T105 l0 x10_1).f0))) (fun _ hk => hk.2) (.string ((rd_T105 l0 x10_1).f1))) (fun _ h_ => h_.1)))) hb); replace BK337 := mxb_ (o' := .cells #[.string ((rd_T105 l0 x10_1).f0), .string ((rd_T105 l0 x10_1).f1)] 105 (0, 0)) BK337 hb; replace HB := xws_ HB hb; (try clear hb)) | ((with_reducible refine gc_ 81 ?_); refine xgl_ (some 18) Tryz.func81 #[.string a1] ?_; (with_reducible refine (impl_small.calls a1 t339 _ A7.out).mono ?_); rintro e w19 ⟨rfl, hb⟩; refine ⟨_, rfl, ?_⟩; replace HO_5 := xrb_ HO_5 hb; replace BK337 := xbb_ BK337 hb; replace HB := xws_ HB hb; (try clear hb)))
     go_roundg k1
     case measure => have := HK1.out; omega
     case rel => exact ⟨(x5_1), (wrap64 (x10_1 + 1)), me_, H', ⟨by have := HK1.out; omega⟩, ⟨xr_ HO_5⟩, ⟨xw_ HB⟩⟩
   ·rw [if_neg c3] at H
    have c3b0 := decide_eq_false c3
    clear c3
    obtain rfl := Option.some.inj H
    go_wp2
    go_ret
    exact ⟨_, mf_, by (with_reducible repeat (first | apply Kd.R_alloc | apply Kd.R_drewN | apply Kd.R_drew)); exact HO_5.out, xw_ HB⟩

/-! ### impl_listOf: function 93 -/
mutual
def impl_listOf.l0 : Nat → ByteArray → List ByteArray → Int → Bool → Int → Option (List ByteArray × Bool)
 | 0, _, _, _, _, _ => none
 | k + 1, x0, x4, x5, x6, x7 => if x7 ≤ (x0.size : Int) then (if x7 = (x0.size : Int) then (impl_listOf.j1 k x0 x4 x5 x6 x7 true) else (if 0 ≤ x7 then (if x7 < (x0.size : Int) then (if (bt x0 x7) = 44 then (impl_listOf.j1 k x0 x4 x5 x6 x7 (!x6)) else (impl_listOf.j1 k x0 x4 x5 x6 x7 false)) else (none)) else (none))) else (some (x4, !x6))
def impl_listOf.j1 : Nat → ByteArray → List ByteArray → Int → Bool → Int → Bool → Option (List ByteArray × Bool)
 | 0, _, _, _, _, _, _ => none
 | k + 1, x0, x4, x5, x6, x7, x15 => if x15 = true then (if 0 ≤ x5 then (if x5 ≤ x7 then (if x7 ≤ (x0.size : Int) then ((strings_Trim.f k (x0.extract (x5 : Int).toNat (x7 : Int).toNat) (⟨#[32]⟩ : ByteArray)).bind fun t343 => (if t343.toList = ([] : List UInt8) then (impl_listOf.l0 k x0 x4 (wrap64 (x7 + 1)) x6 (wrap64 (x7 + 1))) else (if x4.length < 8796093022208 then (impl_listOf.l0 k x0 (x4 ++ [t343]) (wrap64 (x7 + 1)) x6 (wrap64 (x7 + 1))) else (none)))) else (none)) else (none)) else (none)) else (if 0 ≤ x7 then (if x7 < (x0.size : Int) then (if (bt x0 x7) = 34 then (impl_listOf.l0 k x0 x4 x5 (!x6) (wrap64 (x7 + 1))) else (if (bt x0 x7) = 92 then (impl_listOf.j2 k x0 x4 x5 x6 x7 x6) else (impl_listOf.j2 k x0 x4 x5 x6 x7 false))) else (none)) else (none))
def impl_listOf.j2 : Nat → ByteArray → List ByteArray → Int → Bool → Int → Bool → Option (List ByteArray × Bool)
 | 0, _, _, _, _, _, _ => none
 | k + 1, x0, x4, x5, x6, x7, x50 => if x50 = true then (if (wrap64 (x7 + 1)) = (x0.size : Int) then (some (([] : List ByteArray), false)) else (impl_listOf.l0 k x0 x4 x5 x6 (wrap64 ((wrap64 (x7 + 1)) + 1)))) else (impl_listOf.l0 k x0 x4 x5 x6 (wrap64 (x7 + 1)))
end
def impl_listOf.f (k : Nat) (a0 : ByteArray) : Option (List ByteArray × Bool) := impl_listOf.l0 k a0 ([] : List ByteArray) 0 false 0
set_option maxHeartbeats 8000000 in
set_option maxRecDepth 100000 in
theorem impl_listOf.calls (k : Nat) (a0 : ByteArray) (r1 : List ByteArray) (r2 : Bool) (w : World) (h : impl_listOf.f k a0 = some (r1, r2)) :
  Calls Tryz.prog 93 #[.string a0] w fun e w' => ∃ v0_ : Value, e = .returned (.tuple #[v0_, .bool r2]) ∧ Kd.R Kd.string 9 w' w.heap.size (fun _ => True) v0_ r1 ∧ Below w.heap.size w w' := by
 have HB := Aside0.mk (Below.refl w.heap.size w)
 have H := h
 unfold impl_listOf.f at H
 clear h
 have H' := Aside0.mk H
 clear H
 go_enter Tryz.func93, Tryz.ntmps93
 go_wp2
 go_loopg [4, 5, 6, 7] k (fun kq v4 v5 v6 v7 w' => ∃ (x4_1 : List ByteArray) (x5_1 : Int) (x6_1 : Bool) (x7_1 : Int), v5 = .int .i64 x5_1 ∧ v6 = .bool x6_1 ∧ v7 = .int .i64 x7_1 ∧ Aside0 (impl_listOf.l0 kq a0 x4_1 x5_1 x6_1 x7_1 = some (r1, r2)) ∧ Aside0 (kq ≤ k) ∧ Aside0 (Kd.R Kd.string 9 w' w.heap.size (fun _ => True) v4 x4_1) ∧ Aside0 (Below w.heap.size w w'))
 case atStart => exact ⟨(([] : List ByteArray)), (0), (false), (0), me_, me_, me_, H', ⟨Nat.le_refl _⟩, ⟨by first | exact Kd.R_nil _ _ _ _ _ | exact Kd.N_nil _ _ _ _ _ | exact Kd.V_nil _ _ _ _ _ | exact Kd.Q_nil _ _ _ _ _ | exact Kd.S_nil _ _ _ _ _⟩, ⟨xw_ HB⟩⟩
 case round =>
  clear H'
  obtain ⟨x4_1, x5_1, x6_1, x7_1, rfl, rfl, rfl, HA, HK1, HO_4, HB⟩ := hrel
  cases gk with
  | zero => exact absurd HA.out (by simp [impl_listOf.l0])
  | succ k1 =>
   have H := HA.out
   clear HA
   simp only [impl_listOf.l0] at H
   by_cases c2 : x7_1 ≤ (a0.size : Int)
   ·rw [if_pos c2] at H
    have c2b0 := decide_eq_true c2
    clear c2
    have HC3 := Aside0.mk H
    clear H
    go_upto_region 6 with (fail)
    go_cut [15] (fun v15 wc => ∃ (kq : Nat) (x15_2 : Bool), v15 = .bool x15_2 ∧ Aside0 (impl_listOf.j1 kq a0 x4_1 x5_1 x6_1 x7_1 x15_2 = some (r1, r2)) ∧ Aside0 (kq ≤ k1) ∧ Aside0 (Kd.R Kd.string 9 wc w.heap.size (fun _ => True) u4 x4_1) ∧ Aside0 (Below w.heap.size w wc))
    case first =>
     have H := HC3.out
     clear HC3
     by_cases c4 : x7_1 = (a0.size : Int)
     ·rw [if_pos c4] at H
      have c4b0 : (x7_1 == (a0.size : Int)) = true := beq_iff_eq.mpr c4
      have c4b1 : (x7_1 != (a0.size : Int)) = false := bne_eq_false_iff_eq.mpr c4
      clear c4
      (first | rw [c4b0] | (simp only [i64_w, i32_w]; rw [c4b0]) | skip)
      have H' := Aside0.mk H
      clear H
      go_wp2
      go_meet
      case rel => exact ⟨_, (true), me_, H', ⟨by have := HK1.out; first | omega | exact Nat.le_refl _⟩, ⟨xr_ HO_4⟩, ⟨xw_ HB⟩⟩
     ·rw [if_neg c4] at H
      have c4b0 : (x7_1 == (a0.size : Int)) = false := beq_eq_false_iff_ne.mpr c4
      have c4b1 : (x7_1 != (a0.size : Int)) = true := bne_iff_ne.mpr c4
      (first | rw [c4b0] | (simp only [i64_w, i32_w]; rw [c4b0]) | skip)
      replace H := mi_ H
      obtain ⟨c5, H⟩ := H
      have c5b0 := decide_eq_true c5
      clear c5
      replace H := mi_ H
      obtain ⟨c6, H⟩ := H
      have c6b0 := decide_eq_true c6
      clear c6
      by_cases c8 : (bt a0 x7_1) = 44
      ·rw [if_pos c8] at H
       have c8b0 : ((bt a0 x7_1) == 44) = true := beq_iff_eq.mpr c8
       have c8b1 : ((bt a0 x7_1) != 44) = false := bne_eq_false_iff_eq.mpr c8
       clear c8
       have H' := Aside0.mk H
       clear H
       have p7 : 0 ≤ (x7_1 : Int) := md_
       have q7 : x7_1 < (a0.size : Int) := md_
       have hx7 := bt_at a0 x7_1
       replace p7 := eq_true p7
       replace q7 := eq_true q7
       go_wp2
       go_meet
       case rel => exact ⟨_, (!x6_1), me_, H', ⟨by have := HK1.out; first | omega | exact Nat.le_refl _⟩, ⟨xr_ HO_4⟩, ⟨xw_ HB⟩⟩
      ·rw [if_neg c8] at H
       have c8b0 : ((bt a0 x7_1) == 44) = false := beq_eq_false_iff_ne.mpr c8
       have c8b1 : ((bt a0 x7_1) != 44) = true := bne_iff_ne.mpr c8
       have H' := Aside0.mk H
       clear H
       have p7 : 0 ≤ (x7_1 : Int) := md_
       have q7 : x7_1 < (a0.size : Int) := md_
       have hx7 := bt_at a0 x7_1
       replace p7 := eq_true p7
       replace q7 := eq_true q7
       go_wp2
       go_meet
       case rel => exact ⟨_, (false), me_, H', ⟨by have := HK1.out; first | omega | exact Nat.le_refl _⟩, ⟨xr_ HO_4⟩, ⟨xw_ HB⟩⟩
    case rest =>
     clear HC3
     try clear c2
     try clear c2b0
     obtain ⟨kq, x15_2, rfl, HA, HJ2, HO_4, HB⟩ := hcut
     cases kq with
     | zero => exact absurd HA.out (by simp [impl_listOf.j1])
     | succ kj2 =>
      have H := HA.out
      clear HA
      simp only [impl_listOf.j1] at H
      by_cases c9 : x15_2 = true
      ·subst c9
       rw [if_pos rfl] at H
       replace H := mi_ H
       obtain ⟨c10, H⟩ := H
       have c10b0 := eq_true c10
       have c10b1 := decide_eq_true c10
       clear c10
       replace H := mi_ H
       obtain ⟨c11, H⟩ := H
       have c11b0 := eq_true c11
       have c11b1 := decide_eq_true c11
       clear c11
       replace H := mi_ H
       obtain ⟨c12, H⟩ := H
       have c12b0 := eq_true c12
       have c12b1 := decide_eq_true c12
       clear c12
       replace H := mb_ H
       obtain ⟨t343, A13, H⟩ := H
       by_cases c14 : t343.toList = ([] : List UInt8)
       ·rw [if_pos c14] at H
        have c14b0 : (t343.toList == ([] : List UInt8)) = true := beq_iff_eq.mpr c14
        have c14b1 : (t343.toList != ([] : List UInt8)) = false := bne_eq_false_iff_eq.mpr c14
        clear c14
        have H' := Aside0.mk H
        clear H
        go_wp2_with (first | ((with_reducible refine gc_ 142 ?_); refine xgl_ (some 34) Tryz.func142 #[.string (a0.extract (x5_1 : Int).toNat (x7_1 : Int).toNat), .string (⟨#[32]⟩ : ByteArray)] ?_; (with_reducible refine (strings_Trim.calls kj2 (a0.extract (x5_1 : Int).toNat (x7_1 : Int).toNat) (⟨#[32]⟩ : ByteArray) t343 _ A13.out).mono ?_); rintro e w15 ⟨rfl, hb⟩; refine ⟨_, rfl, ?_⟩; replace HO_4 := xrb_ HO_4 hb; replace HB := xws_ HB hb; (try clear hb)))
        go_roundg kj2
        case measure => have := HK1.out; have := HJ2.out; omega
        case rel => exact ⟨(x4_1), (wrap64 (x7_1 + 1)), (x6_1), (wrap64 (x7_1 + 1)), me_, me_, me_, H', ⟨by have := HK1.out; have := HJ2.out; omega⟩, ⟨xr_ HO_4⟩, ⟨xw_ HB⟩⟩
       ·rw [if_neg c14] at H
        have c14b0 : (t343.toList == ([] : List UInt8)) = false := beq_eq_false_iff_ne.mpr c14
        have c14b1 : (t343.toList != ([] : List UInt8)) = true := bne_iff_ne.mpr c14
        replace H := mi_ H
        obtain ⟨c16, H⟩ := H
        have LMc16 := Aside0.mk c16
        clear c16
        obtain ⟨y344, hy344⟩ : ∃ y_ : List ByteArray, y_ = (x4_1 ++ [t343]) := ⟨_, rfl⟩
        replace H : (impl_listOf.l0 kj2 a0 y344 (wrap64 (x7_1 + 1)) x6_1 (wrap64 (x7_1 + 1))) = some (r1, r2) := by first | (rw [hy344]; with_reducible exact H) | (have H2_ := (Option.bind_some _ _).symm.trans H; rw [hy344]; with_reducible exact H2_) | (have H2_ := (Option.bind_some _ _).symm.trans H; with_reducible exact H2_) | with_reducible exact H | (rw [hy344]; exact H) | exact H
        have Ny344 := Aside0.mk hy344
        clear hy344
        have H' := Aside0.mk H
        clear H
        go_wp2_with (first | ((with_reducible refine gc_ 142 ?_); refine xgl_ (some 34) Tryz.func142 #[.string (a0.extract (x5_1 : Int).toNat (x7_1 : Int).toNat), .string (⟨#[32]⟩ : ByteArray)] ?_; (with_reducible refine (strings_Trim.calls kj2 (a0.extract (x5_1 : Int).toNat (x7_1 : Int).toNat) (⟨#[32]⟩ : ByteArray) t343 _ A13.out).mono ?_); rintro e w17 ⟨rfl, hb⟩; refine ⟨_, rfl, ?_⟩; replace HO_4 := xrb_ HO_4 hb; replace HB := xws_ HB hb; (try clear hb)) | ((with_reducible refine gate_builtin (b := .append) (xs := #[.tmp 37, .tmp 39]) rfl ?_); at_builtin; refine Kd.R_append Kd.string (w0 := w) w.heap.size rfl (.tmp 37) (.tmp 39) 50 9 (.string ⟨#[]⟩) 16 rfl Tryz.underlying50 info9 rfl (by decide) (by omega) u4 x4_1 t343 [.string t343] (fun _ => True) (fun _ => False) rfl rfl ?aP (fun _ hk => hk.elim) ?aF ?aO ?aB ?aS ?aL ?_; (case aP => exact rfl); (case aB => exact (xw_ HB)); (case aF => exact (fun _ _ => trivial)); (case aO => exact (xr_ HO_4)); (case aS => exact (below_size (xw_ HB))); (case aL => have := LMc16.out; omega); intro v345 w18 ho hb hg hat; rw [← Ny344.out] at ho; replace HB := Aside0.mk (hb); have HO346 := Aside0.mk (ho); clear HO_4; clear ho hb hg hat))
        go_roundg kj2
        case measure => have := HK1.out; have := HJ2.out; omega
        case rel => exact ⟨(y344), (wrap64 (x7_1 + 1)), (x6_1), (wrap64 (x7_1 + 1)), me_, me_, me_, H', ⟨by have := HK1.out; have := HJ2.out; omega⟩, ⟨xr_ HO346⟩, ⟨xw_ HB⟩⟩
      ·replace c9 := Bool.eq_false_iff.mpr c9
       subst c9
       rw [if_neg (show ¬ (false = true) by decide)] at H
       replace H := mi_ H
       obtain ⟨c19, H⟩ := H
       have c19b0 := decide_eq_true c19
       clear c19
       replace H := mi_ H
       obtain ⟨c20, H⟩ := H
       have c20b0 := decide_eq_true c20
       clear c20
       by_cases c22 : (bt a0 x7_1) = 34
       ·rw [if_pos c22] at H
        have c22b0 : ((bt a0 x7_1) == 34) = true := beq_iff_eq.mpr c22
        have c22b1 : ((bt a0 x7_1) != 34) = false := bne_eq_false_iff_eq.mpr c22
        clear c22
        have H' := Aside0.mk H
        clear H
        have p21 : 0 ≤ (x7_1 : Int) := md_
        have q21 : x7_1 < (a0.size : Int) := md_
        have hx21 := bt_at a0 x7_1
        replace p21 := eq_true p21
        replace q21 := eq_true q21
        go_wp2
        go_roundg kj2
        case measure => have := HK1.out; have := HJ2.out; omega
        case rel => exact ⟨(x4_1), (x5_1), (!x6_1), (wrap64 (x7_1 + 1)), me_, me_, me_, H', ⟨by have := HK1.out; have := HJ2.out; omega⟩, ⟨xr_ HO_4⟩, ⟨xw_ HB⟩⟩
       ·rw [if_neg c22] at H
        have c22b0 : ((bt a0 x7_1) == 34) = false := beq_eq_false_iff_ne.mpr c22
        have c22b1 : ((bt a0 x7_1) != 34) = true := bne_iff_ne.mpr c22
        have HC23 := Aside0.mk H
        clear H
        have p21 : 0 ≤ (x7_1 : Int) := md_
        have q21 : x7_1 < (a0.size : Int) := md_
        have hx21 := bt_at a0 x7_1
        replace p21 := eq_true p21
        replace q21 := eq_true q21
        go_upto_region 13 with (fail)
        go_cut [50] (fun v50 wc => ∃ (kq : Nat) (x50_22 : Bool), v50 = .bool x50_22 ∧ Aside0 (impl_listOf.j2 kq a0 x4_1 x5_1 x6_1 x7_1 x50_22 = some (r1, r2)) ∧ Aside0 (kq ≤ kj2) ∧ Aside0 (Kd.R Kd.string 9 wc w.heap.size (fun _ => True) u4 x4_1) ∧ Aside0 (Below w.heap.size w wc))
        case first =>
         have H := HC23.out
         clear HC23
         by_cases c25 : (bt a0 x7_1) = 92
         ·rw [if_pos c25] at H
          have c25b0 : ((bt a0 x7_1) == 92) = true := beq_iff_eq.mpr c25
          have c25b1 : ((bt a0 x7_1) != 92) = false := bne_eq_false_iff_eq.mpr c25
          clear c25
          (first | rw [c25b0] | (simp only [i64_w, i32_w]; rw [c25b0]) | skip)
          have H' := Aside0.mk H
          clear H
          have p24 : 0 ≤ (x7_1 : Int) := md_
          have q24 : x7_1 < (a0.size : Int) := md_
          have hx24 := bt_at a0 x7_1
          replace p24 := eq_true p24
          replace q24 := eq_true q24
          go_wp2
          go_meet
          case rel => exact ⟨_, (x6_1), me_, H', ⟨by have := HK1.out; have := HJ2.out; first | omega | exact Nat.le_refl _⟩, ⟨xr_ HO_4⟩, ⟨xw_ HB⟩⟩
         ·rw [if_neg c25] at H
          have c25b0 : ((bt a0 x7_1) == 92) = false := beq_eq_false_iff_ne.mpr c25
          have c25b1 : ((bt a0 x7_1) != 92) = true := bne_iff_ne.mpr c25
          (first | rw [c25b0] | (simp only [i64_w, i32_w]; rw [c25b0]) | skip)
          have H' := Aside0.mk H
          clear H
          have p24 : 0 ≤ (x7_1 : Int) := md_
          have q24 : x7_1 < (a0.size : Int) := md_
          have hx24 := bt_at a0 x7_1
          replace p24 := eq_true p24
          replace q24 := eq_true q24
          go_wp2
          go_meet
          case rel => exact ⟨_, (false), me_, H', ⟨by have := HK1.out; have := HJ2.out; first | omega | exact Nat.le_refl _⟩, ⟨xr_ HO_4⟩, ⟨xw_ HB⟩⟩
        case rest =>
         clear HC23
         try clear c2
         try clear c2b0
         try clear c9
         try clear c10
         try clear c10b0
         try clear c10b1
         try clear c11
         try clear c11b0
         try clear c11b1
         try clear c12
         try clear c12b0
         try clear c12b1
         try clear c14
         try clear c19
         try clear c19b0
         try clear c20
         try clear c20b0
         try clear p21
         try clear q21
         try clear hx21
         try clear c22
         try clear c22b0
         try clear c22b1
         try clear p21
         try clear q21
         obtain ⟨kq, x50_22, rfl, HA, HJ22, HO_4, HB⟩ := hcut
         cases kq with
         | zero => exact absurd HA.out (by simp [impl_listOf.j2])
         | succ kj22 =>
          have H := HA.out
          clear HA
          simp only [impl_listOf.j2] at H
          by_cases c26 : x50_22 = true
          ·subst c26
           rw [if_pos rfl] at H
           by_cases c27 : (wrap64 (x7_1 + 1)) = (a0.size : Int)
           ·rw [if_pos c27] at H
            have c27b0 : ((wrap64 (x7_1 + 1)) == (a0.size : Int)) = true := beq_iff_eq.mpr c27
            have c27b1 : ((wrap64 (x7_1 + 1)) != (a0.size : Int)) = false := bne_eq_false_iff_eq.mpr c27
            clear c27
            simp only [Option.some.injEq, Prod.mk.injEq] at H
            obtain ⟨rfl, rfl⟩ := H
            go_wp2
            go_ret2
            exact ⟨_, mf_, by first | exact Kd.R_nil _ _ _ _ _ | exact Kd.N_nil _ _ _ _ _ | exact Kd.V_nil _ _ _ _ _ | exact Kd.Q_nil _ _ _ _ _ | exact Kd.S_nil _ _ _ _ _, xw_ HB⟩
           ·rw [if_neg c27] at H
            have c27b0 : ((wrap64 (x7_1 + 1)) == (a0.size : Int)) = false := beq_eq_false_iff_ne.mpr c27
            have c27b1 : ((wrap64 (x7_1 + 1)) != (a0.size : Int)) = true := bne_iff_ne.mpr c27
            have H' := Aside0.mk H
            clear H
            go_wp2
            go_roundg kj22
            case measure => have := HK1.out; have := HJ2.out; have := HJ22.out; omega
            case rel => exact ⟨(x4_1), (x5_1), (x6_1), (wrap64 ((wrap64 (x7_1 + 1)) + 1)), me_, me_, me_, H', ⟨by have := HK1.out; have := HJ2.out; have := HJ22.out; omega⟩, ⟨xr_ HO_4⟩, ⟨xw_ HB⟩⟩
          ·replace c26 := Bool.eq_false_iff.mpr c26
           subst c26
           rw [if_neg (show ¬ (false = true) by decide)] at H
           have H' := Aside0.mk H
           clear H
           go_wp2
           go_roundg kj22
           case measure => have := HK1.out; have := HJ2.out; have := HJ22.out; omega
           case rel => exact ⟨(x4_1), (x5_1), (x6_1), (wrap64 (x7_1 + 1)), me_, me_, me_, H', ⟨by have := HK1.out; have := HJ2.out; have := HJ22.out; omega⟩, ⟨xr_ HO_4⟩, ⟨xw_ HB⟩⟩
   ·rw [if_neg c2] at H
    have c2b0 := decide_eq_false c2
    clear c2
    simp only [Option.some.injEq, Prod.mk.injEq] at H
    obtain ⟨rfl, rfl⟩ := H
    go_wp2
    go_ret2
    exact ⟨_, mf_, by (with_reducible repeat (first | apply Kd.R_alloc | apply Kd.R_drewN | apply Kd.R_drew)); exact HO_4.out, xw_ HB⟩

end Go.Proofs.YtpggepjfhgalkaaGreatDoor.PFnExactMatches
