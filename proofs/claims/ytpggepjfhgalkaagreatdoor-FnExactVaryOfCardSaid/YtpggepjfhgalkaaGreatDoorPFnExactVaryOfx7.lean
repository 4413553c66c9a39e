-- Written by a program of this project (xprint.py) out of the translation; Lean checks it.
import Derived.Test.YtpggepjfhgalkaaGreatDoorPFnExactVaryOfx0
import Derived.Test.YtpggepjfhgalkaaGreatDoorPFnExactVaryOfx1
import Derived.Test.YtpggepjfhgalkaaGreatDoorPFnExactVaryOfx3
import Derived.Test.YtpggepjfhgalkaaGreatDoorPFnExactVaryOfx6
namespace Go.Proofs.YtpggepjfhgalkaaGreatDoor.PFnExactVaryOf
open Go.RowKit Go.Proofs.YtpggepjfhgalkaaGreatDoorW.PrintWords Go.Proofs.YtpggepjfhgalkaaGreatDoorW.PrintLast Go.Proofs.YtpggepjfhgalkaaGreatDoorW.PrintMore
attribute [local go_sem] max2_int min2_int max_two min_two max_three min_three max_four min_four   -- for this text's walks alone
set_option linter.unusedVariables false
set_option linter.unusedSimpArgs false

/-! ### spec_l3Joined: function 87 -/
def spec_l3Joined.l0 : Nat → ByteArray → List ByteArray → List ByteArray → Int → Int → Option (ByteArray × Bool)
 | 0, _, _, _, _, _ => none
 | k + 1, x6, x7, x13, x14, x15 => if x15 < x14 then (if 0 ≤ x15 then (if x15 < (x13.length : Int) then (if x15 > 0 then (if x6.size + 2 ≤ 9223372036854775807 then (if (x6 ++ (⟨#[44, 32]⟩ : ByteArray)).size + (rdOf ByteArray.empty x13 x15).size ≤ 9223372036854775807 then (spec_l3Joined.l0 k ((x6 ++ (⟨#[44, 32]⟩ : ByteArray)) ++ (rdOf ByteArray.empty x13 x15)) x7 x13 x14 (wrap64 (x15 + 1))) else (none)) else (none)) else (if x6.size + (rdOf ByteArray.empty x13 x15).size ≤ 9223372036854775807 then (spec_l3Joined.l0 k (x6 ++ (rdOf ByteArray.empty x13 x15)) x7 x13 x14 (wrap64 (x15 + 1))) else (none))) else (none)) else (none)) else (some (x6, decide ((x7.length : Int) > 0)))
def spec_l3Joined.f (k : Nat) (l0 : List (S105)) (a1 : ByteArray) : Option (ByteArray × Bool) := (spec_l3Values.f k l0 a1).bind fun t167 => (spec_l3Joined.l0 k (⟨#[]⟩ : ByteArray) t167 t167 (t167.length : Int) 0)
theorem spec_l3Joined.mono_l : ∀ k, (∀ y0 y1 y2 y3 y4, LeO (spec_l3Joined.l0 k y0 y1 y2 y3 y4) (spec_l3Joined.l0 (k + 1) y0 y1 y2 y3 y4))
 | 0 => fun _ _ _ _ _ r h => by simp [spec_l3Joined.l0] at h
 | k + 1 => by
  have ih0 := spec_l3Joined.mono_l k
  ·intro y0 y1 y2 y3 y4
   unfold spec_l3Joined.l0
   repeat' first
   | (with_reducible exact ih0 _ _ _ _ _)
   | (with_reducible exact spec_l3Values.mono _ _ _)
   | (with_reducible exact LeO.refl _)
   | (with_reducible exact LeO.none _)
   | (with_reducible refine LeO.ite ?_ ?_)
   | (with_reducible refine LeO.bind ?_ (fun _ => ?_))
   | exact ih0 _ _ _ _ _
   | exact spec_l3Values.mono _ _ _
   | exact LeO.none _
   | refine LeO.ite ?_ ?_
   | refine LeO.bind ?_ (fun _ => ?_)
theorem spec_l3Joined.mono : ∀ a0 a1 k, LeO (spec_l3Joined.f k a0 a1) (spec_l3Joined.f (k + 1) a0 a1) := by
 intro a0 a1 k
 have ih0 := spec_l3Joined.mono_l k
 unfold spec_l3Joined.f
 repeat' first
   | (with_reducible exact ih0 _ _ _ _ _)
   | (with_reducible exact spec_l3Values.mono _ _ _)
   | (with_reducible exact LeO.refl _)
   | (with_reducible exact LeO.none _)
   | (with_reducible refine LeO.ite ?_ ?_)
   | (with_reducible refine LeO.bind ?_ (fun _ => ?_))
   | exact ih0 _ _ _ _ _
   | exact spec_l3Values.mono _ _ _
   | exact LeO.none _
   | refine LeO.ite ?_ ?_
   | refine LeO.bind ?_ (fun _ => ?_)
set_option maxHeartbeats 8000000 in
set_option maxRecDepth 100000 in
theorem spec_l3Joined.calls (k : Nat) (A0 : Option Addr) (c0 : Nat) (l0 : List (S105)) (a1 : ByteArray) (r1 : ByteArray) (r2 : Bool) (w : World) (hr0 : Kd.C k105 w A0 l0.length l0) (hc0 : l0.length ≤ c0) (h : spec_l3Joined.f k l0 a1 = some (r1, r2)) :
  Calls Tryz.prog 87 #[.slice A0 l0.length c0, .string a1] w fun e w' => e = .returned (.tuple #[.string r1, .bool r2]) ∧ Below w.heap.size w w' := by
 have HR0 := Aside0.mk hr0
 have HC0 := Aside0.mk hc0
 clear hr0 hc0
 have HB := Aside0.mk (Below.refl w.heap.size w)
 have H : ((spec_l3Values.f k l0 a1).bind fun t167 => (spec_l3Joined.l0 k (⟨#[]⟩ : ByteArray) t167 t167 (t167.length : Int) 0)) = some (r1, r2) := h
 clear h
 replace H := Option.bind_eq_some_iff.mp H
 obtain ⟨t167, A30, H⟩ := H
 replace H : (spec_l3Joined.l0 k (⟨#[]⟩ : ByteArray) t167 t167 (t167.length : Int) 0) = some (r1, r2) := H
 have A3 := Aside0.mk A30
 clear A30
 have H' := Aside0.mk H
 clear H
 go_enter Tryz.func87, Tryz.ntmps87
 go_wp2_with (first | ((with_reducible refine gate_callee (f := 113) rfl ?_); refine xgl_ (some 12) Tryz.func113 #[.slice A0 l0.length c0, .string a1] ?_; (with_reducible refine (spec_l3Values.calls k _ _ l0 a1 t167 _ ?side1 ?side2 A3.out).mono ?_); (case side1 => repeat (first | exact HR0.out | (with_reducible refine Kd.C_alloc ?_ _) | (with_reducible refine Kd.C_drewN ?_ _) | (with_reducible refine Kd.C_drew ?_))); (case side2 => exact HC0.out); rintro e w4 ⟨v168, rfl, ho0, hb⟩; refine ⟨_, rfl, ?_⟩; have HO169 := Aside0.mk (Kd.R_lower ho0 (below_size (xw_ HB))); replace HB := xws_ HB hb; (try clear hb); (try clear hb2); (try clear hk); (try clear hi); (try clear ho0); obtain ⟨Ao5, co5, eo5⟩ := Kd.R_slice HO169.out; subst eo5))
 go_loopg [6, 15] k (fun kq v6 v15 w' => ∃ (x6_1 : ByteArray) (x15_1 : Int), v6 = .string x6_1 ∧ v15 = .int .i64 x15_1 ∧ Aside0 (spec_l3Joined.l0 kq x6_1 t167 t167 (t167.length : Int) x15_1 = some (r1, r2)) ∧ Aside0 (kq ≤ k) ∧ Aside0 (Kd.R Kd.string 9 w' w.heap.size (fun _ => True) (.slice Ao5 t167.length co5) t167) ∧ Aside0 (Kd.R Kd.string 9 w' w.heap.size (fun _ => True) (.slice Ao5 t167.length co5) t167) ∧ Aside0 (Below w.heap.size w w'))
 case atStart => exact ⟨((⟨#[]⟩ : ByteArray)), (0), (by first | rfl | (simp; done) | (simp [*]; done)), (by first | rfl | (simp; done) | (simp [*]; done)), H', ⟨Nat.le_refl _⟩, ⟨xr_ HO169⟩, ⟨xr_ HO169⟩, ⟨xw_ HB⟩⟩
 case round =>
  clear H'
  try clear c1
  try clear p2
  obtain ⟨x6_1, x15_1, rfl, rfl, HA, HK1, HO_7, HO_13, HB⟩ := hrel
  cases gk with
  | zero => exact absurd HA.out (by simp [spec_l3Joined.l0])
  | succ k1 =>
   have H := HA.out
   clear HA
   simp only [spec_l3Joined.l0] at H
   by_cases c6 : x15_1 < (t167.length : Int)
   ·rw [if_pos c6] at H
    have c6b0 : decide (x15_1 < (t167.length : Int)) = true := decide_eq_true c6
    clear c6
    by_cases c7 : 0 ≤ x15_1
    ·rw [if_pos c7] at H
     have c7b0 : decide (0 ≤ x15_1) = true := decide_eq_true c7
     clear c7
     by_cases c8 : x15_1 < (t167.length : Int)
     ·rw [if_pos c8] at H
      have c8b0 : decide (x15_1 < (t167.length : Int)) = true := decide_eq_true c8
      clear c8
      by_cases c9 : x15_1 > 0
      ·rw [if_pos c9] at H
       have c9b0 : decide (0 < x15_1) = true := decide_eq_true c9
       clear c9
       by_cases c10 : x6_1.size + 2 ≤ 9223372036854775807
       ·rw [if_pos c10] at H
        have c10b0 := eq_true c10
        have c10b1 : decide (x6_1.size + 2 ≤ 9223372036854775807) = true := decide_eq_true c10
        try have c10b2 : (9223372036854775807 < x6_1.size + 2) = False := eq_false (Nat.not_lt.2 c10)
        by_cases c11 : (x6_1 ++ (⟨#[44, 32]⟩ : ByteArray)).size + (rdOf ByteArray.empty t167 x15_1).size ≤ 9223372036854775807
        ·rw [if_pos c11] at H
         have c11b0 := eq_true c11
         have c11b1 : decide ((x6_1 ++ (⟨#[44, 32]⟩ : ByteArray)).size + (rdOf ByteArray.empty t167 x15_1).size ≤ 9223372036854775807) = true := decide_eq_true c11
         try have c11b2 : (9223372036854775807 < (x6_1 ++ (⟨#[44, 32]⟩ : ByteArray)).size + (rdOf ByteArray.empty t167 x15_1).size) = False := eq_false (Nat.not_lt.2 c11)
         try have c11b3 : (9223372036854775807 < x6_1.size + 2 + (rdOf ByteArray.empty t167 x15_1).size) = False := eq_false (Nat.not_lt.2 (by have z_ := c11; simp only [ByteArray.size_append] at z_; exact z_))
         have H' := Aside0.mk H
         clear H
         have p170 : 0 ≤ (x15_1 : Int) := of_decide_eq_true (by first | (with_reducible assumption) | assumption)
         have q170 : x15_1 < (t167.length : Int) := of_decide_eq_true (by first | (with_reducible assumption) | assumption)
         obtain ⟨ad170, e170, hx170_0⟩ := Kd.at_string (Kd.R_reads' HO_13.out).2.2 x15_1 p170 q170
         cases e170
         replace p170 := eq_true p170
         replace q170 := eq_true q170
         go_wp2
         go_roundg k1
         case measure => have := HK1.out; omega
         case rel => exact ⟨((x6_1 ++ (⟨#[44, 32]⟩ : ByteArray)) ++ (rdOf ByteArray.empty t167 x15_1)), (wrap64 (x15_1 + 1)), (by first | rfl | (simp; done) | (simp [*]; done)), (by first | rfl | (simp; done) | (simp [*]; done)), H', ⟨by have := HK1.out; omega⟩, ⟨xr_ HO_7⟩, ⟨xr_ HO_13⟩, ⟨xw_ HB⟩⟩
        ·rw [if_neg c11] at H
         exact absurd H (by simp)
       ·rw [if_neg c10] at H
        exact absurd H (by simp)
      ·rw [if_neg c9] at H
       have c9b0 : decide (0 < x15_1) = false := decide_eq_false c9
       clear c9
       by_cases c12 : x6_1.size + (rdOf ByteArray.empty t167 x15_1).size ≤ 9223372036854775807
       ·rw [if_pos c12] at H
        have c12b0 := eq_true c12
        have c12b1 : decide (x6_1.size + (rdOf ByteArray.empty t167 x15_1).size ≤ 9223372036854775807) = true := decide_eq_true c12
        try have c12b2 : (9223372036854775807 < x6_1.size + (rdOf ByteArray.empty t167 x15_1).size) = False := eq_false (Nat.not_lt.2 c12)
        have H' := Aside0.mk H
        clear H
        have p170 : 0 ≤ (x15_1 : Int) := of_decide_eq_true (by first | (with_reducible assumption) | assumption)
        have q170 : x15_1 < (t167.length : Int) := of_decide_eq_true (by first | (with_reducible assumption) | assumption)
        obtain ⟨ad170, e170, hx170_0⟩ := Kd.at_string (Kd.R_reads' HO_13.out).2.2 x15_1 p170 q170
        cases e170
        replace p170 := eq_true p170
        replace q170 := eq_true q170
        go_wp2
        go_roundg k1
        case measure => have := HK1.out; omega
        case rel => exact ⟨(x6_1 ++ (rdOf ByteArray.empty t167 x15_1)), (wrap64 (x15_1 + 1)), (by first | rfl | (simp; done) | (simp [*]; done)), (by first | rfl | (simp; done) | (simp [*]; done)), H', ⟨by have := HK1.out; omega⟩, ⟨xr_ HO_7⟩, ⟨xr_ HO_13⟩, ⟨xw_ HB⟩⟩
       ·rw [if_neg c12] at H
        exact absurd H (by simp)
     ·rw [if_neg c8] at H
      exact absurd H (by simp)
    ·rw [if_neg c7] at H
     exact absurd H (by simp)
   ·rw [if_neg c6] at H
    have c6b0 : decide (x15_1 < (t167.length : Int)) = false := decide_eq_false c6
    clear c6
    simp only [Option.some.injEq, Prod.mk.injEq] at H
    obtain ⟨rfl, rfl⟩ := H
    go_wp2
    go_ret2
    exact ⟨by first | rfl | (simp [errW_none, errW_some] <;> rfl) | (simp [*, errW_none, errW_some] <;> rfl), xw_ HB⟩

/-! ### spec_l9Vary: function 48 -/
mutual
def spec_l9Vary.l0 : Nat → Bool → List ByteArray → List ByteArray → Int → Int → Option (List ByteArray × Bool × Bool)
 | 0, _, _, _, _, _ => none
 | k + 1, x9, x10, x28, x29, x30 => if x30 < x29 then (if 0 ≤ x30 then (if x30 < (x28.length : Int) then (if (rdOf ByteArray.empty x28 x30).toList = ([42] : List UInt8) then (spec_l9Vary.l0 k true x10 x28 x29 (wrap64 (x30 + 1))) else ((spec_l3Token.f k (rdOf ByteArray.empty x28 x30)).bind fun t179 => (if t179 = true then ((spec_l1Lower.f (rdOf ByteArray.empty x28 x30)).bind fun t180 => (spec_l9Vary.l1 k x9 x10 t180 0 x28 x29 x30)) else (some (([] : List ByteArray), false, false))))) else (none)) else (none)) else (some (x10, x9, true))
def spec_l9Vary.l1 : Nat → Bool → List ByteArray → ByteArray → Int → List ByteArray → Int → Int → Option (List ByteArray × Bool × Bool)
 | 0, _, _, _, _, _, _, _ => none
 | k + 1, x9, x10, x12, x13, x28, x29, x30 => if x13 < (x10.length : Int) then (if 0 ≤ x13 then (if (Op.bytesLess ((rdOf ByteArray.empty x10 x13).toList) x12.toList) = true then (spec_l9Vary.l1 k x9 x10 x12 (wrap64 (x13 + 1)) x28 x29 x30) else (if (rdOf ByteArray.empty x10 x13).toList = x12.toList then (spec_l9Vary.l0 k x9 x10 x28 x29 (wrap64 (x30 + 1))) else (if x13 ≤ (x10.length : Int) then ((some (x10.take (x13 : Int).toNat : List ByteArray)).bind fun y183 => (if ([] : List ByteArray).length + y183.length < 8796093022208 then ((some (([] : List ByteArray) ++ y183 : List ByteArray)).bind fun y187 => (if y187.length < 8796093022208 then ((some (y187 ++ [x12] : List ByteArray)).bind fun y190 => ((some (x10.drop (x13 : Int).toNat : List ByteArray)).bind fun y193 => (if y190.length + y193.length < 8796093022208 then (spec_l9Vary.l0 k x9 (y190 ++ y193) x28 x29 (wrap64 (x30 + 1))) else (none)))) else (none))) else (none))) else (none)))) else (none)) else (if 0 ≤ x13 then (if x13 ≤ (x10.length : Int) then ((some (x10.take (x13 : Int).toNat : List ByteArray)).bind fun y200 => (if ([] : List ByteArray).length + y200.length < 8796093022208 then ((some (([] : List ByteArray) ++ y200 : List ByteArray)).bind fun y204 => (if y204.length < 8796093022208 then ((some (y204 ++ [x12] : List ByteArray)).bind fun y207 => ((some (x10.drop (x13 : Int).toNat : List ByteArray)).bind fun y210 => (if y207.length + y210.length < 8796093022208 then (spec_l9Vary.l0 k x9 (y207 ++ y210) x28 x29 (wrap64 (x30 + 1))) else (none)))) else (none))) else (none))) else (none)) else (none))
end
def spec_l9Vary.f (k : Nat) (a0_0 : Int) (a0_1 : ByteArray) (l0_2 : List (S105)) (a0_3 : ByteArray) : Option (List ByteArray × Bool × Bool) := (spec_l3Joined.f k l0_2 (⟨#[118, 97, 114, 121]⟩ : ByteArray)).bind fun bt172 => ((spec_l3List.f k bt172.1).bind fun bt174 => (if bt174.2 = true then (spec_l9Vary.l0 k false ([] : List ByteArray) bt174.1 (bt174.1.length : Int) 0) else (some (([] : List ByteArray), false, false))))
theorem spec_l9Vary.mono_l : ∀ k, (∀ y0 y1 y2 y3 y4, LeO (spec_l9Vary.l0 k y0 y1 y2 y3 y4) (spec_l9Vary.l0 (k + 1) y0 y1 y2 y3 y4)) ∧ (∀ y0 y1 y2 y3 y4 y5 y6, LeO (spec_l9Vary.l1 k y0 y1 y2 y3 y4 y5 y6) (spec_l9Vary.l1 (k + 1) y0 y1 y2 y3 y4 y5 y6))
 | 0 => ⟨fun _ _ _ _ _ r h => by simp [spec_l9Vary.l0] at h, fun _ _ _ _ _ _ _ r h => by simp [spec_l9Vary.l1] at h⟩
 | k + 1 => by
  obtain ⟨ih0, ih1⟩ := spec_l9Vary.mono_l k
  refine ⟨?_, ?_⟩
  ·intro y0 y1 y2 y3 y4
   unfold spec_l9Vary.l0
   repeat' first
   | (with_reducible exact ih0 _ _ _ _ _)
   | (with_reducible exact ih1 _ _ _ _ _ _ _)
   | (with_reducible exact spec_l3Joined.mono _ _ _)
   | (with_reducible exact spec_l3List.mono _ _)
   | (with_reducible exact spec_l3Token.mono _ _)
   | (with_reducible exact LeO.refl _)
   | (with_reducible exact LeO.none _)
   | (with_reducible refine LeO.ite ?_ ?_)
   | (with_reducible refine LeO.bind ?_ (fun _ => ?_))
   | exact ih0 _ _ _ _ _
   | exact ih1 _ _ _ _ _ _ _
   | exact spec_l3Joined.mono _ _ _
   | exact spec_l3List.mono _ _
   | exact spec_l3Token.mono _ _
   | exact LeO.none _
   | refine LeO.ite ?_ ?_
   | refine LeO.bind ?_ (fun _ => ?_)
  ·intro y0 y1 y2 y3 y4 y5 y6
   unfold spec_l9Vary.l1
   repeat' first
   | (with_reducible exact ih0 _ _ _ _ _)
   | (with_reducible exact ih1 _ _ _ _ _ _ _)
   | (with_reducible exact spec_l3Joined.mono _ _ _)
   | (with_reducible exact spec_l3List.mono _ _)
   | (with_reducible exact spec_l3Token.mono _ _)
   | (with_reducible exact LeO.refl _)
   | (with_reducible exact LeO.none _)
   | (with_reducible refine LeO.ite ?_ ?_)
   | (with_reducible refine LeO.bind ?_ (fun _ => ?_))
   | exact ih0 _ _ _ _ _
   | exact ih1 _ _ _ _ _ _ _
   | exact spec_l3Joined.mono _ _ _
   | exact spec_l3List.mono _ _
   | exact spec_l3Token.mono _ _
   | exact LeO.none _
   | refine LeO.ite ?_ ?_
   | refine LeO.bind ?_ (fun _ => ?_)
theorem spec_l9Vary.mono : ∀ a0 a1 a2 a3 k, LeO (spec_l9Vary.f k a0 a1 a2 a3) (spec_l9Vary.f (k + 1) a0 a1 a2 a3) := by
 intro a0 a1 a2 a3 k
 obtain ⟨ih0, ih1⟩ := spec_l9Vary.mono_l k
 unfold spec_l9Vary.f
 repeat' first
   | (with_reducible exact ih0 _ _ _ _ _)
   | (with_reducible exact ih1 _ _ _ _ _ _ _)
   | (with_reducible exact spec_l3Joined.mono _ _ _)
   | (with_reducible exact spec_l3List.mono _ _)
   | (with_reducible exact spec_l3Token.mono _ _)
   | (with_reducible exact LeO.refl _)
   | (with_reducible exact LeO.none _)
   | (with_reducible refine LeO.ite ?_ ?_)
   | (with_reducible refine LeO.bind ?_ (fun _ => ?_))
   | exact ih0 _ _ _ _ _
   | exact ih1 _ _ _ _ _ _ _
   | exact spec_l3Joined.mono _ _ _
   | exact spec_l3List.mono _ _
   | exact spec_l3Token.mono _ _
   | exact LeO.none _
   | refine LeO.ite ?_ ?_
   | refine LeO.bind ?_ (fun _ => ?_)
set_option maxHeartbeats 8000000 in
set_option maxRecDepth 100000 in
theorem spec_l9Vary.calls (k : Nat) (a0_0 : Int) (a0_1 : ByteArray) (A0_2 : Option Addr) (c0_2 : Nat) (l0_2 : List (S105)) (a0_3 : ByteArray) (r1 : List ByteArray) (r2 : Bool) (r3 : Bool) (w : World) (hr0_2 : Kd.C k105 w A0_2 l0_2.length l0_2) (hc0_2 : l0_2.length ≤ c0_2) (h : spec_l9Vary.f k a0_0 a0_1 l0_2 a0_3 = some (r1, r2, r3)) :
  Calls Tryz.prog 48 #[.agg #[.int .i64 a0_0, .string a0_1, .slice A0_2 l0_2.length c0_2, .string a0_3]] w fun e w' => ∃ v0_ : Value, e = .returned (.tuple #[v0_, .bool r2, .bool r3]) ∧ Kd.R Kd.string 9 w' w.heap.size (fun _ => True) v0_ r1 ∧ Below w.heap.size w w' := by
 have hu54 := Tryz.underlying54
 have HR0_2 := Aside0.mk hr0_2
 have HC0_2 := Aside0.mk hc0_2
 clear hr0_2 hc0_2
 have HB := Aside0.mk (Below.refl w.heap.size w)
 have H : ((spec_l3Joined.f k l0_2 (⟨#[118, 97, 114, 121]⟩ : ByteArray)).bind fun bt172 => ((spec_l3List.f k bt172.1).bind fun bt174 => (if bt174.2 = true then (spec_l9Vary.l0 k false ([] : List ByteArray) bt174.1 (bt174.1.length : Int) 0) else (some (([] : List ByteArray), false, false))))) = some (r1, r2, r3) := h
 clear h
 replace H := Option.bind_eq_some_iff.mp H
 obtain ⟨⟨t172, t173⟩, A20, H⟩ := H
 replace H : ((spec_l3List.f k t172).bind fun bt174 => (if bt174.2 = true then (spec_l9Vary.l0 k false ([] : List ByteArray) bt174.1 (bt174.1.length : Int) 0) else (some (([] : List ByteArray), false, false)))) = some (r1, r2, r3) := H
 have A2 := Aside0.mk A20
 clear A20
 replace H := Option.bind_eq_some_iff.mp H
 obtain ⟨⟨t174, t175⟩, A30, H⟩ := H
 replace H : (if t175 = true then (spec_l9Vary.l0 k false ([] : List ByteArray) t174 (t174.length : Int) 0) else (some (([] : List ByteArray), false, false))) = some (r1, r2, r3) := H
 have A3 := Aside0.mk A30
 clear A30
 by_cases c4 : t175 = true
 ·subst c4
  have H1 : (spec_l9Vary.l0 k false ([] : List ByteArray) t174 (t174.length : Int) 0) = some (r1, r2, r3) := by rw [if_pos rfl] at H; exact H
  clear H
  have H := H1
  clear H1
  have H' := Aside0.mk H
  clear H
  go_enter Tryz.func48, Tryz.ntmps48
  go_wp2_with (first | ((with_reducible refine gate_dst (N := 1) rfl ?_); refine xbe_ (N := 1) (cs := #[.int .i64 a0_0, .string a0_1, .slice A0_2 l0_2.length c0_2, .string a0_3]) (t := 54) ?_; intro gb171 hg w5 hbox hb; have BK171 := Aside0.mk (hbox); have GW171 := xge_ HB hg; have GE171 := xge_ HB hg; replace HB := xws_ HB hb; clear hb hbox hg; have ⟨_, _, _, _, _, _, _, _⟩ := c4_ BK171) | ((with_reducible refine gate_callee (f := 87) rfl ?_); refine xgl_ (some 18) Tryz.func87 #[.slice A0_2 l0_2.length c0_2, .string (⟨#[118, 97, 114, 121]⟩ : ByteArray)] ?_; (with_reducible refine (spec_l3Joined.calls k _ _ l0_2 (⟨#[118, 97, 114, 121]⟩ : ByteArray) t172 t173 _ ?side1 ?side2 A2.out).mono ?_); (case side1 => exact xc_ ((Kd.C_below HR0_2.out HB.out))); (case side2 => exact HC0_2.out); rintro e w7 ⟨rfl, hb⟩; refine ⟨_, rfl, ?_⟩; replace BK171 := xbb_ BK171 hb; replace HB := xws_ HB hb; (try clear hb); (try clear hb2); (try clear hk); (try clear hi)) | ((with_reducible refine gate_callee (f := 88) rfl ?_); refine xgl_ (some 23) Tryz.func88 #[.string t172] ?_; (with_reducible refine (spec_l3List.calls k t172 t174 true _ A3.out).mono ?_); rintro e w8 ⟨v176, rfl, ho0, hb⟩; refine ⟨_, rfl, ?_⟩; have HO177 := Aside0.mk (Kd.R_lower ho0 (below_size (xw_ HB))); replace BK171 := xbb_ BK171 hb; replace HB := xws_ HB hb; (try clear hb); (try clear hb2); (try clear hk); (try clear hi); (try clear ho0); obtain ⟨Ao9, co9, eo9⟩ := Kd.R_slice HO177.out; subst eo9))
  go_loopg [9, 10, 30] k (fun kq v9 v10 v30 w' => ∃ (x9_1 : Bool) (x10_1 : List ByteArray) (x30_1 : Int), v9 = .bool x9_1 ∧ v30 = .int .i64 x30_1 ∧ Aside0 (spec_l9Vary.l0 kq x9_1 x10_1 t174 (t174.length : Int) x30_1 = some (r1, r2, r3)) ∧ Aside0 (kq ≤ k) ∧ Aside0 (Kd.R Kd.string 9 w' w.heap.size (fun k_ => some k_ ≠ ((.slice Ao9 t174.length co9) : Value).ownBlock) v10 x10_1) ∧ Aside0 (Kd.R Kd.string 9 w' w.heap.size (fun k_ => some k_ ≠ (v10 : Value).ownBlock) (.slice Ao9 t174.length co9) t174) ∧ Aside0 (w'.heap[gb171]? = some (.cells #[.int .i64 a0_0, .string a0_1, (.slice A0_2 l0_2.length c0_2), .string a0_3] 54 (0, 0))) ∧ Aside0 (Below w.heap.size w w'))
  case atStart => exact ⟨(false), (([] : List ByteArray)), (0), (by first | rfl | (simp; done) | (simp [*]; done)), (by first | rfl | (simp; done) | (simp [*]; done)), H', ⟨Nat.le_refl _⟩, ⟨by first | exact Kd.R_nil _ _ _ _ _ | exact Kd.N_nil _ _ _ _ _ | exact Kd.V_nil _ _ _ _ _ | exact Kd.Q_nil _ _ _ _ _ | exact Kd.S_nil _ _ _ _ _⟩, ⟨xrt_ (Kd.R_mono HO177.out (fun _ hk => (by simp [Value.ownBlock])))⟩, ⟨xb_ BK171⟩, ⟨xw_ HB⟩⟩
  case round =>
   clear H'
   try clear p2
   try clear c4
   try clear c8
   obtain ⟨x9_1, x10_1, x30_1, rfl, rfl, HA, HK1, HO_10, HO_28, BK171, HB⟩ := hrel
   cases gk with
   | zero => exact absurd HA.out (by simp [spec_l9Vary.l0])
   | succ k1 =>
    have H := HA.out
    clear HA
    simp only [spec_l9Vary.l0] at H
    by_cases c10 : x30_1 < (t174.length : Int)
    ·rw [if_pos c10] at H
     have c10b0 : decide (x30_1 < (t174.length : Int)) = true := decide_eq_true c10
     clear c10
     by_cases c11 : 0 ≤ x30_1
     ·rw [if_pos c11] at H
      have c11b0 : decide (0 ≤ x30_1) = true := decide_eq_true c11
      clear c11
      by_cases c12 : x30_1 < (t174.length : Int)
      ·rw [if_pos c12] at H
       have c12b0 : decide (x30_1 < (t174.length : Int)) = true := decide_eq_true c12
       clear c12
       by_cases c13 : (rdOf ByteArray.empty t174 x30_1).toList = ([42] : List UInt8)
       ·rw [if_pos c13] at H
        have c13b0 : ((rdOf ByteArray.empty t174 x30_1).toList == ([42] : List UInt8)) = true := beq_iff_eq.mpr c13
        have c13b1 : ((rdOf ByteArray.empty t174 x30_1).toList != ([42] : List UInt8)) = false := bne_eq_false_iff_eq.mpr c13
        clear c13
        have H' := Aside0.mk H
        clear H
        have p178 : 0 ≤ (x30_1 : Int) := of_decide_eq_true (by first | (with_reducible assumption) | assumption)
        have q178 : x30_1 < (t174.length : Int) := of_decide_eq_true (by first | (with_reducible assumption) | assumption)
        obtain ⟨ad178, e178, hx178_0⟩ := Kd.at_string (Kd.R_reads' HO_28.out).2.2 x30_1 p178 q178
        cases e178
        replace p178 := eq_true p178
        replace q178 := eq_true q178
        go_wp2
        go_roundg k1
        case measure => have := HK1.out; omega
        case rel => exact ⟨(true), (x10_1), (wrap64 (x30_1 + 1)), (by first | rfl | (simp; done) | (simp [*]; done)), (by first | rfl | (simp; done) | (simp [*]; done)), H', ⟨by have := HK1.out; omega⟩, ⟨xr_ HO_10⟩, ⟨xr_ HO_28⟩, ⟨xb_ BK171⟩, ⟨xw_ HB⟩⟩
       ·rw [if_neg c13] at H
        have c13b0 : ((rdOf ByteArray.empty t174 x30_1).toList == ([42] : List UInt8)) = false := beq_eq_false_iff_ne.mpr c13
        have c13b1 : ((rdOf ByteArray.empty t174 x30_1).toList != ([42] : List UInt8)) = true := bne_iff_ne.mpr c13
        replace H := Option.bind_eq_some_iff.mp H
        obtain ⟨t179, A140, H⟩ := H
        replace H : (if t179 = true then ((spec_l1Lower.f (rdOf ByteArray.empty t174 x30_1)).bind fun t180 => (spec_l9Vary.l1 k1 x9_1 x10_1 t180 0 t174 (t174.length : Int) x30_1)) else (some (([] : List ByteArray), false, false))) = some (r1, r2, r3) := H
        have A14 := Aside0.mk A140
        clear A140
        by_cases c15 : t179 = true
        ·subst c15
         have H1 : ((spec_l1Lower.f (rdOf ByteArray.empty t174 x30_1)).bind fun t180 => (spec_l9Vary.l1 k1 x9_1 x10_1 t180 0 t174 (t174.length : Int) x30_1)) = some (r1, r2, r3) := by rw [if_pos rfl] at H; exact H
         clear H
         have H := H1
         clear H1
         replace H := Option.bind_eq_some_iff.mp H
         obtain ⟨t180, A160, H⟩ := H
         replace H : (spec_l9Vary.l1 k1 x9_1 x10_1 t180 0 t174 (t174.length : Int) x30_1) = some (r1, r2, r3) := H
         have A16 := Aside0.mk A160
         clear A160
         have H' := Aside0.mk H
         clear H
         have p178 : 0 ≤ (x30_1 : Int) := of_decide_eq_true (by first | (with_reducible assumption) | assumption)
         have q178 : x30_1 < (t174.length : Int) := of_decide_eq_true (by first | (with_reducible assumption) | assumption)
         obtain ⟨ad178, e178, hx178_0⟩ := Kd.at_string (Kd.R_reads' HO_28.out).2.2 x30_1 p178 q178
         cases e178
         replace p178 := eq_true p178
         replace q178 := eq_true q178
         go_wp2_with (first | ((with_reducible refine gate_callee (f := 89) rfl ?_); refine xgl_ (some 37) Tryz.func89 #[.string (rdOf ByteArray.empty t174 x30_1)] ?_; (with_reducible refine (spec_l3Token.calls k1 (rdOf ByteArray.empty t174 x30_1) true _ A14.out).mono ?_); rintro e w' ⟨rfl, ⟨nd, rfl⟩⟩; refine ⟨_, rfl, ?_⟩) | ((with_reducible refine gate_callee (f := 90) rfl ?_); refine xgl_ (some 40) Tryz.func90 #[.string (rdOf ByteArray.empty t174 x30_1)] ?_; (with_reducible refine (spec_l1Lower.calls (rdOf ByteArray.empty t174 x30_1) t180 _ A16.out).mono ?_); rintro e w17 ⟨rfl, hb⟩; refine ⟨_, rfl, ?_⟩; replace HO_10 := xrb_ HO_10 hb; replace HO_28 := xrb_ HO_28 hb; replace BK171 := xbb_ BK171 hb; replace HB := xws_ HB hb; (try clear hb); (try clear hb2); (try clear hk); (try clear hi)))
         go_loopg [13] k1 (fun kq v13 w' => ∃ (x13_2 : Int), v13 = .int .i64 x13_2 ∧ Aside0 (spec_l9Vary.l1 kq x9_1 x10_1 t180 x13_2 t174 (t174.length : Int) x30_1 = some (r1, r2, r3)) ∧ Aside0 (kq ≤ k1) ∧ Aside0 (Kd.R Kd.string 9 w' w.heap.size (fun k_ => some k_ ≠ ((.slice (some ad178) t174.length co9) : Value).ownBlock) u10 x10_1) ∧ Aside0 (Kd.R Kd.string 9 w' w.heap.size (fun k_ => some k_ ≠ (u10 : Value).ownBlock) (.slice (some ad178) t174.length co9) t174) ∧ Aside0 (w'.heap[gb171]? = some (.cells #[.int .i64 a0_0, .string a0_1, (.slice A0_2 l0_2.length c0_2), .string a0_3] 54 (0, 0))) ∧ Aside0 (Below w.heap.size w w'))
         case atStart => exact ⟨(0), (by first | rfl | (simp; done) | (simp [*]; done)), H', ⟨Nat.le_refl _⟩, ⟨xr_ HO_10⟩, ⟨xr_ HO_28⟩, ⟨xb_ BK171⟩, ⟨xw_ HB⟩⟩
         case round =>
          clear H'
          try clear c1
          try clear p1
          try clear q1
          try clear hx1
          try clear p2
          try clear c4
          try clear p6
          try clear c8
          try clear c9
          try clear c10
          try clear c10b0
          try clear c11
          try clear c11b0
          try clear c12
          try clear c12b0
          try clear c13
          try clear c13b0
          try clear c13b1
          try clear c15
          try clear p17
          try clear q17
          try clear hx17
          try clear hx178_0
          try clear p178
          try clear p2
          try clear q178
          obtain ⟨x13_2, rfl, HA, HK2, HO_10, HO_28, BK171, HB⟩ := hrel
          cases gk with
          | zero => exact absurd HA.out (by simp [spec_l9Vary.l1])
          | succ k2 =>
           have H := HA.out
           clear HA
           simp only [spec_l9Vary.l1] at H
           by_cases c18 : x13_2 < (x10_1.length : Int)
           ·rw [if_pos c18] at H
            have c18b0 : decide (x13_2 < (x10_1.length : Int)) = true := decide_eq_true c18
            clear c18
            by_cases c19 : 0 ≤ x13_2
            ·rw [if_pos c19] at H
             have c19b0 : decide (0 ≤ x13_2) = true := decide_eq_true c19
             clear c19
             by_cases c20 : (Op.bytesLess ((rdOf ByteArray.empty x10_1 x13_2).toList) t180.toList) = true
             ·rw [if_pos c20] at H
              have c20b0 : (Op.bytesLess ((rdOf ByteArray.empty x10_1 x13_2).toList) t180.toList) = true := c20
              clear c20
              have H' := Aside0.mk H
              clear H
              obtain ⟨Ao21, co21, eo21⟩ := Kd.R_slice HO_10.out
              subst eo21
              have p181 : 0 ≤ (x13_2 : Int) := of_decide_eq_true (by first | (with_reducible assumption) | assumption)
              have q181 : x13_2 < (x10_1.length : Int) := of_decide_eq_true (by first | (with_reducible assumption) | assumption)
              obtain ⟨ad181, e181, hx181_0⟩ := Kd.at_string (Kd.R_reads' HO_10.out).2.2 x13_2 p181 q181
              cases e181
              replace p181 := eq_true p181
              replace q181 := eq_true q181
              go_wp2
              go_roundg k2
              case measure => have := HK1.out; have := HK2.out; omega
              case rel => exact ⟨(wrap64 (x13_2 + 1)), (by first | rfl | (simp; done) | (simp [*]; done)), H', ⟨by have := HK1.out; have := HK2.out; omega⟩, ⟨xr_ HO_10⟩, ⟨xr_ HO_28⟩, ⟨xb_ BK171⟩, ⟨xw_ HB⟩⟩
             ·rw [if_neg c20] at H
              have c20b0 : (Op.bytesLess ((rdOf ByteArray.empty x10_1 x13_2).toList) t180.toList) = false := by simpa using c20
              clear c20
              by_cases c22 : (rdOf ByteArray.empty x10_1 x13_2).toList = t180.toList
              ·rw [if_pos c22] at H
               have c22b0 : ((rdOf ByteArray.empty x10_1 x13_2).toList == t180.toList) = true := beq_iff_eq.mpr c22
               have c22b1 : ((rdOf ByteArray.empty x10_1 x13_2).toList != t180.toList) = false := bne_eq_false_iff_eq.mpr c22
               clear c22
               have H' := Aside0.mk H
               clear H
               obtain ⟨Ao23, co23, eo23⟩ := Kd.R_slice HO_10.out
               subst eo23
               have p181 : 0 ≤ (x13_2 : Int) := of_decide_eq_true (by first | (with_reducible assumption) | assumption)
               have q181 : x13_2 < (x10_1.length : Int) := of_decide_eq_true (by first | (with_reducible assumption) | assumption)
               obtain ⟨ad181, e181, hx181_0⟩ := Kd.at_string (Kd.R_reads' HO_10.out).2.2 x13_2 p181 q181
               cases e181
               replace p181 := eq_true p181
               replace q181 := eq_true q181
               have p182 : 0 ≤ (x13_2 : Int) := of_decide_eq_true (by first | (with_reducible assumption) | assumption)
               have q182 : x13_2 < (x10_1.length : Int) := of_decide_eq_true (by first | (with_reducible assumption) | assumption)
               obtain ⟨ad182, e182, hx182_0⟩ := Kd.at_string (Kd.R_reads' HO_10.out).2.2 x13_2 p182 q182
               obtain rfl : ad181 = ad182 := (by injection e182)
               replace p182 := eq_true p182
               replace q182 := eq_true q182
               go_wp2
               go_roundg k2
               case measure => have := HK1.out; have := HK2.out; omega
               case rel => exact ⟨(x9_1), (x10_1), (wrap64 (x30_1 + 1)), (by first | rfl | (simp; done) | (simp [*]; done)), (by first | rfl | (simp; done) | (simp [*]; done)), H', ⟨by have := HK1.out; have := HK2.out; omega⟩, ⟨xr_ HO_10⟩, ⟨xr_ HO_28⟩, ⟨xb_ BK171⟩, ⟨xw_ HB⟩⟩
              ·rw [if_neg c22] at H
               have c22b0 : ((rdOf ByteArray.empty x10_1 x13_2).toList == t180.toList) = false := beq_eq_false_iff_ne.mpr c22
               have c22b1 : ((rdOf ByteArray.empty x10_1 x13_2).toList != t180.toList) = true := bne_iff_ne.mpr c22
               have c24b0 := eq_true (of_decide_eq_true (by first | (with_reducible assumption) | assumption) : 0 ≤ x13_2)
               by_cases c25 : x13_2 ≤ (x10_1.length : Int)
               ·rw [if_pos c25] at H
                have c25b0 := eq_true c25
                have c25b1 : decide (x13_2 ≤ (x10_1.length : Int)) = true := decide_eq_true c25
                clear c25
                obtain ⟨y183, hy183⟩ : ∃ y_ : List ByteArray, y_ = (x10_1.take (x13_2 : Int).toNat) := ⟨_, rfl⟩
                replace H : (if ([] : List ByteArray).length + y183.length < 8796093022208 then ((some (([] : List ByteArray) ++ y183 : List ByteArray)).bind fun y187 => (if y187.length < 8796093022208 then ((some (y187 ++ [t180] : List ByteArray)).bind fun y190 => ((some (x10_1.drop (x13_2 : Int).toNat : List ByteArray)).bind fun y193 => (if y190.length + y193.length < 8796093022208 then (spec_l9Vary.l0 k2 x9_1 (y190 ++ y193) t174 (t174.length : Int) (wrap64 (x30_1 + 1))) else (none)))) else (none))) else (none)) = some (r1, r2, r3) := by first | (rw [hy183]; with_reducible exact H) | (have H2_ := (Option.bind_some _ _).symm.trans H; rw [hy183]; with_reducible exact H2_) | (have H2_ := (Option.bind_some _ _).symm.trans H; with_reducible exact H2_) | with_reducible exact H | (rw [hy183]; exact H) | exact H
                have Ny183 := Aside0.mk hy183
                clear hy183
                by_cases c26 : ([] : List ByteArray).length + y183.length < 8796093022208
                ·rw [if_pos c26] at H
                 have LMc26 := Aside0.mk c26
                 clear c26
                 obtain ⟨y187, hy187⟩ : ∃ y_ : List ByteArray, y_ = (([] : List ByteArray) ++ y183) := ⟨_, rfl⟩
                 replace H : (if y187.length < 8796093022208 then ((some (y187 ++ [t180] : List ByteArray)).bind fun y190 => ((some (x10_1.drop (x13_2 : Int).toNat : List ByteArray)).bind fun y193 => (if y190.length + y193.length < 8796093022208 then (spec_l9Vary.l0 k2 x9_1 (y190 ++ y193) t174 (t174.length : Int) (wrap64 (x30_1 + 1))) else (none)))) else (none)) = some (r1, r2, r3) := by first | (rw [hy187]; with_reducible exact H) | (have H2_ := (Option.bind_some _ _).symm.trans H; rw [hy187]; with_reducible exact H2_) | (have H2_ := (Option.bind_some _ _).symm.trans H; with_reducible exact H2_) | with_reducible exact H | (rw [hy187]; exact H) | exact H
                 have Ny187 := Aside0.mk hy187
                 clear hy187
                 by_cases c27 : y187.length < 8796093022208
                 ·rw [if_pos c27] at H
                  have LMc27 := Aside0.mk c27
                  clear c27
                  obtain ⟨y190, hy190⟩ : ∃ y_ : List ByteArray, y_ = (y187 ++ [t180]) := ⟨_, rfl⟩
                  replace H : ((some (x10_1.drop (x13_2 : Int).toNat : List ByteArray)).bind fun y193 => (if y190.length + y193.length < 8796093022208 then (spec_l9Vary.l0 k2 x9_1 (y190 ++ y193) t174 (t174.length : Int) (wrap64 (x30_1 + 1))) else (none))) = some (r1, r2, r3) := by first | (rw [hy190]; with_reducible exact H) | (have H2_ := (Option.bind_some _ _).symm.trans H; rw [hy190]; with_reducible exact H2_) | (have H2_ := (Option.bind_some _ _).symm.trans H; with_reducible exact H2_) | with_reducible exact H | (rw [hy190]; exact H) | exact H
                  have Ny190 := Aside0.mk hy190
                  clear hy190
                  have c28b0 := eq_true (of_decide_eq_true (by first | (with_reducible assumption) | assumption) : 0 ≤ x13_2)
                  have c29b0 := eq_true (of_decide_eq_true (by first | (with_reducible assumption) | assumption) : x13_2 ≤ (x10_1.length : Int))
                  obtain ⟨y193, hy193⟩ : ∃ y_ : List ByteArray, y_ = (x10_1.drop (x13_2 : Int).toNat) := ⟨_, rfl⟩
                  replace H : (if y190.length + y193.length < 8796093022208 then (spec_l9Vary.l0 k2 x9_1 (y190 ++ y193) t174 (t174.length : Int) (wrap64 (x30_1 + 1))) else (none)) = some (r1, r2, r3) := by first | (rw [hy193]; with_reducible exact H) | (have H2_ := (Option.bind_some _ _).symm.trans H; rw [hy193]; with_reducible exact H2_) | (have H2_ := (Option.bind_some _ _).symm.trans H; with_reducible exact H2_) | with_reducible exact H | (rw [hy193]; exact H) | exact H
                  have Ny193 := Aside0.mk hy193
                  clear hy193
                  by_cases c30 : y190.length + y193.length < 8796093022208
                  ·rw [if_pos c30] at H
                   have LMc30 := Aside0.mk c30
                   clear c30
                   obtain ⟨y197, hy197⟩ : ∃ y_ : List ByteArray, y_ = (y190 ++ y193) := ⟨_, rfl⟩
                   replace H : (spec_l9Vary.l0 k2 x9_1 y197 t174 (t174.length : Int) (wrap64 (x30_1 + 1))) = some (r1, r2, r3) := by first | (rw [hy197]; with_reducible exact H) | (have H2_ := (Option.bind_some _ _).symm.trans H; rw [hy197]; with_reducible exact H2_) | (have H2_ := (Option.bind_some _ _).symm.trans H; with_reducible exact H2_) | with_reducible exact H | (rw [hy197]; exact H) | exact H
                   have Ny197 := Aside0.mk hy197
                   clear hy197
                   have H' := Aside0.mk H
                   clear H
                   obtain ⟨Ao31, co31, eo31⟩ := Kd.R_slice HO_10.out
                   subst eo31
                   have p181 : 0 ≤ (x13_2 : Int) := of_decide_eq_true (by first | (with_reducible assumption) | assumption)
                   have q181 : x13_2 < (x10_1.length : Int) := of_decide_eq_true (by first | (with_reducible assumption) | assumption)
                   obtain ⟨ad181, e181, hx181_0⟩ := Kd.at_string (Kd.R_reads' HO_10.out).2.2 x13_2 p181 q181
                   cases e181
                   replace p181 := eq_true p181
                   replace q181 := eq_true q181
                   have p182 : 0 ≤ (x13_2 : Int) := of_decide_eq_true (by first | (with_reducible assumption) | assumption)
                   have q182 : x13_2 < (x10_1.length : Int) := of_decide_eq_true (by first | (with_reducible assumption) | assumption)
                   obtain ⟨ad182, e182, hx182_0⟩ := Kd.at_string (Kd.R_reads' HO_10.out).2.2 x13_2 p182 q182
                   obtain rfl : ad181 = ad182 := (by injection e182)
                   replace p182 := eq_true p182
                   replace q182 := eq_true q182
                   have q32 : (x13_2 : Int) ≤ ((x10_1.length : Int) : Int) := of_decide_eq_true (by first | (with_reducible assumption) | assumption)
                   obtain ⟨i032, hi032, _, hsz32, _⟩ := info_parts info9
                   have hroom32 : x10_1.length ≤ co31 := (Kd.R_reads' HO_10.out).2.1
                   have hC32 : Kd.C Kd.string _ (some ad181) x10_1.length x10_1 := (Kd.R_reads' HO_10.out).2.2
                   have hcut32 := cut_to (P := Tryz.prog) 50 9 .i64 Tryz.underlying50 hi032 (some ad181) x10_1.length co31 x13_2 (of_decide_eq_true (by first | (with_reducible assumption) | assumption)) q32 hroom32
                   have hr32 := Kd.C_take (m := (x13_2 : Int).toNat) hC32 (by omega)
                   have hy32 : y183.length = (x13_2 : Int).toNat := (by rw [Ny183.out, List.length_take]; omega)
                   rw [← Ny183.out] at hr32
                   rw [← hy32] at hcut32
                   have HR186 := Aside0.mk hr32
                   have HC186 := Aside0.mk (show y183.length ≤ co31 from by omega)
                   clear hr32 hC32 hroom32 hi032 hsz32
                   have KY32 := Aside0.mk hy32
                   clear hy32
                   have KL32 := Aside0.mk (show (x13_2 : Int).toNat ≤ x10_1.length from by omega)
                   replace q32 := eq_true q32
                   go_wp2_with (first | ((with_reducible refine gate_builtin (b := .append) (xs := #[.tmp 67, .tmp 70]) rfl ?_); at_builtin; refine Kd.R_append_rows Kd.string (w0 := w) w.heap.size rfl (.tmp 67) (.tmp 70) 50 9 (.string ⟨#[]⟩) 16 rfl Tryz.underlying50 info9 rfl (by decide) (by omega) (.slice none 0 0) ([] : List ByteArray) y183 _ _ _ (fun k_ => some k_ ≠ (.slice (some ad181) x10_1.length co31 : Value).ownBlock ∧ some k_ ≠ (.slice (some ad178) t174.length co9 : Value).ownBlock) (fun _ => False) rfl rfl ?aO ?aR (fun _ _ h => h) (fun _ h => h.elim) ?aF ?aB ?aS ?aL ?_; (case aR => repeat (first | exact (by repeat (first | (with_reducible exact HR186.out) | (with_reducible refine Kd.C_alloc ?_ _) | (with_reducible refine Kd.C_drewN ?_ _) | (with_reducible refine Kd.C_drew ?_) | exact HR186.out)) | (with_reducible refine Kd.C_alloc ?_ _) | (with_reducible refine Kd.C_drewN ?_ _) | (with_reducible refine Kd.C_drew ?_))); (case aB => exact (xw_ HB)); (case aF => exact (fun k_ hk => ⟨Kd.fresh' (Kd.R_lt (xr_ HO_10)) k_ hk, Kd.fresh' (Kd.R_lt (xr_ HO_28)) k_ hk⟩)); (case aO => exact ((Kd.R_nil _ _ _ _ (fun k_ => some k_ ≠ (.slice (some ad181) x10_1.length co31 : Value).ownBlock ∧ some k_ ≠ (.slice (some ad178) t174.length co9 : Value).ownBlock)))); (case aS => exact (below_size (xw_ HB))); (case aL => have := LMc26.out; omega); intro v188 w33 ho hb hg hat; rw [← Ny187.out] at ho; replace HO_28 := Aside0.mk (Kd.R_after (Kd.R_apart_nil (xr_ HO_28)) hg hat); replace BK171 := Aside0.mk (blk_grown (g := gb171) (o := .cells #[.int .i64 a0_0, .string a0_1, .slice A0_2 l0_2.length c0_2, .string a0_3] 54 (0, 0)) (xb_ BK171) hg (by simp [Value.ownBlock])); replace HB := Aside0.mk (hb); replace HR186 := Aside0.mk ((show Kd.C Kd.string w33 (some ad181) y183.length y183 from by rw [Ny183.out]; exact Kd.C_take (m := (x13_2 : Int).toNat) ((Kd.R_reads' (Kd.R_after (Kd.R_apart_nil (xr_ HO_10)) hg hat)).2.2) KL32.out)); replace HO_10 := Aside0.mk (Kd.R_after (Kd.R_apart_nil (xr_ HO_10)) hg hat); have HO189 := Aside0.mk (ho); clear ho hb hg hat) | ((with_reducible refine gate_builtin (b := .append) (xs := #[.tmp 72, .tmp 74]) rfl ?_); at_builtin; refine Kd.R_append Kd.string (w0 := w) w.heap.size rfl (.tmp 72) (.tmp 74) 50 9 (.string ⟨#[]⟩) 16 rfl Tryz.underlying50 info9 rfl (by decide) (by omega) v188 y187 t180 [.string t180] (fun k_ => some k_ ≠ (.slice (some ad181) x10_1.length co31 : Value).ownBlock ∧ some k_ ≠ (.slice (some ad178) t174.length co9 : Value).ownBlock) (fun _ => False) rfl rfl ?aP (fun _ hk => hk.elim) ?aF ?aO ?aB ?aS ?aL ?_; (case aP => exact rfl); (case aB => exact (xw_ HB)); (case aF => exact (fun k_ hk => ⟨Kd.fresh' (Kd.R_lt (xr_ HO_10)) k_ hk, Kd.fresh' (Kd.R_lt (xr_ HO_28)) k_ hk⟩)); (case aO => exact (xr_ HO189)); (case aS => exact (below_size (xw_ HB))); (case aL => have := LMc27.out; omega); intro v191 w34 ho hb hg hat; rw [← Ny190.out] at ho; replace HO_28 := Aside0.mk (Kd.R_after (ok := (fun k_ => some k_ ≠ (.slice (some ad181) x10_1.length co31 : Value).ownBlock)) (xr_ HO_28) hg hat); replace BK171 := Aside0.mk (blk_grown (g := gb171) (o := .cells #[.int .i64 a0_0, .string a0_1, .slice A0_2 l0_2.length c0_2, .string a0_3] 54 (0, 0)) (xb_ BK171) hg (Kd.R_ne HO189.out BK171.out (by decide))); replace HB := Aside0.mk (hb); replace HR186 := Aside0.mk ((show Kd.C Kd.string w34 (some ad181) y183.length y183 from by rw [Ny183.out]; exact Kd.C_take (m := (x13_2 : Int).toNat) ((Kd.R_reads' (Kd.R_after (ok := (fun k_ => some k_ ≠ (.slice (some ad178) t174.length co9 : Value).ownBlock)) (xr_ HO_10) hg hat)).2.2) KL32.out)); replace HO_10 := Aside0.mk (Kd.R_after (ok := (fun k_ => some k_ ≠ (.slice (some ad178) t174.length co9 : Value).ownBlock)) (xr_ HO_10) hg hat); have HO192 := Aside0.mk (ho); clear HO189; clear ho hb hg hat; have q35 : (x13_2 : Int) ≤ ((x10_1.length : Int) : Int) := of_decide_eq_true (by first | (with_reducible assumption) | assumption); obtain ⟨i035, hi035, _, hsz35, _⟩ := info_parts info9; have hroom35 : x10_1.length ≤ co31 := (Kd.R_reads' HO_10.out).2.1; have hC35 : Kd.C Kd.string _ (some ad181) x10_1.length x10_1 := (Kd.R_reads' HO_10.out).2.2; have q035 : (0 : Int) ≤ (x13_2 : Int) := of_decide_eq_true (by first | (with_reducible assumption) | assumption); have hcut35 := cut_from (P := Tryz.prog) 50 9 .i64 Tryz.underlying50 hi035 1 hsz35 (some ad181) x10_1.length co31 x13_2 q035 q35; have hr35 := Kd.C_drop (m := (x13_2 : Int).toNat) (c := co31) hC35 (by omega) hroom35; obtain ⟨A35, hA35⟩ : ∃ A1, A1 = (if co31 = (x13_2 : Int).toNat then (some ad181) else ((some ad181) : Option Addr).map (·.add ((x13_2 : Int).toNat * 1))) := ⟨_, rfl⟩; obtain ⟨c35, hc35⟩ : ∃ c1, c1 = co31 - (x13_2 : Int).toNat := ⟨_, rfl⟩; have hy35 : y193.length = x10_1.length - (x13_2 : Int).toNat := (by rw [Ny193.out, List.length_drop] <;> omega); rw [show (x10_1).drop (x13_2 : Int).toNat = y193 from Ny193.out.symm] at hr35; replace hr35 : Kd.C Kd.string _ A35 y193.length y193 := (by rw [hA35]; exact hr35); rw [← hy35, ← hA35, ← hc35] at hcut35; have HR196 := Aside0.mk hr35; have HC196 := Aside0.mk (show y193.length ≤ c35 from by rw [hy35, hc35]; exact Nat.sub_le_sub_right hroom35 _); clear hr35 hC35 hroom35 hi035 hsz35 hc35; have KY35 := Aside0.mk hy35; have KA35 := Aside0.mk hA35; clear hy35 hA35; have KL35 := Aside0.mk (show (x13_2 : Int).toNat ≤ x10_1.length from by omega); replace q35 := eq_true q35) | ((with_reducible refine gate_builtin (b := .append) (xs := #[.tmp 76, .tmp 79]) rfl ?_); at_builtin; refine Kd.R_append_rows Kd.string (w0 := w) w.heap.size rfl (.tmp 76) (.tmp 79) 50 9 (.string ⟨#[]⟩) 16 rfl Tryz.underlying50 info9 rfl (by decide) (by omega) v191 y190 y193 _ _ _ (fun k_ => some k_ ≠ (.slice (some ad181) x10_1.length co31 : Value).ownBlock ∧ some k_ ≠ (.slice (some ad178) t174.length co9 : Value).ownBlock) (fun _ => False) rfl rfl ?aO ?aR (fun _ _ h => h) (fun _ h => h.elim) ?aF ?aB ?aS ?aL ?_; (case aR => repeat (first | exact (by repeat (first | (with_reducible exact HR196.out) | (with_reducible refine Kd.C_alloc ?_ _) | (with_reducible refine Kd.C_drewN ?_ _) | (with_reducible refine Kd.C_drew ?_) | exact HR196.out)) | (with_reducible refine Kd.C_alloc ?_ _) | (with_reducible refine Kd.C_drewN ?_ _) | (with_reducible refine Kd.C_drew ?_))); (case aB => exact (xw_ HB)); (case aF => exact (fun k_ hk => ⟨Kd.fresh' (Kd.R_lt (xr_ HO_10)) k_ hk, Kd.fresh' (Kd.R_lt (xr_ HO_28)) k_ hk⟩)); (case aO => exact (xr_ HO192)); (case aS => exact (below_size (xw_ HB))); (case aL => have := LMc30.out; omega); intro v198 w36 ho hb hg hat; rw [← Ny197.out] at ho; replace HO_28 := Aside0.mk (Kd.R_after (ok := (fun k_ => some k_ ≠ (.slice (some ad181) x10_1.length co31 : Value).ownBlock)) (xr_ HO_28) hg hat); replace BK171 := Aside0.mk (blk_grown (g := gb171) (o := .cells #[.int .i64 a0_0, .string a0_1, .slice A0_2 l0_2.length c0_2, .string a0_3] 54 (0, 0)) (xb_ BK171) hg (Kd.R_ne HO192.out BK171.out (by decide))); replace HB := Aside0.mk (hb); replace HR186 := Aside0.mk ((show Kd.C Kd.string w36 (some ad181) y183.length y183 from by rw [Ny183.out]; exact Kd.C_take (m := (x13_2 : Int).toNat) ((Kd.R_reads' (Kd.R_after (ok := (fun k_ => some k_ ≠ (.slice (some ad178) t174.length co9 : Value).ownBlock)) (xr_ HO_10) hg hat)).2.2) KL32.out)); replace HR196 := Aside0.mk ((show Kd.C Kd.string w36 A35 y193.length y193 from by rw [Ny193.out, KA35.out]; exact Kd.C_drop (m := (x13_2 : Int).toNat) (c := co31) ((Kd.R_reads' (Kd.R_after (ok := (fun k_ => some k_ ≠ (.slice (some ad178) t174.length co9 : Value).ownBlock)) (xr_ HO_10) hg hat)).2.2) KL35.out ((Kd.R_reads' (Kd.R_after (ok := (fun k_ => some k_ ≠ (.slice (some ad178) t174.length co9 : Value).ownBlock)) (xr_ HO_10) hg hat)).2.1))); replace HO_10 := Aside0.mk (Kd.R_after (ok := (fun k_ => some k_ ≠ (.slice (some ad178) t174.length co9 : Value).ownBlock)) (xr_ HO_10) hg hat); have HO199 := Aside0.mk (ho); clear HO192; clear ho hb hg hat))
                   go_roundg k2
                   case measure => have := HK1.out; have := HK2.out; omega
                   case rel => exact ⟨(x9_1), (y197), (wrap64 (x30_1 + 1)), (by first | rfl | (simp; done) | (simp [*]; done)), (by first | rfl | (simp; done) | (simp [*]; done)), H', ⟨by have := HK1.out; have := HK2.out; omega⟩, ⟨xrt_ (Kd.R_mono HO199.out (fun _ hk => hk.2))⟩, ⟨xrt_ (Kd.R_mono HO_28.out (fun _ hk => hk.2))⟩, ⟨xb_ BK171⟩, ⟨xw_ HB⟩⟩
                  ·rw [if_neg c30] at H
                   exact absurd H (by simp)
                 ·rw [if_neg c27] at H
                  exact absurd H (by simp)
                ·rw [if_neg c26] at H
                 exact absurd H (by simp)
               ·rw [if_neg c25] at H
                exact absurd H (by simp)
            ·rw [if_neg c19] at H
             exact absurd H (by simp)
           ·rw [if_neg c18] at H
            have c18b0 : decide (x13_2 < (x10_1.length : Int)) = false := decide_eq_false c18
            clear c18
            by_cases c37 : 0 ≤ x13_2
            ·rw [if_pos c37] at H
             have c37b0 := eq_true c37
             have c37b1 : decide (0 ≤ x13_2) = true := decide_eq_true c37
             clear c37
             by_cases c38 : x13_2 ≤ (x10_1.length : Int)
             ·rw [if_pos c38] at H
              have c38b0 := eq_true c38
              have c38b1 : decide (x13_2 ≤ (x10_1.length : Int)) = true := decide_eq_true c38
              clear c38
              obtain ⟨y200, hy200⟩ : ∃ y_ : List ByteArray, y_ = (x10_1.take (x13_2 : Int).toNat) := ⟨_, rfl⟩
              replace H : (if ([] : List ByteArray).length + y200.length < 8796093022208 then ((some (([] : List ByteArray) ++ y200 : List ByteArray)).bind fun y204 => (if y204.length < 8796093022208 then ((some (y204 ++ [t180] : List ByteArray)).bind fun y207 => ((some (x10_1.drop (x13_2 : Int).toNat : List ByteArray)).bind fun y210 => (if y207.length + y210.length < 8796093022208 then (spec_l9Vary.l0 k2 x9_1 (y207 ++ y210) t174 (t174.length : Int) (wrap64 (x30_1 + 1))) else (none)))) else (none))) else (none)) = some (r1, r2, r3) := by first | (rw [hy200]; with_reducible exact H) | (have H2_ := (Option.bind_some _ _).symm.trans H; rw [hy200]; with_reducible exact H2_) | (have H2_ := (Option.bind_some _ _).symm.trans H; with_reducible exact H2_) | with_reducible exact H | (rw [hy200]; exact H) | exact H
              have Ny200 := Aside0.mk hy200
              clear hy200
              by_cases c39 : ([] : List ByteArray).length + y200.length < 8796093022208
              ·rw [if_pos c39] at H
               have LMc39 := Aside0.mk c39
               clear c39
               obtain ⟨y204, hy204⟩ : ∃ y_ : List ByteArray, y_ = (([] : List ByteArray) ++ y200) := ⟨_, rfl⟩
               replace H : (if y204.length < 8796093022208 then ((some (y204 ++ [t180] : List ByteArray)).bind fun y207 => ((some (x10_1.drop (x13_2 : Int).toNat : List ByteArray)).bind fun y210 => (if y207.length + y210.length < 8796093022208 then (spec_l9Vary.l0 k2 x9_1 (y207 ++ y210) t174 (t174.length : Int) (wrap64 (x30_1 + 1))) else (none)))) else (none)) = some (r1, r2, r3) := by first | (rw [hy204]; with_reducible exact H) | (have H2_ := (Option.bind_some _ _).symm.trans H; rw [hy204]; with_reducible exact H2_) | (have H2_ := (Option.bind_some _ _).symm.trans H; with_reducible exact H2_) | with_reducible exact H | (rw [hy204]; exact H) | exact H
               have Ny204 := Aside0.mk hy204
               clear hy204
               by_cases c40 : y204.length < 8796093022208
               ·rw [if_pos c40] at H
                have LMc40 := Aside0.mk c40
                clear c40
                obtain ⟨y207, hy207⟩ : ∃ y_ : List ByteArray, y_ = (y204 ++ [t180]) := ⟨_, rfl⟩
                replace H : ((some (x10_1.drop (x13_2 : Int).toNat : List ByteArray)).bind fun y210 => (if y207.length + y210.length < 8796093022208 then (spec_l9Vary.l0 k2 x9_1 (y207 ++ y210) t174 (t174.length : Int) (wrap64 (x30_1 + 1))) else (none))) = some (r1, r2, r3) := by first | (rw [hy207]; with_reducible exact H) | (have H2_ := (Option.bind_some _ _).symm.trans H; rw [hy207]; with_reducible exact H2_) | (have H2_ := (Option.bind_some _ _).symm.trans H; with_reducible exact H2_) | with_reducible exact H | (rw [hy207]; exact H) | exact H
                have Ny207 := Aside0.mk hy207
                clear hy207
                have c41b0 := eq_true (of_decide_eq_true (by first | (with_reducible assumption) | assumption) : 0 ≤ x13_2)
                have c42b0 := eq_true (of_decide_eq_true (by first | (with_reducible assumption) | assumption) : x13_2 ≤ (x10_1.length : Int))
                obtain ⟨y210, hy210⟩ : ∃ y_ : List ByteArray, y_ = (x10_1.drop (x13_2 : Int).toNat) := ⟨_, rfl⟩
                replace H : (if y207.length + y210.length < 8796093022208 then (spec_l9Vary.l0 k2 x9_1 (y207 ++ y210) t174 (t174.length : Int) (wrap64 (x30_1 + 1))) else (none)) = some (r1, r2, r3) := by first | (rw [hy210]; with_reducible exact H) | (have H2_ := (Option.bind_some _ _).symm.trans H; rw [hy210]; with_reducible exact H2_) | (have H2_ := (Option.bind_some _ _).symm.trans H; with_reducible exact H2_) | with_reducible exact H | (rw [hy210]; exact H) | exact H
                have Ny210 := Aside0.mk hy210
                clear hy210
                by_cases c43 : y207.length + y210.length < 8796093022208
                ·rw [if_pos c43] at H
                 have LMc43 := Aside0.mk c43
                 clear c43
                 obtain ⟨y214, hy214⟩ : ∃ y_ : List ByteArray, y_ = (y207 ++ y210) := ⟨_, rfl⟩
                 replace H : (spec_l9Vary.l0 k2 x9_1 y214 t174 (t174.length : Int) (wrap64 (x30_1 + 1))) = some (r1, r2, r3) := by first | (rw [hy214]; with_reducible exact H) | (have H2_ := (Option.bind_some _ _).symm.trans H; rw [hy214]; with_reducible exact H2_) | (have H2_ := (Option.bind_some _ _).symm.trans H; with_reducible exact H2_) | with_reducible exact H | (rw [hy214]; exact H) | exact H
                 have Ny214 := Aside0.mk hy214
                 clear hy214
                 have H' := Aside0.mk H
                 clear H
                 obtain ⟨Ao44, co44, eo44⟩ := Kd.R_slice HO_10.out
                 subst eo44
                 have q45 : (x13_2 : Int) ≤ ((x10_1.length : Int) : Int) := of_decide_eq_true (by first | (with_reducible assumption) | assumption)
                 obtain ⟨i045, hi045, _, hsz45, _⟩ := info_parts info9
                 have hroom45 : x10_1.length ≤ co44 := (Kd.R_reads' HO_10.out).2.1
                 have hC45 : Kd.C Kd.string _ Ao44 x10_1.length x10_1 := (Kd.R_reads' HO_10.out).2.2
                 have hcut45 := cut_to (P := Tryz.prog) 50 9 .i64 Tryz.underlying50 hi045 Ao44 x10_1.length co44 x13_2 (of_decide_eq_true (by first | (with_reducible assumption) | assumption)) q45 hroom45
                 have hr45 := Kd.C_take (m := (x13_2 : Int).toNat) hC45 (by omega)
                 have hy45 : y200.length = (x13_2 : Int).toNat := (by rw [Ny200.out, List.length_take]; omega)
                 rw [← Ny200.out] at hr45
                 rw [← hy45] at hcut45
                 have HR203 := Aside0.mk hr45
                 have HC203 := Aside0.mk (show y200.length ≤ co44 from by omega)
                 clear hr45 hC45 hroom45 hi045 hsz45
                 have KY45 := Aside0.mk hy45
                 clear hy45
                 have KL45 := Aside0.mk (show (x13_2 : Int).toNat ≤ x10_1.length from by omega)
                 replace q45 := eq_true q45
                 go_wp2_with (first | ((with_reducible refine gate_builtin (b := .append) (xs := #[.tmp 67, .tmp 70]) rfl ?_); at_builtin; refine Kd.R_append_rows Kd.string (w0 := w) w.heap.size rfl (.tmp 67) (.tmp 70) 50 9 (.string ⟨#[]⟩) 16 rfl Tryz.underlying50 info9 rfl (by decide) (by omega) (.slice none 0 0) ([] : List ByteArray) y200 _ _ _ (fun k_ => some k_ ≠ (.slice Ao44 x10_1.length co44 : Value).ownBlock ∧ some k_ ≠ (.slice (some ad178) t174.length co9 : Value).ownBlock) (fun _ => False) rfl rfl ?aO ?aR (fun _ _ h => h) (fun _ h => h.elim) ?aF ?aB ?aS ?aL ?_; (case aR => repeat (first | exact (by repeat (first | (with_reducible exact HR203.out) | (with_reducible refine Kd.C_alloc ?_ _) | (with_reducible refine Kd.C_drewN ?_ _) | (with_reducible refine Kd.C_drew ?_) | exact HR203.out)) | (with_reducible refine Kd.C_alloc ?_ _) | (with_reducible refine Kd.C_drewN ?_ _) | (with_reducible refine Kd.C_drew ?_))); (case aB => exact (xw_ HB)); (case aF => exact (fun k_ hk => ⟨Kd.fresh' (Kd.R_lt (xr_ HO_10)) k_ hk, Kd.fresh' (Kd.R_lt (xr_ HO_28)) k_ hk⟩)); (case aO => exact ((Kd.R_nil _ _ _ _ (fun k_ => some k_ ≠ (.slice Ao44 x10_1.length co44 : Value).ownBlock ∧ some k_ ≠ (.slice (some ad178) t174.length co9 : Value).ownBlock)))); (case aS => exact (below_size (xw_ HB))); (case aL => have := LMc39.out; omega); intro v205 w46 ho hb hg hat; rw [← Ny204.out] at ho; replace HO_28 := Aside0.mk (Kd.R_after (Kd.R_apart_nil (xr_ HO_28)) hg hat); replace BK171 := Aside0.mk (blk_grown (g := gb171) (o := .cells #[.int .i64 a0_0, .string a0_1, .slice A0_2 l0_2.length c0_2, .string a0_3] 54 (0, 0)) (xb_ BK171) hg (by simp [Value.ownBlock])); replace HB := Aside0.mk (hb); replace HR203 := Aside0.mk ((show Kd.C Kd.string w46 Ao44 y200.length y200 from by rw [Ny200.out]; exact Kd.C_take (m := (x13_2 : Int).toNat) ((Kd.R_reads' (Kd.R_after (Kd.R_apart_nil (xr_ HO_10)) hg hat)).2.2) KL45.out)); replace HO_10 := Aside0.mk (Kd.R_after (Kd.R_apart_nil (xr_ HO_10)) hg hat); have HO206 := Aside0.mk (ho); clear ho hb hg hat) | ((with_reducible refine gate_builtin (b := .append) (xs := #[.tmp 72, .tmp 74]) rfl ?_); at_builtin; refine Kd.R_append Kd.string (w0 := w) w.heap.size rfl (.tmp 72) (.tmp 74) 50 9 (.string ⟨#[]⟩) 16 rfl Tryz.underlying50 info9 rfl (by decide) (by omega) v205 y204 t180 [.string t180] (fun k_ => some k_ ≠ (.slice Ao44 x10_1.length co44 : Value).ownBlock ∧ some k_ ≠ (.slice (some ad178) t174.length co9 : Value).ownBlock) (fun _ => False) rfl rfl ?aP (fun _ hk => hk.elim) ?aF ?aO ?aB ?aS ?aL ?_; (case aP => exact rfl); (case aB => exact (xw_ HB)); (case aF => exact (fun k_ hk => ⟨Kd.fresh' (Kd.R_lt (xr_ HO_10)) k_ hk, Kd.fresh' (Kd.R_lt (xr_ HO_28)) k_ hk⟩)); (case aO => exact (xr_ HO206)); (case aS => exact (below_size (xw_ HB))); (case aL => have := LMc40.out; omega); intro v208 w47 ho hb hg hat; rw [← Ny207.out] at ho; replace HO_28 := Aside0.mk (Kd.R_after (ok := (fun k_ => some k_ ≠ (.slice Ao44 x10_1.length co44 : Value).ownBlock)) (xr_ HO_28) hg hat); replace BK171 := Aside0.mk (blk_grown (g := gb171) (o := .cells #[.int .i64 a0_0, .string a0_1, .slice A0_2 l0_2.length c0_2, .string a0_3] 54 (0, 0)) (xb_ BK171) hg (Kd.R_ne HO206.out BK171.out (by decide))); replace HB := Aside0.mk (hb); replace HR203 := Aside0.mk ((show Kd.C Kd.string w47 Ao44 y200.length y200 from by rw [Ny200.out]; exact Kd.C_take (m := (x13_2 : Int).toNat) ((Kd.R_reads' (Kd.R_after (ok := (fun k_ => some k_ ≠ (.slice (some ad178) t174.length co9 : Value).ownBlock)) (xr_ HO_10) hg hat)).2.2) KL45.out)); replace HO_10 := Aside0.mk (Kd.R_after (ok := (fun k_ => some k_ ≠ (.slice (some ad178) t174.length co9 : Value).ownBlock)) (xr_ HO_10) hg hat); have HO209 := Aside0.mk (ho); clear HO206; clear ho hb hg hat; have q48 : (x13_2 : Int) ≤ ((x10_1.length : Int) : Int) := of_decide_eq_true (by first | (with_reducible assumption) | assumption); obtain ⟨i048, hi048, _, hsz48, _⟩ := info_parts info9; have hroom48 : x10_1.length ≤ co44 := (Kd.R_reads' HO_10.out).2.1; have hC48 : Kd.C Kd.string _ Ao44 x10_1.length x10_1 := (Kd.R_reads' HO_10.out).2.2; have q048 : (0 : Int) ≤ (x13_2 : Int) := of_decide_eq_true (by first | (with_reducible assumption) | assumption); have hcut48 := cut_from (P := Tryz.prog) 50 9 .i64 Tryz.underlying50 hi048 1 hsz48 Ao44 x10_1.length co44 x13_2 q048 q48; have hr48 := Kd.C_drop (m := (x13_2 : Int).toNat) (c := co44) hC48 (by omega) hroom48; obtain ⟨A48, hA48⟩ : ∃ A1, A1 = (if co44 = (x13_2 : Int).toNat then Ao44 else (Ao44 : Option Addr).map (·.add ((x13_2 : Int).toNat * 1))) := ⟨_, rfl⟩; obtain ⟨c48, hc48⟩ : ∃ c1, c1 = co44 - (x13_2 : Int).toNat := ⟨_, rfl⟩; have hy48 : y210.length = x10_1.length - (x13_2 : Int).toNat := (by rw [Ny210.out, List.length_drop] <;> omega); rw [show (x10_1).drop (x13_2 : Int).toNat = y210 from Ny210.out.symm] at hr48; replace hr48 : Kd.C Kd.string _ A48 y210.length y210 := (by rw [hA48]; exact hr48); rw [← hy48, ← hA48, ← hc48] at hcut48; have HR213 := Aside0.mk hr48; have HC213 := Aside0.mk (show y210.length ≤ c48 from by rw [hy48, hc48]; exact Nat.sub_le_sub_right hroom48 _); clear hr48 hC48 hroom48 hi048 hsz48 hc48; have KY48 := Aside0.mk hy48; have KA48 := Aside0.mk hA48; clear hy48 hA48; have KL48 := Aside0.mk (show (x13_2 : Int).toNat ≤ x10_1.length from by omega); replace q48 := eq_true q48) | ((with_reducible refine gate_builtin (b := .append) (xs := #[.tmp 76, .tmp 79]) rfl ?_); at_builtin; refine Kd.R_append_rows Kd.string (w0 := w) w.heap.size rfl (.tmp 76) (.tmp 79) 50 9 (.string ⟨#[]⟩) 16 rfl Tryz.underlying50 info9 rfl (by decide) (by omega) v208 y207 y210 _ _ _ (fun k_ => some k_ ≠ (.slice Ao44 x10_1.length co44 : Value).ownBlock ∧ some k_ ≠ (.slice (some ad178) t174.length co9 : Value).ownBlock) (fun _ => False) rfl rfl ?aO ?aR (fun _ _ h => h) (fun _ h => h.elim) ?aF ?aB ?aS ?aL ?_; (case aR => repeat (first | exact (by repeat (first | (with_reducible exact HR213.out) | (with_reducible refine Kd.C_alloc ?_ _) | (with_reducible refine Kd.C_drewN ?_ _) | (with_reducible refine Kd.C_drew ?_) | exact HR213.out)) | (with_reducible refine Kd.C_alloc ?_ _) | (with_reducible refine Kd.C_drewN ?_ _) | (with_reducible refine Kd.C_drew ?_))); (case aB => exact (xw_ HB)); (case aF => exact (fun k_ hk => ⟨Kd.fresh' (Kd.R_lt (xr_ HO_10)) k_ hk, Kd.fresh' (Kd.R_lt (xr_ HO_28)) k_ hk⟩)); (case aO => exact (xr_ HO209)); (case aS => exact (below_size (xw_ HB))); (case aL => have := LMc43.out; omega); intro v215 w49 ho hb hg hat; rw [← Ny214.out] at ho; replace HO_28 := Aside0.mk (Kd.R_after (ok := (fun k_ => some k_ ≠ (.slice Ao44 x10_1.length co44 : Value).ownBlock)) (xr_ HO_28) hg hat); replace BK171 := Aside0.mk (blk_grown (g := gb171) (o := .cells #[.int .i64 a0_0, .string a0_1, .slice A0_2 l0_2.length c0_2, .string a0_3] 54 (0, 0)) (xb_ BK171) hg (Kd.R_ne HO209.out BK171.out (by decide))); replace HB := Aside0.mk (hb); replace HR203 := Aside0.mk ((show Kd.C Kd.string w49 Ao44 y200.length y200 from by rw [Ny200.out]; exact Kd.C_take (m := (x13_2 : Int).toNat) ((Kd.R_reads' (Kd.R_after (ok := (fun k_ => some k_ ≠ (.slice (some ad178) t174.length co9 : Value).ownBlock)) (xr_ HO_10) hg hat)).2.2) KL45.out)); replace HR213 := Aside0.mk ((show Kd.C Kd.string w49 A48 y210.length y210 from by rw [Ny210.out, KA48.out]; exact Kd.C_drop (m := (x13_2 : Int).toNat) (c := co44) ((Kd.R_reads' (Kd.R_after (ok := (fun k_ => some k_ ≠ (.slice (some ad178) t174.length co9 : Value).ownBlock)) (xr_ HO_10) hg hat)).2.2) KL48.out ((Kd.R_reads' (Kd.R_after (ok := (fun k_ => some k_ ≠ (.slice (some ad178) t174.length co9 : Value).ownBlock)) (xr_ HO_10) hg hat)).2.1))); replace HO_10 := Aside0.mk (Kd.R_after (ok := (fun k_ => some k_ ≠ (.slice (some ad178) t174.length co9 : Value).ownBlock)) (xr_ HO_10) hg hat); have HO216 := Aside0.mk (ho); clear HO209; clear ho hb hg hat))
                 go_roundg k2
                 case measure => have := HK1.out; have := HK2.out; omega
                 case rel => exact ⟨(x9_1), (y214), (wrap64 (x30_1 + 1)), (by first | rfl | (simp; done) | (simp [*]; done)), (by first | rfl | (simp; done) | (simp [*]; done)), H', ⟨by have := HK1.out; have := HK2.out; omega⟩, ⟨xrt_ (Kd.R_mono HO216.out (fun _ hk => hk.2))⟩, ⟨xrt_ (Kd.R_mono HO_28.out (fun _ hk => hk.2))⟩, ⟨xb_ BK171⟩, ⟨xw_ HB⟩⟩
                ·rw [if_neg c43] at H
                 exact absurd H (by simp)
               ·rw [if_neg c40] at H
                exact absurd H (by simp)
              ·rw [if_neg c39] at H
               exact absurd H (by simp)
             ·rw [if_neg c38] at H
              exact absurd H (by simp)
            ·rw [if_neg c37] at H
             exact absurd H (by simp)
        ·replace c15 := Bool.eq_false_iff.mpr c15
         subst c15
         have H1 : (some (([] : List ByteArray), false, false)) = some (r1, r2, r3) := by rw [if_neg (show ¬ (false = true) by decide)] at H; exact H
         clear H
         have H := H1
         clear H1
         simp only [Option.some.injEq, Prod.mk.injEq] at H
         obtain ⟨rfl, rfl, rfl⟩ := H
         have p178 : 0 ≤ (x30_1 : Int) := of_decide_eq_true (by first | (with_reducible assumption) | assumption)
         have q178 : x30_1 < (t174.length : Int) := of_decide_eq_true (by first | (with_reducible assumption) | assumption)
         obtain ⟨ad178, e178, hx178_0⟩ := Kd.at_string (Kd.R_reads' HO_28.out).2.2 x30_1 p178 q178
         cases e178
         replace p178 := eq_true p178
         replace q178 := eq_true q178
         go_wp2_with (first | ((with_reducible refine gate_callee (f := 89) rfl ?_); refine xgl_ (some 37) Tryz.func89 #[.string (rdOf ByteArray.empty t174 x30_1)] ?_; (with_reducible refine (spec_l3Token.calls k1 (rdOf ByteArray.empty t174 x30_1) false _ A14.out).mono ?_); rintro e w' ⟨rfl, ⟨nd, rfl⟩⟩; refine ⟨_, rfl, ?_⟩))
         go_ret3
         exact ⟨_, by first | rfl | (simp [errW_none, errW_some] <;> rfl) | (simp [*, errW_none, errW_some] <;> rfl), by first | exact Kd.R_nil _ _ _ _ _ | exact Kd.N_nil _ _ _ _ _ | exact Kd.V_nil _ _ _ _ _ | exact Kd.Q_nil _ _ _ _ _ | exact Kd.S_nil _ _ _ _ _, xw_ HB⟩
      ·rw [if_neg c12] at H
       exact absurd H (by simp)
     ·rw [if_neg c11] at H
      exact absurd H (by simp)
    ·rw [if_neg c10] at H
     have c10b0 : decide (x30_1 < (t174.length : Int)) = false := decide_eq_false c10
     clear c10
     simp only [Option.some.injEq, Prod.mk.injEq] at H
     obtain ⟨rfl, rfl, rfl⟩ := H
     go_wp2
     go_ret3
     exact ⟨_, by first | rfl | (simp [errW_none, errW_some] <;> rfl) | (simp [*, errW_none, errW_some] <;> rfl), by (with_reducible repeat (first | apply Kd.R_alloc | apply Kd.R_drewN | apply Kd.R_drew)); exact Kd.R_mono HO_10.out (fun _ hk => trivial), xw_ HB⟩
 ·replace c4 := Bool.eq_false_iff.mpr c4
  subst c4
  have H1 : (some (([] : List ByteArray), false, false)) = some (r1, r2, r3) := by rw [if_neg (show ¬ (false = true) by decide)] at H; exact H
  clear H
  have H := H1
  clear H1
  simp only [Option.some.injEq, Prod.mk.injEq] at H
  obtain ⟨rfl, rfl, rfl⟩ := H
  go_enter Tryz.func48, Tryz.ntmps48
  go_wp2_with (first | ((with_reducible refine gate_dst (N := 1) rfl ?_); refine xbe_ (N := 1) (cs := #[.int .i64 a0_0, .string a0_1, .slice A0_2 l0_2.length c0_2, .string a0_3]) (t := 54) ?_; intro gb171 hg w50 hbox hb; have BK171 := Aside0.mk (hbox); have GW171 := xge_ HB hg; have GE171 := xge_ HB hg; replace HB := xws_ HB hb; clear hb hbox hg; have ⟨_, _, _, _, _, _, _, _⟩ := c4_ BK171) | ((with_reducible refine gate_callee (f := 87) rfl ?_); refine xgl_ (some 18) Tryz.func87 #[.slice A0_2 l0_2.length c0_2, .string (⟨#[118, 97, 114, 121]⟩ : ByteArray)] ?_; (with_reducible refine (spec_l3Joined.calls k _ _ l0_2 (⟨#[118, 97, 114, 121]⟩ : ByteArray) t172 t173 _ ?side1 ?side2 A2.out).mono ?_); (case side1 => exact xc_ ((Kd.C_below HR0_2.out HB.out))); (case side2 => exact HC0_2.out); rintro e w52 ⟨rfl, hb⟩; refine ⟨_, rfl, ?_⟩; replace BK171 := xbb_ BK171 hb; replace HB := xws_ HB hb; (try clear hb); (try clear hb2); (try clear hk); (try clear hi)) | ((with_reducible refine gate_callee (f := 88) rfl ?_); refine xgl_ (some 23) Tryz.func88 #[.string t172] ?_; (with_reducible refine (spec_l3List.calls k t172 t174 false _ A3.out).mono ?_); rintro e w53 ⟨v176, rfl, ho0, hb⟩; refine ⟨_, rfl, ?_⟩; have HO177 := Aside0.mk (Kd.R_lower ho0 (below_size (xw_ HB))); replace BK171 := xbb_ BK171 hb; replace HB := xws_ HB hb; (try clear hb); (try clear hb2); (try clear hk); (try clear hi); (try clear ho0)))
  go_ret3
  exact ⟨_, by first | rfl | (simp [errW_none, errW_some] <;> rfl) | (simp [*, errW_none, errW_some] <;> rfl), by first | exact Kd.R_nil _ _ _ _ _ | exact Kd.N_nil _ _ _ _ _ | exact Kd.V_nil _ _ _ _ _ | exact Kd.Q_nil _ _ _ _ _ | exact Kd.S_nil _ _ _ _ _, xw_ HB⟩

/-! ### spec_VaryOf: function 20 -/
def spec_VaryOf.f (k : Nat) (a0_0 : Int) (a0_1 : ByteArray) (l0_2 : List (S105)) (a0_3 : ByteArray) : Option (List ByteArray × Bool × Bool) := (spec_GoodResponse.f k a0_0 a0_1 l0_2 a0_3).bind fun t218 => (if t218 = true then ((spec_l9Vary.f k a0_0 a0_1 l0_2 a0_3).bind fun bt219 => (some (bt219.1, bt219.2.1, bt219.2.2))) else (some (([] : List ByteArray), false, false)))
theorem spec_VaryOf.mono : ∀ a0 a1 a2 a3 k, LeO (spec_VaryOf.f k a0 a1 a2 a3) (spec_VaryOf.f (k + 1) a0 a1 a2 a3) := by
 intro a0 a1 a2 a3 k
 unfold spec_VaryOf.f
 repeat' first
   | (with_reducible exact spec_GoodResponse.mono _ _ _ _ _)
   | (with_reducible exact spec_l9Vary.mono _ _ _ _ _)
   | (with_reducible exact LeO.refl _)
   | (with_reducible exact LeO.none _)
   | (with_reducible refine LeO.ite ?_ ?_)
   | (with_reducible refine LeO.bind ?_ (fun _ => ?_))
   | exact spec_GoodResponse.mono _ _ _ _ _
   | exact spec_l9Vary.mono _ _ _ _ _
   | exact LeO.none _
   | refine LeO.ite ?_ ?_
   | refine LeO.bind ?_ (fun _ => ?_)
set_option maxHeartbeats 8000000 in
set_option maxRecDepth 100000 in
theorem spec_VaryOf.calls (k : Nat) (a0_0 : Int) (a0_1 : ByteArray) (A0_2 : Option Addr) (c0_2 : Nat) (l0_2 : List (S105)) (a0_3 : ByteArray) (r1 : List ByteArray) (r2 : Bool) (r3 : Bool) (w : World) (hr0_2 : Kd.C k105 w A0_2 l0_2.length l0_2) (hc0_2 : l0_2.length ≤ c0_2) (h : spec_VaryOf.f k a0_0 a0_1 l0_2 a0_3 = some (r1, r2, r3)) :
  Calls Tryz.prog 20 #[.agg #[.int .i64 a0_0, .string a0_1, .slice A0_2 l0_2.length c0_2, .string a0_3]] w fun e w' => ∃ v0_ : Value, e = .returned (.tuple #[v0_, .bool r2, .bool r3]) ∧ Kd.R Kd.string 9 w' w.heap.size (fun _ => True) v0_ r1 ∧ Below w.heap.size w w' := by
 have hu54 := Tryz.underlying54
 have HR0_2 := Aside0.mk hr0_2
 have HC0_2 := Aside0.mk hc0_2
 clear hr0_2 hc0_2
 have HB := Aside0.mk (Below.refl w.heap.size w)
 have H : ((spec_GoodResponse.f k a0_0 a0_1 l0_2 a0_3).bind fun t218 => (if t218 = true then ((spec_l9Vary.f k a0_0 a0_1 l0_2 a0_3).bind fun bt219 => (some (bt219.1, bt219.2.1, bt219.2.2))) else (some (([] : List ByteArray), false, false)))) = some (r1, r2, r3) := h
 clear h
 replace H := Option.bind_eq_some_iff.mp H
 obtain ⟨t218, A20, H⟩ := H
 replace H : (if t218 = true then ((spec_l9Vary.f k a0_0 a0_1 l0_2 a0_3).bind fun bt219 => (some (bt219.1, bt219.2.1, bt219.2.2))) else (some (([] : List ByteArray), false, false))) = some (r1, r2, r3) := H
 have A2 := Aside0.mk A20
 clear A20
 by_cases c3 : t218 = true
 ·subst c3
  have H1 : ((spec_l9Vary.f k a0_0 a0_1 l0_2 a0_3).bind fun bt219 => (some (bt219.1, bt219.2.1, bt219.2.2))) = some (r1, r2, r3) := by rw [if_pos rfl] at H; exact H
  clear H
  have H := H1
  clear H1
  replace H := Option.bind_eq_some_iff.mp H
  obtain ⟨⟨t219, t222, t223⟩, A40, H⟩ := H
  replace H : (some (t219, t222, t223)) = some (r1, r2, r3) := H
  have A4 := Aside0.mk A40
  clear A40
  simp only [Option.some.injEq, Prod.mk.injEq] at H
  obtain ⟨rfl, rfl, rfl⟩ := H
  go_enter Tryz.func20, Tryz.ntmps20
  go_wp2_with (first | ((with_reducible refine gate_dst (N := 1) rfl ?_); refine xbe_ (N := 1) (cs := #[.int .i64 a0_0, .string a0_1, .slice A0_2 l0_2.length c0_2, .string a0_3]) (t := 54) ?_; intro gb217 hg w5 hbox hb; have BK217 := Aside0.mk (hbox); have GW217 := xge_ HB hg; have GE217 := xge_ HB hg; replace HB := xws_ HB hb; clear hb hbox hg; have ⟨_, _, _, _, _, _, _, _⟩ := c4_ BK217) | ((with_reducible refine gate_callee (f := 47) rfl ?_); refine xgl_ (some 6) Tryz.func47 #[.agg #[.int .i64 a0_0, .string a0_1, .slice A0_2 l0_2.length c0_2, .string a0_3]] ?_; (with_reducible refine (spec_GoodResponse.calls k a0_0 a0_1 _ _ l0_2 a0_3 true _ ?side1 ?side2 A2.out).mono ?_); (case side1 => exact xc_ ((Kd.C_below HR0_2.out HB.out))); (case side2 => exact HC0_2.out); rintro e w7 ⟨rfl, hb⟩; refine ⟨_, rfl, ?_⟩; replace BK217 := xbb_ BK217 hb; replace HB := xws_ HB hb; (try clear hb); (try clear hb2); (try clear hk); (try clear hi); have ⟨_, _, _, _, _, _, _, _⟩ := c4_ BK217) | ((with_reducible refine gate_callee (f := 48) rfl ?_); refine xgl_ (some 9) Tryz.func48 #[.agg #[.int .i64 a0_0, .string a0_1, .slice A0_2 l0_2.length c0_2, .string a0_3]] ?_; (with_reducible refine (spec_l9Vary.calls k a0_0 a0_1 _ _ l0_2 a0_3 t219 t222 t223 _ ?side1 ?side2 A4.out).mono ?_); (case side1 => exact xc_ ((Kd.C_below HR0_2.out HB.out))); (case side2 => exact HC0_2.out); rintro e w9 ⟨v220, rfl, ho0, hb⟩; refine ⟨_, rfl, ?_⟩; have HO221 := Aside0.mk (Kd.R_lower ho0 (below_size (xw_ HB))); replace BK217 := xbb_ BK217 hb; replace HB := xws_ HB hb; (try clear hb); (try clear hb2); (try clear hk); (try clear hi); (try clear ho0)))
  go_ret3
  exact ⟨_, by first | rfl | (simp [errW_none, errW_some] <;> rfl) | (simp [*, errW_none, errW_some] <;> rfl), by (with_reducible repeat (first | apply Kd.R_alloc | apply Kd.R_drewN | apply Kd.R_drew)); exact HO221.out, xw_ HB⟩
 ·replace c3 := Bool.eq_false_iff.mpr c3
  subst c3
  have H1 : (some (([] : List ByteArray), false, false)) = some (r1, r2, r3) := by rw [if_neg (show ¬ (false = true) by decide)] at H; exact H
  clear H
  have H := H1
  clear H1
  simp only [Option.some.injEq, Prod.mk.injEq] at H
  obtain ⟨rfl, rfl, rfl⟩ := H
  go_enter Tryz.func20, Tryz.ntmps20
  go_wp2_with (first | ((with_reducible refine gate_dst (N := 1) rfl ?_); refine xbe_ (N := 1) (cs := #[.int .i64 a0_0, .string a0_1, .slice A0_2 l0_2.length c0_2, .string a0_3]) (t := 54) ?_; intro gb217 hg w10 hbox hb; have BK217 := Aside0.mk (hbox); have GW217 := xge_ HB hg; have GE217 := xge_ HB hg; replace HB := xws_ HB hb; clear hb hbox hg; have ⟨_, _, _, _, _, _, _, _⟩ := c4_ BK217) | ((with_reducible refine gate_callee (f := 47) rfl ?_); refine xgl_ (some 6) Tryz.func47 #[.agg #[.int .i64 a0_0, .string a0_1, .slice A0_2 l0_2.length c0_2, .string a0_3]] ?_; (with_reducible refine (spec_GoodResponse.calls k a0_0 a0_1 _ _ l0_2 a0_3 false _ ?side1 ?side2 A2.out).mono ?_); (case side1 => exact xc_ ((Kd.C_below HR0_2.out HB.out))); (case side2 => exact HC0_2.out); rintro e w12 ⟨rfl, hb⟩; refine ⟨_, rfl, ?_⟩; replace BK217 := xbb_ BK217 hb; replace HB := xws_ HB hb; (try clear hb); (try clear hb2); (try clear hk); (try clear hi)))
  go_ret3
  exact ⟨_, by first | rfl | (simp [errW_none, errW_some] <;> rfl) | (simp [*, errW_none, errW_some] <;> rfl), by first | exact Kd.R_nil _ _ _ _ _ | exact Kd.N_nil _ _ _ _ _ | exact Kd.V_nil _ _ _ _ _ | exact Kd.Q_nil _ _ _ _ _ | exact Kd.S_nil _ _ _ _ _, xw_ HB⟩

/-! ### laws_toField: function 73 -/
def laws_toField.f (a0_0 : ByteArray) (a0_1 : ByteArray) : Option (ByteArray × ByteArray) := some (a0_0, a0_1)
set_option maxHeartbeats 8000000 in
set_option maxRecDepth 100000 in
theorem laws_toField.calls (a0_0 : ByteArray) (a0_1 : ByteArray) (r1 : ByteArray) (r2 : ByteArray) (w : World) (h : laws_toField.f a0_0 a0_1 = some (r1, r2)) :
  Calls Tryz.prog 73 #[.agg #[.string a0_0, .string a0_1]] w fun e w' => e = .returned (.agg #[.string r1, .string r2]) ∧ Below w.heap.size w w' := by
 have hu97 := Tryz.underlying97
 have hu105 := Tryz.underlying105
 have HB := Aside0.mk (Below.refl w.heap.size w)
 have H : (some (a0_0, a0_1)) = some (r1, r2) := h
 clear h
 simp only [Option.some.injEq, Prod.mk.injEq] at H
 obtain ⟨rfl, rfl⟩ := H
 go_enter Tryz.func73, Tryz.ntmps73
 go_wp2_with (first | ((with_reducible refine gate_dst (N := 1) rfl ?_); refine xbe_ (N := 1) (cs := #[.string a0_0, .string a0_1]) (t := 97) ?_; intro gb224 hg w2 hbox hb; have BK224 := Aside0.mk (hbox); have GW224 := xge_ HB hg; have GE224 := xge_ HB hg; replace HB := xws_ HB hb; clear hb hbox hg) | ((with_reducible refine gate_dst (N := 2) rfl ?_); refine xbe_ (N := 2) (cs := #[.string (⟨#[]⟩ : ByteArray), .string (⟨#[]⟩ : ByteArray)]) (t := 105) ?_; intro gb225 hg w3 hbox hb; have BK225 := Aside0.mk (hbox); have GW225 := xge_ HB hg; have GE225 := xge_ HB hg; replace HB := xws_ HB hb; have NB224_225 := xlt_ BK224 hg; have NB225_224 := xgt_ BK224 hg; replace BK224 := xbb_ BK224 hb; clear hb hbox hg) | ((with_reducible refine gate_dst (N := 3) rfl ?_); refine xbe_ (N := 3) (cs := #[.string (⟨#[]⟩ : ByteArray), .string (⟨#[]⟩ : ByteArray)]) (t := 105) ?_; intro gb226 hg w4 hbox hb; have BK226 := Aside0.mk (hbox); have GW226 := xge_ HB hg; have GE226 := xge_ HB hg; replace HB := xws_ HB hb; have NB224_226 := xlt_ BK224 hg; have NB226_224 := xgt_ BK224 hg; replace BK224 := xbb_ BK224 hb; have NB225_226 := xlt_ BK225 hg; have NB226_225 := xgt_ BK225 hg; replace BK225 := xbb_ BK225 hb; clear hb hbox hg; have hnb5 := NB224_225.out; have hnc5 := NB225_224.out; have hnb6 := NB224_226.out; have hnc6 := NB226_224.out; have ⟨_, _, _, _⟩ := c2_ BK224; have hnb8 := NB226_225.out; have hnc8 := NB225_226.out; have ⟨_, _, _, _⟩ := c2_ BK226; have ⟨_, _, _, _⟩ := c2_ BK225))
 refine bodyPost_ret (results_cell_row rfl _ _ gb225 105 #[.string a0_0, .string a0_1] (0, 0) _ rfl (by (with_reducible repeat first | apply bN_ | apply bD_ | apply bA_); refine blk_put (cs := #[.string a0_0, .string (⟨#[]⟩ : ByteArray)]) ?_ 1 _ rfl; (with_reducible repeat first | apply bN_ | apply bD_ | apply bA_); refine blk_put (cs := #[.string (⟨#[]⟩ : ByteArray), .string (⟨#[]⟩ : ByteArray)]) ?_ 0 _ rfl; (with_reducible repeat first | apply bN_ | apply bD_ | apply bA_ | refine blk_far ?_ NB225_226.out _); exact BK225.out) Tryz.underlying105 rfl (by kernel_rfl)) rfl ?_
 exact ⟨by first | rfl | (simp [errW_none, errW_some] <;> rfl) | (simp [*, errW_none, errW_some] <;> rfl), xw_ HB⟩

/-! ### laws_toFieldS: function 37 -/
def laws_toFieldS.l0 : Nat → List (S97) → List (S105) → Int → Option ((List (S105)))
 | 0, _, _, _ => none
 | k + 1, x0, x3, x4 => if x4 < (x0.length : Int) then (if 0 ≤ x4 then ((laws_toField.f ((rd_T97 x0 x4).f0) ((rd_T97 x0 x4).f1)).bind fun bt231 => (if x4 < (x3.length : Int) then (laws_toFieldS.l0 k x0 (x3.set (x4 : Int).toNat (⟨bt231.1, bt231.2⟩ : S105)) (wrap64 (x4 + 1))) else (none))) else (none)) else (some x3)
def laws_toFieldS.f (k : Nat) (l0 : List (S97)) : Option ((List (S105))) := if 0 ≤ (l0.length : Int) then (if ((l0.length : Int) : Int).toNat ≤ 8796093022208 then (laws_toFieldS.l0 k l0 (List.replicate ((l0.length : Int) : Int).toNat z105) 0) else (none)) else (none)
theorem laws_toFieldS.mono_l : ∀ k, (∀ y0 y1 y2, LeO (laws_toFieldS.l0 k y0 y1 y2) (laws_toFieldS.l0 (k + 1) y0 y1 y2))
 | 0 => fun _ _ _ r h => by simp [laws_toFieldS.l0] at h
 | k + 1 => by
  have ih0 := laws_toFieldS.mono_l k
  ·intro y0 y1 y2
   unfold laws_toFieldS.l0
   repeat' first
   | (with_reducible exact ih0 _ _ _)
   | (with_reducible exact LeO.refl _)
   | (with_reducible exact LeO.none _)
   | (with_reducible refine LeO.ite ?_ ?_)
   | (with_reducible refine LeO.bind ?_ (fun _ => ?_))
   | exact ih0 _ _ _
   | exact LeO.none _
   | refine LeO.ite ?_ ?_
   | refine LeO.bind ?_ (fun _ => ?_)
theorem laws_toFieldS.mono : ∀ a0 k, LeO (laws_toFieldS.f k a0) (laws_toFieldS.f (k + 1) a0) := by
 intro a0 k
 have ih0 := laws_toFieldS.mono_l k
 unfold laws_toFieldS.f
 repeat' first
   | (with_reducible exact ih0 _ _ _)
   | (with_reducible exact LeO.refl _)
   | (with_reducible exact LeO.none _)
   | (with_reducible refine LeO.ite ?_ ?_)
   | (with_reducible refine LeO.bind ?_ (fun _ => ?_))
   | exact ih0 _ _ _
   | exact LeO.none _
   | refine LeO.ite ?_ ?_
   | refine LeO.bind ?_ (fun _ => ?_)
set_option maxHeartbeats 8000000 in
set_option maxRecDepth 100000 in
theorem laws_toFieldS.calls (k : Nat) (A0 : Option Addr) (c0 : Nat) (l0 : List (S97)) (r : List (S105)) (w : World) (hr0 : Kd.C k97 w A0 l0.length l0) (hc0 : l0.length ≤ c0) (h : laws_toFieldS.f k l0 = some r) :
  Calls Tryz.prog 37 #[.slice A0 l0.length c0] w fun e w' => ∃ v0_ : Value, e = .returned (v0_) ∧ Kd.R k105 105 w' w.heap.size (fun _ => True) v0_ r ∧ Below w.heap.size w w' := by
 have hu97 := Tryz.underlying97
 have hu105 := Tryz.underlying105
 have HR0 := Aside0.mk hr0
 have HC0 := Aside0.mk hc0
 clear hr0 hc0
 have HB := Aside0.mk (Below.refl w.heap.size w)
 have H : (if 0 ≤ (l0.length : Int) then (if ((l0.length : Int) : Int).toNat ≤ 8796093022208 then (laws_toFieldS.l0 k l0 (List.replicate ((l0.length : Int) : Int).toNat z105) 0) else (none)) else (none)) = some r := h
 clear h
 by_cases c2 : 0 ≤ (l0.length : Int)
 ·rw [if_pos c2] at H
  have c2b0 := eq_true c2
  have c2b1 : decide (0 ≤ (l0.length : Int)) = true := decide_eq_true c2
  clear c2
  by_cases c3 : ((l0.length : Int) : Int).toNat ≤ 8796093022208
  ·rw [if_pos c3] at H
   have c3b0 := eq_true c3
   have c3b1 : decide (((l0.length : Int) : Int).toNat ≤ 8796093022208) = true := decide_eq_true c3
   clear c3
   obtain ⟨y227, hy227⟩ : ∃ y_ : List (S105), y_ = (List.replicate ((l0.length : Int) : Int).toNat z105) := ⟨_, rfl⟩
   replace H : (laws_toFieldS.l0 k l0 y227 0) = some r := by first | (rw [hy227]; with_reducible exact H) | (have H2_ := (Option.bind_some _ _).symm.trans H; rw [hy227]; with_reducible exact H2_) | (have H2_ := (Option.bind_some _ _).symm.trans H; with_reducible exact H2_) | with_reducible exact H | (rw [hy227]; exact H) | exact H
   have Ny227 := Aside0.mk hy227
   clear hy227
   have H' := Aside0.mk H
   clear H
   go_enter Tryz.func37, Tryz.ntmps37
   go_wp2_with (first | ((with_reducible refine gate_dst (N := 7) rfl ?_); refine Kd.R_make k105 _ 105 rfl (N := 7) rfl 33 _ _ rfl (l0.length : Int) rfl rfl Tryz.underlying33 (.agg #[(.string ⟨#[]⟩), (.string ⟨#[]⟩)]) 32 info105 rfl (by decide) (by omega) z105 (ok := fun _ => True) (okp := fun _ => True) (k105_mkM _ _ _ z105 ) (fun _ hk => hk) trivial (of_decide_eq_true (by first | (with_reducible assumption) | assumption)) (Nat.le_trans (Nat.mul_le_mul_right _ (of_decide_eq_true (by first | (with_reducible assumption) | assumption) : (l0.length : Int).toNat ≤ 8796093022208)) (by omega)) (Below.refl _ _) (Nat.le_refl _) ?_; intro v228 w4 ho5 hb hg_ hnew_; clear hg_ hnew_; (first | rw [← Ny227.out] at ho5 | (simp only [Int.reduceToNat] at ho5; rw [← Ny227.out] at ho5)); have HO229 := Aside0.mk (Kd.R_lower ho5 (below_size (xw_ HB))); replace HB := xws_ HB hb; clear hb ho5))
   go_loopg [4] k (fun kq v4 w' => ∃ (x3_1 : List (S105)) (x4_1 : Int), v4 = .int .i64 x4_1 ∧ Aside0 (laws_toFieldS.l0 kq l0 x3_1 x4_1 = some r) ∧ Aside0 (kq ≤ k) ∧ Aside0 (Kd.R k105 105 w' w.heap.size (fun _ => True) v228 x3_1) ∧ Aside0 (Below w.heap.size w w'))
   case atStart => exact ⟨(y227), (0), (by first | rfl | (simp; done) | (simp [*]; done)), H', ⟨Nat.le_refl _⟩, ⟨xr_ HO229⟩, ⟨xw_ HB⟩⟩
   case round =>
    clear H'
    try clear c2
    try clear c2b0
    try clear c2b1
    try clear p2
    try clear c3
    try clear c3b0
    try clear c3b1
    obtain ⟨x3_1, x4_1, rfl, HA, HK1, HO_3, HB⟩ := hrel
    cases gk with
    | zero => exact absurd HA.out (by simp [laws_toFieldS.l0])
    | succ k1 =>
     have H := HA.out
     clear HA
     simp only [laws_toFieldS.l0] at H
     by_cases c6 : x4_1 < (l0.length : Int)
     ·rw [if_pos c6] at H
      have c6b0 : decide (x4_1 < (l0.length : Int)) = true := decide_eq_true c6
      clear c6
      by_cases c7 : 0 ≤ x4_1
      ·rw [if_pos c7] at H
       have c7b0 : decide (0 ≤ x4_1) = true := decide_eq_true c7
       clear c7
       replace H := Option.bind_eq_some_iff.mp H
       obtain ⟨⟨t231, t232⟩, A80, H⟩ := H
       replace H : (if x4_1 < (x3_1.length : Int) then (laws_toFieldS.l0 k1 l0 (x3_1.set (x4_1 : Int).toNat (⟨t231, t232⟩ : S105)) (wrap64 (x4_1 + 1))) else (none)) = some r := H
       have A8 := Aside0.mk A80
       clear A80
       by_cases c9 : x4_1 < (x3_1.length : Int)
       ·rw [if_pos c9] at H
        have c9b0 : decide (x4_1 < (x3_1.length : Int)) = true := decide_eq_true c9
        clear c9
        obtain ⟨y233, hy233⟩ : ∃ y_ : List (S105), y_ = (x3_1.set (x4_1 : Int).toNat (⟨t231, t232⟩ : S105)) := ⟨_, rfl⟩
        replace H : (laws_toFieldS.l0 k1 l0 y233 (wrap64 (x4_1 + 1))) = some r := by first | (rw [hy233]; with_reducible exact H) | (have H2_ := (Option.bind_some _ _).symm.trans H; rw [hy233]; with_reducible exact H2_) | (have H2_ := (Option.bind_some _ _).symm.trans H; with_reducible exact H2_) | with_reducible exact H | (rw [hy233]; exact H) | exact H
        have Ny233 := Aside0.mk hy233
        clear hy233
        have H' := Aside0.mk H
        clear H
        have p230 : 0 ≤ (x4_1 : Int) := of_decide_eq_true (by first | (with_reducible assumption) | assumption)
        have q230 : x4_1 < (l0.length : Int) := of_decide_eq_true (by first | (with_reducible assumption) | assumption)
        obtain ⟨ad230, e230, hx230_0, hx230_1⟩ := at_T97 HR0.out x4_1 p230 q230
        cases e230
        (try replace hx230_0 := (HB.out.cell (World.block_lt_of_cell? w _ hx230_0)).trans hx230_0)
        (try replace hx230_1 := (HB.out.cell (World.block_lt_of_cell? w _ hx230_1)).trans hx230_1)
        replace p230 := eq_true p230
        replace q230 := eq_true q230
        go_wp2_with (first | ((with_reducible refine gate_callee (f := 73) rfl ?_); refine xgl_ (some 20) Tryz.func73 #[.agg #[.string ((rd_T97 l0 x4_1).f0), .string ((rd_T97 l0 x4_1).f1)]] ?_; (with_reducible refine (laws_toField.calls ((rd_T97 l0 x4_1).f0) ((rd_T97 l0 x4_1).f1) t231 t232 _ A8.out).mono ?_); rintro e w11 ⟨rfl, hb⟩; refine ⟨_, rfl, ?_⟩; replace HO_3 := xrb_ HO_3 hb; replace HB := xws_ HB hb; (try clear hb); (try clear hb2); (try clear hk); (try clear hi); have p10 : 0 ≤ (x4_1 : Int) := of_decide_eq_true (by first | (with_reducible assumption) | assumption); have q10 : (x4_1 : Int) < ((x3_1.length : Int) : Int) := of_decide_eq_true (by first | (with_reducible assumption) | assumption); obtain ⟨go10, co10, eo10, gb10, gl10, cl10, HG10⟩ := Kd.R_form HO_3.out (by omega); (first | cases eo10 | (injection eo10 with ea_ en_ ec_; (first | subst ea_ | (injection ea_ with ea_; subst ea_)); subst ec_; clear en_)); have GB10 := Aside0.mk gb10; have GG10 := Aside0.mk HG10; clear gb10 gl10 HG10; obtain ⟨ce10, hcl10, hM10, hcc10, hfr10⟩ := Kd.R_elem HO_3.out z105 (x4_1 : Int) p10 q10; obtain rfl := k105_openM hM10; have hx10_0 : w11.cell? ⟨go10, (x4_1 : Int).toNat * 2, none⟩ = some (.string ((rd_T105 x3_1 x4_1).f0)) := hcc10 0 _ rfl; have hx10_1 : w11.cell? ⟨go10, (x4_1 : Int).toNat * 2 + 1, none⟩ = some (.string ((rd_T105 x3_1 x4_1).f1)) := hcc10 1 _ rfl; have hf10_0 : w11.frozen? ⟨go10, (x4_1 : Int).toNat * 2, none⟩ = false := hfr10 0; have hf10_1 : w11.frozen? ⟨go10, (x4_1 : Int).toNat * 2 + 1, none⟩ = false := hfr10 1; clear hcl10 hcc10 hfr10 hM10; replace p10 := eq_true p10; replace q10 := eq_true q10; have HX12 := Aside0.mk (show Kd.R k105 105 w11 w.heap.size (fun _ => True) (.slice (some ⟨go10, 0, none⟩) x3_1.length co10) x3_1 from (xr_ HO_3)); obtain ⟨ce12, hcl12, hM12, hcc12, hfr12⟩ := Kd.R_elem HX12.out z105 (x4_1 : Int) (of_decide_eq_true (by first | (with_reducible assumption) | assumption)) (by have h_ : (x4_1 : Int) < ((x3_1.length : Int) : Int) := of_decide_eq_true (by first | (with_reducible assumption) | assumption); first | exact h_ | (have e_ := (Kd.R_reads' HO_3.out).1; omega) | simpa using h_); obtain rfl := k105_openM hM12; have HP12 := Kd.R_seg HX12.out (x4_1 : Int) (of_decide_eq_true (by first | (with_reducible assumption) | assumption)) (by have h_ : (x4_1 : Int) < ((x3_1.length : Int) : Int) := of_decide_eq_true (by first | (with_reducible assumption) | assumption); first | exact h_ | (have e_ := (Kd.R_reads' HO_3.out).1; omega) | simpa using h_) (seg := [.string t231, .string t232]) (j := 0) hcl12 hcc12 (show 2 ≤ 2 from by decide) (x' := (⟨t231, t232⟩ : S105)) (k105_mkM _ _ _ (⟨t231, t232⟩ : S105) ) (fun _ hk => hk); have hx12_0 := hcc12 0 _ rfl; (try simp only [show (k105).sz = 2 from rfl, Nat.mul_one, Nat.add_zero] at hx12_0); have hf12_0 := hfr12 0; (try simp only [show (k105).sz = 2 from rfl, Nat.mul_one, Nat.add_zero] at hf12_0); have hx12_1 := hcc12 1 _ rfl; (try simp only [show (k105).sz = 2 from rfl, Nat.mul_one, Nat.add_zero] at hx12_1); have hf12_1 := hfr12 1; (try simp only [show (k105).sz = 2 from rfl, Nat.mul_one, Nat.add_zero] at hf12_1); clear hcl12 hcc12 hfr12 hM12) | ((with_reducible refine gate_store (t := 105) (p := 21) rfl ?_); refine store_event (t := 105) (p := 21) (v := ?vo_w13) (w1 := ((w11.setCell ⟨go10, (x4_1 : Int).toNat * 2, none⟩ (.string t231)).setCell ⟨go10, (x4_1 : Int).toNat * 2 + 1, none⟩ (.string t232))) ?hg ?ho ?hn ?hr ?_; (case ho => rfl); (case hg => rfl); (case hn => rfl); (case hr => first | (go_simp; done) | (go_simp; rfl)); intro w13 hw; have hg : w11.grownBy w13 (some go10) := (by rw [hw]; exact HP12.2); have hp_ : Kd.R k105 105 w13 w.heap.size (fun _ => True) (.slice (some ⟨go10, 0, none⟩) x3_1.length co10) y233 := (by rw [hw, Ny233.out]; exact HP12.1); clear HP12; replace HO_3 := Aside0.mk (hp_); replace HB := Aside0.mk ((by rw [hw]; exact below_set (below_set (HB.out) GB10.out) GB10.out : Below w.heap.size w w13)); clear hg hw hp_))
        go_roundg k1
        case measure => have := HK1.out; omega
        case rel => exact ⟨(y233), (wrap64 (x4_1 + 1)), (by first | rfl | (simp; done) | (simp [*]; done)), H', ⟨by have := HK1.out; omega⟩, ⟨xr_ HO_3⟩, ⟨xw_ HB⟩⟩
       ·rw [if_neg c9] at H
        exact absurd H (by simp)
      ·rw [if_neg c7] at H
       exact absurd H (by simp)
     ·rw [if_neg c6] at H
      have c6b0 : decide (x4_1 < (l0.length : Int)) = false := decide_eq_false c6
      clear c6
      obtain rfl := Option.some.inj H
      go_wp2
      go_ret
      exact ⟨_, by first | rfl | (simp [errW_none, errW_some] <;> rfl) | (simp [*, errW_none, errW_some] <;> rfl), by (with_reducible repeat (first | apply Kd.R_alloc | apply Kd.R_drewN | apply Kd.R_drew)); exact HO_3.out, xw_ HB⟩
  ·rw [if_neg c3] at H
   exact absurd H (by simp)
 ·rw [if_neg c2] at H
  exact absurd H (by simp)

/-! ### laws_toResponse: function 21 -/
def laws_toResponse.f (k : Nat) (a0_0 : Int) (a0_1 : ByteArray) (l0_2 : List (S97)) (a0_3 : ByteArray) : Option (Int × ByteArray × (List (S105)) × ByteArray) := (laws_toFieldS.f k l0_2).bind fun t237 => (some (a0_0, a0_1, t237, a0_3))
theorem laws_toResponse.mono : ∀ a0 a1 a2 a3 k, LeO (laws_toResponse.f k a0 a1 a2 a3) (laws_toResponse.f (k + 1) a0 a1 a2 a3) := by
 intro a0 a1 a2 a3 k
 unfold laws_toResponse.f
 repeat' first
   | (with_reducible exact laws_toFieldS.mono _ _)
   | (with_reducible exact LeO.refl _)
   | (with_reducible exact LeO.none _)
   | (with_reducible refine LeO.ite ?_ ?_)
   | (with_reducible refine LeO.bind ?_ (fun _ => ?_))
   | exact laws_toFieldS.mono _ _
   | exact LeO.none _
   | refine LeO.ite ?_ ?_
   | refine LeO.bind ?_ (fun _ => ?_)
set_option maxHeartbeats 8000000 in
set_option maxRecDepth 100000 in
theorem laws_toResponse.calls (k : Nat) (a0_0 : Int) (a0_1 : ByteArray) (A0_2 : Option Addr) (c0_2 : Nat) (l0_2 : List (S97)) (a0_3 : ByteArray) (r1 : Int) (r2 : ByteArray) (r3 : List (S105)) (r4 : ByteArray) (w : World) (hr0_2 : Kd.C k97 w A0_2 l0_2.length l0_2) (hc0_2 : l0_2.length ≤ c0_2) (h : laws_toResponse.f k a0_0 a0_1 l0_2 a0_3 = some (r1, r2, r3, r4)) :
  Calls Tryz.prog 21 #[.agg #[.int .i64 a0_0, .string a0_1, .slice A0_2 l0_2.length c0_2, .string a0_3]] w fun e w' => ∃ v2_ : Value, e = .returned (.agg #[.int .i64 r1, .string r2, v2_, .string r4]) ∧ Kd.R k105 105 w' w.heap.size (fun _ => True) v2_ r3 ∧ Below w.heap.size w w' := by
 have hu48 := Tryz.underlying48
 have hu54 := Tryz.underlying54
 have HR0_2 := Aside0.mk hr0_2
 have HC0_2 := Aside0.mk hc0_2
 clear hr0_2 hc0_2
 have HB := Aside0.mk (Below.refl w.heap.size w)
 have H : ((laws_toFieldS.f k l0_2).bind fun t237 => (some (a0_0, a0_1, t237, a0_3))) = some (r1, r2, r3, r4) := h
 clear h
 replace H := Option.bind_eq_some_iff.mp H
 obtain ⟨t237, A20, H⟩ := H
 replace H : (some (a0_0, a0_1, t237, a0_3)) = some (r1, r2, r3, r4) := H
 have A2 := Aside0.mk A20
 clear A20
 simp only [Option.some.injEq, Prod.mk.injEq] at H
 obtain ⟨rfl, rfl, rfl, rfl⟩ := H
 go_enter Tryz.func21, Tryz.ntmps21
 go_wp2_with (first | ((with_reducible refine gate_dst (N := 1) rfl ?_); refine xbe_ (N := 1) (cs := #[.int .i64 a0_0, .string a0_1, .slice A0_2 l0_2.length c0_2, .string a0_3]) (t := 48) ?_; intro gb234 hg w3 hbox hb; have BK234 := Aside0.mk (hbox); have GW234 := xge_ HB hg; have GE234 := xge_ HB hg; replace HB := xws_ HB hb; clear hb hbox hg) | ((with_reducible refine gate_dst (N := 2) rfl ?_); refine xbe_ (N := 2) (cs := #[.int .i64 0, .string (⟨#[]⟩ : ByteArray), .slice none 0 0, .string (⟨#[]⟩ : ByteArray)]) (t := 54) ?_; intro gb235 hg w4 hbox hb; have BK235 := Aside0.mk (hbox); have GW235 := xge_ HB hg; have GE235 := xge_ HB hg; replace HB := xws_ HB hb; have NB234_235 := xlt_ BK234 hg; have NB235_234 := xgt_ BK234 hg; replace BK234 := xbb_ BK234 hb; clear hb hbox hg) | ((with_reducible refine gate_dst (N := 3) rfl ?_); refine xbe_ (N := 3) (cs := #[.int .i64 0, .string (⟨#[]⟩ : ByteArray), .slice none 0 0, .string (⟨#[]⟩ : ByteArray)]) (t := 54) ?_; intro gb236 hg w5 hbox hb; have BK236 := Aside0.mk (hbox); have GW236 := xge_ HB hg; have GE236 := xge_ HB hg; replace HB := xws_ HB hb; have NB234_236 := xlt_ BK234 hg; have NB236_234 := xgt_ BK234 hg; replace BK234 := xbb_ BK234 hb; have NB235_236 := xlt_ BK235 hg; have NB236_235 := xgt_ BK235 hg; replace BK235 := xbb_ BK235 hb; clear hb hbox hg; have hnb6 := NB234_235.out; have hnc6 := NB235_234.out; have hnb7 := NB234_236.out; have hnc7 := NB236_234.out; have ⟨_, _, _, _, _, _, _, _⟩ := c4_ BK234; have hnb9 := NB236_235.out; have hnc9 := NB235_236.out; have ⟨_, _, _, _, _, _, _, _⟩ := c4_ BK236) | ((with_reducible refine gate_callee (f := 37) rfl ?_); refine xgl_ (some 12) Tryz.func37 #[.slice A0_2 l0_2.length c0_2] ?_; (with_reducible refine (laws_toFieldS.calls k _ _ l0_2 t237 _ ?side1 ?side2 A2.out).mono ?_); (case side1 => exact Kd.C_below HR0_2.out (xw_ HB)); (case side2 => exact HC0_2.out); rintro e w11 ⟨v238, rfl, ho0, hb⟩; refine ⟨_, rfl, ?_⟩; have HO239 := Aside0.mk (Kd.R_lower ho0 (below_size (xw_ HB))); replace BK234 := Aside0.mk (blk_below (g := gb234) (o := .cells #[.int .i64 a0_0, .string a0_1, .slice A0_2 l0_2.length c0_2, .string a0_3] 48 (0, 0)) (by (with_reducible repeat first | apply bN_ | apply bD_ | apply bA_ | refine blk_far ?_ NB234_236.out _); exact BK234.out) hb); replace BK235 := Aside0.mk (blk_below (g := gb235) (o := .cells #[.int .i64 0, .string (⟨#[]⟩ : ByteArray), .slice none 0 0, .string (⟨#[]⟩ : ByteArray)] 54 (0, 0)) (by (with_reducible repeat first | apply bN_ | apply bD_ | apply bA_ | refine blk_far ?_ NB235_236.out _); exact BK235.out) hb); replace BK236 := Aside0.mk (blk_below (g := gb236) (o := .cells #[.int .i64 a0_0, .string a0_1, .slice none 0 0, .string (⟨#[]⟩ : ByteArray)] 54 (0, 0)) (by (with_reducible repeat first | apply bN_ | apply bD_ | apply bA_); refine blk_put (cs := #[.int .i64 a0_0, .string (⟨#[]⟩ : ByteArray), .slice none 0 0, .string (⟨#[]⟩ : ByteArray)]) ?_ 1 _ rfl; (with_reducible repeat first | apply bN_ | apply bD_ | apply bA_); refine blk_put (cs := #[.int .i64 0, .string (⟨#[]⟩ : ByteArray), .slice none 0 0, .string (⟨#[]⟩ : ByteArray)]) ?_ 0 _ rfl; (with_reducible repeat first | apply bN_ | apply bD_ | apply bA_); exact BK236.out) hb); replace HB := xws_ HB hb; (try clear hb); (try clear hb2); (try clear hk); (try clear hi); (try clear ho0); obtain ⟨Ao12, co12, eo12⟩ := Kd.R_slice HO239.out; subst eo12; have ⟨_, _, _, _, _, _, _, _⟩ := c4_ BK236; have ⟨_, _, _, _, _, _, _, _⟩ := c4_ BK234; have ⟨_, _, _, _, _, _, _, _⟩ := c4_ BK235))
 refine bodyPost_ret (results_cell_row rfl _ _ gb235 54 #[.int .i64 a0_0, .string a0_1, .slice Ao12 t237.length co12, .string a0_3] (0, 0) _ rfl (by (with_reducible repeat first | apply bN_ | apply bD_ | apply bA_); refine blk_put (cs := #[.int .i64 a0_0, .string a0_1, .slice Ao12 t237.length co12, .string (⟨#[]⟩ : ByteArray)]) ?_ 3 _ rfl; (with_reducible repeat first | apply bN_ | apply bD_ | apply bA_); refine blk_put (cs := #[.int .i64 a0_0, .string a0_1, .slice none 0 0, .string (⟨#[]⟩ : ByteArray)]) ?_ 2 _ rfl; (with_reducible repeat first | apply bN_ | apply bD_ | apply bA_); refine blk_put (cs := #[.int .i64 a0_0, .string (⟨#[]⟩ : ByteArray), .slice none 0 0, .string (⟨#[]⟩ : ByteArray)]) ?_ 1 _ rfl; (with_reducible repeat first | apply bN_ | apply bD_ | apply bA_); refine blk_put (cs := #[.int .i64 0, .string (⟨#[]⟩ : ByteArray), .slice none 0 0, .string (⟨#[]⟩ : ByteArray)]) ?_ 0 _ rfl; (with_reducible repeat first | apply bN_ | apply bD_ | apply bA_ | refine blk_far ?_ NB235_236.out _); exact BK235.out) Tryz.underlying54 rfl (by kernel_rfl)) rfl ?_
 exact ⟨_, by first | rfl | (simp [errW_none, errW_some] <;> rfl) | (simp [*, errW_none, errW_some] <;> rfl), by (with_reducible repeat (first | apply Kd.R_alloc | apply Kd.R_drewN | apply Kd.R_drew)); exact Kd.R_mono (Kd.R_far (p := ⟨gb235, 3, none⟩) (Kd.R_far (p := ⟨gb235, 2, none⟩) (Kd.R_far (p := ⟨gb235, 1, none⟩) (Kd.R_far (p := ⟨gb235, 0, none⟩) (Kd.R_far (p := ⟨gb236, 3, none⟩) (Kd.R_far (p := ⟨gb236, 2, none⟩) (Kd.R_types (Kd.R_types HO239.out BK236.out (by decide)) BK235.out (by decide)) (fun _ hk => hk.1.2) (.slice Ao12 t237.length co12)) (fun _ hk => hk.1.2) (.string a0_3)) (fun _ hk => hk.2) (.int .i64 a0_0)) (fun _ hk => hk.2) (.string a0_1)) (fun _ hk => hk.2) (.slice Ao12 t237.length co12)) (fun _ hk => hk.2) (.string a0_3)) (fun _ hk => trivial), xw_ HB⟩

end Go.Proofs.YtpggepjfhgalkaaGreatDoor.PFnExactVaryOf
