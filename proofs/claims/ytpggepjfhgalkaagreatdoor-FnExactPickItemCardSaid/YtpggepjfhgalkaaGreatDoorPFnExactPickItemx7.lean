-- Written by a program of this project (xprint.py) out of the translation; Lean checks it.
import Derived.Test.YtpggepjfhgalkaaGreatDoorPFnExactPickItemx0
import Derived.Test.YtpggepjfhgalkaaGreatDoorPFnExactPickItemx2
import Derived.Test.YtpggepjfhgalkaaGreatDoorPFnExactPickItemx3
import Derived.Test.YtpggepjfhgalkaaGreatDoorPFnExactPickItemx4
namespace Go.Proofs.YtpggepjfhgalkaaGreatDoor.PFnExactPickItem
open Go.RowKit Go.Proofs.YtpggepjfhgalkaaGreatDoorW.PrintWords Go.Proofs.YtpggepjfhgalkaaGreatDoorW.PrintLast Go.Proofs.YtpggepjfhgalkaaGreatDoorW.PrintMore
attribute [local go_sem] max2_int min2_int max_two min_two max_three min_three max_four min_four   -- for this text's walks alone
set_option linter.unusedVariables false
set_option linter.unusedSimpArgs false

/-! ### spec_l3Joined: function 87 -/
def spec_l3Joined.l0 : Nat → ByteArray → List ByteArray → List ByteArray → Int → Int → Option (ByteArray × Bool)
 | 0, _, _, _, _, _ => none
 | k + 1, x6, x7, x13, x14, x15 => if x15 < x14 then (if 0 ≤ x15 then (if x15 < (x13.length : Int) then (if x15 > 0 then (if x6.size + 2 ≤ 9223372036854775807 then (if (x6 ++ (⟨#[44, 32]⟩ : ByteArray)).size + (rdOf ByteArray.empty x13 x15).size ≤ 9223372036854775807 then (spec_l3Joined.l0 k ((x6 ++ (⟨#[44, 32]⟩ : ByteArray)) ++ (rdOf ByteArray.empty x13 x15)) x7 x13 x14 (wrap64 (x15 + 1))) else (none)) else (none)) else (if x6.size + (rdOf ByteArray.empty x13 x15).size ≤ 9223372036854775807 then (spec_l3Joined.l0 k (x6 ++ (rdOf ByteArray.empty x13 x15)) x7 x13 x14 (wrap64 (x15 + 1))) else (none))) else (none)) else (none)) else (some (x6, decide ((x7.length : Int) > 0)))
def spec_l3Joined.f (k : Nat) (l0 : List (S105)) (a1 : ByteArray) : Option (ByteArray × Bool) := (spec_l3Values.f k l0 a1).bind fun t193 => (spec_l3Joined.l0 k (⟨#[]⟩ : ByteArray) t193 t193 (t193.length : Int) 0)
set_option maxHeartbeats 8000000 in
set_option maxRecDepth 100000 in
theorem spec_l3Joined.calls (k : Nat) (A0 : Option Addr) (c0 : Nat) (l0 : List (S105)) (a1 : ByteArray) (r1 : ByteArray) (r2 : Bool) (w : World) (hr0 : Kd.C k105 w A0 l0.length l0) (hc0 : l0.length ≤ c0) (h : spec_l3Joined.f k l0 a1 = some (r1, r2)) :
  Calls Tryz.prog 87 #[.slice A0 l0.length c0, .string a1] w fun e w' => e = .returned (.tuple #[.string r1, .bool r2]) ∧ Below w.heap.size w w' := by
 have HR0 := Aside0.mk hr0
 have HC0 := Aside0.mk hc0
 clear hr0 hc0
 have HB := Aside0.mk (Below.refl w.heap.size w)
 have H := h
 unfold spec_l3Joined.f at H
 clear h
 replace H := mb_ H
 obtain ⟨t193, A3, H⟩ := H
 have H' := Aside0.mk H
 clear H
 go_enter Tryz.func87, Tryz.ntmps87
 go_wp2_with (first | ((with_reducible refine gc_ 113 ?_); refine xgl_ (some 12) Tryz.func113 #[.slice A0 l0.length c0, .string a1] ?_; (with_reducible refine (spec_l3Values.calls k _ _ l0 a1 t193 _ ?side1 ?side2 A3.out).mono ?_); (case side1 => repeat (first | exact HR0.out | (with_reducible refine Kd.C_alloc ?_ _) | (with_reducible refine Kd.C_drewN ?_ _) | (with_reducible refine Kd.C_drew ?_))); (case side2 => exact HC0.out); rintro e w4 ⟨v194, rfl, ho0, hb⟩; refine ⟨_, rfl, ?_⟩; have HO195 := Aside0.mk (Kd.R_lower ho0 (below_size (xw_ HB))); replace HB := xws_ HB hb; (try clear hb); (try clear ho0); obtain ⟨Ao5, co5, eo5⟩ := Kd.R_slice HO195.out; subst eo5))
 go_loopg [6, 15] k (fun kq v6 v15 w' => ∃ (x6_1 : ByteArray) (x15_1 : Int), v6 = .string x6_1 ∧ v15 = .int .i64 x15_1 ∧ Aside0 (spec_l3Joined.l0 kq x6_1 t193 t193 (t193.length : Int) x15_1 = some (r1, r2)) ∧ Aside0 (kq ≤ k) ∧ Aside0 (Kd.R Kd.string 9 w' w.heap.size (fun _ => True) (.slice Ao5 t193.length co5) t193) ∧ Aside0 (Kd.R Kd.string 9 w' w.heap.size (fun _ => True) (.slice Ao5 t193.length co5) t193) ∧ Aside0 (Below w.heap.size w w'))
 case atStart => exact ⟨((⟨#[]⟩ : ByteArray)), (0), me_, me_, H', ⟨Nat.le_refl _⟩, ⟨xr_ HO195⟩, ⟨xr_ HO195⟩, ⟨xw_ HB⟩⟩
 case round =>
  clear H'
  obtain ⟨x6_1, x15_1, rfl, rfl, HA, HK1, HO_7, HO_13, HB⟩ := hrel
  cases gk with
  | zero => exact absurd HA.out (by simp [spec_l3Joined.l0])
  | succ k1 =>
   have H := HA.out
   clear HA
   simp only [spec_l3Joined.l0] at H
   by_cases c6 : x15_1 < (t193.length : Int)
   ·rw [if_pos c6] at H
    have c6b0 := decide_eq_true c6
    clear c6
    replace H := mi_ H
    obtain ⟨c7, H⟩ := H
    have c7b0 := decide_eq_true c7
    clear c7
    replace H := mi_ H
    obtain ⟨c8, H⟩ := H
    have c8b0 := decide_eq_true c8
    clear c8
    by_cases c9 : x15_1 > 0
    ·rw [if_pos c9] at H
     have c9b0 : decide (0 < x15_1) = true := decide_eq_true c9
     clear c9
     replace H := mi_ H
     obtain ⟨c10, H⟩ := H
     have c10b0 := eq_true c10
     have c10b1 := decide_eq_true c10
     try have c10b2 : (9223372036854775807 < x6_1.size + 2) = False := eq_false (Nat.not_lt.2 c10)
     replace H := mi_ H
     obtain ⟨c11, H⟩ := H
     have c11b0 := eq_true c11
     have c11b1 := decide_eq_true c11
     try have c11b2 : (9223372036854775807 < (x6_1 ++ (⟨#[44, 32]⟩ : ByteArray)).size + (rdOf ByteArray.empty t193 x15_1).size) = False := eq_false (Nat.not_lt.2 c11)
     try have c11b3 : (9223372036854775807 < x6_1.size + 2 + (rdOf ByteArray.empty t193 x15_1).size) = False := eq_false (Nat.not_lt.2 (by have z_ := c11; simp only [ByteArray.size_append] at z_; exact z_))
     have H' := Aside0.mk H
     clear H
     have p196 : 0 ≤ (x15_1 : Int) := md_
     have q196 : x15_1 < (t193.length : Int) := md_
     obtain ⟨ad196, e196, hx196_0⟩ := Kd.at_string (Kd.R_reads' HO_13.out).2.2 x15_1 p196 q196
     cases e196
     replace p196 := eq_true p196
     replace q196 := eq_true q196
     go_wp2
     go_roundg k1
     case measure => have := HK1.out; omega
     case rel => exact ⟨((x6_1 ++ (⟨#[44, 32]⟩ : ByteArray)) ++ (rdOf ByteArray.empty t193 x15_1)), (wrap64 (x15_1 + 1)), me_, me_, H', ⟨by have := HK1.out; omega⟩, ⟨xr_ HO_7⟩, ⟨xr_ HO_13⟩, ⟨xw_ HB⟩⟩
    ·rw [if_neg c9] at H
     have c9b0 : decide (0 < x15_1) = false := decide_eq_false c9
     clear c9
     replace H := mi_ H
     obtain ⟨c12, H⟩ := H
     have c12b0 := eq_true c12
     have c12b1 := decide_eq_true c12
     try have c12b2 : (9223372036854775807 < x6_1.size + (rdOf ByteArray.empty t193 x15_1).size) = False := eq_false (Nat.not_lt.2 c12)
     have H' := Aside0.mk H
     clear H
     have p196 : 0 ≤ (x15_1 : Int) := md_
     have q196 : x15_1 < (t193.length : Int) := md_
     obtain ⟨ad196, e196, hx196_0⟩ := Kd.at_string (Kd.R_reads' HO_13.out).2.2 x15_1 p196 q196
     cases e196
     replace p196 := eq_true p196
     replace q196 := eq_true q196
     go_wp2
     go_roundg k1
     case measure => have := HK1.out; omega
     case rel => exact ⟨(x6_1 ++ (rdOf ByteArray.empty t193 x15_1)), (wrap64 (x15_1 + 1)), me_, me_, H', ⟨by have := HK1.out; omega⟩, ⟨xr_ HO_7⟩, ⟨xr_ HO_13⟩, ⟨xw_ HB⟩⟩
   ·rw [if_neg c6] at H
    have c6b0 := decide_eq_false c6
    clear c6
    simp only [Option.some.injEq, Prod.mk.injEq] at H
    obtain ⟨rfl, rfl⟩ := H
    go_wp2
    go_ret2
    exact ⟨mf_, xw_ HB⟩

/-! ### spec_l9Vary: function 48 -/
mutual
def spec_l9Vary.l0 : Nat → Bool → List ByteArray → List ByteArray → Int → Int → Option (List ByteArray × Bool × Bool)
 | 0, _, _, _, _, _ => none
 | k + 1, x9, x10, x28, x29, x30 => if x30 < x29 then (if 0 ≤ x30 then (if x30 < (x28.length : Int) then (if (rdOf ByteArray.empty x28 x30).toList = ([42] : List UInt8) then (spec_l9Vary.l0 k true x10 x28 x29 (wrap64 (x30 + 1))) else ((spec_l3Token.f k (rdOf ByteArray.empty x28 x30)).bind fun t205 => (if t205 = true then ((spec_l1Lower.f (rdOf ByteArray.empty x28 x30)).bind fun t206 => (spec_l9Vary.l1 k x9 x10 t206 0 x28 x29 x30)) else (some (([] : List ByteArray), false, false))))) else (none)) else (none)) else (some (x10, x9, true))
def spec_l9Vary.l1 : Nat → Bool → List ByteArray → ByteArray → Int → List ByteArray → Int → Int → Option (List ByteArray × Bool × Bool)
 | 0, _, _, _, _, _, _, _ => none
 | k + 1, x9, x10, x12, x13, x28, x29, x30 => if x13 < (x10.length : Int) then (if 0 ≤ x13 then (if (Op.bytesLess ((rdOf ByteArray.empty x10 x13).toList) x12.toList) = true then (spec_l9Vary.l1 k x9 x10 x12 (wrap64 (x13 + 1)) x28 x29 x30) else (if (rdOf ByteArray.empty x10 x13).toList = x12.toList then (spec_l9Vary.l0 k x9 x10 x28 x29 (wrap64 (x30 + 1))) else (if x13 ≤ (x10.length : Int) then ((some (x10.take (x13 : Int).toNat : List ByteArray)).bind fun y209 => (if ([] : List ByteArray).length + y209.length < 8796093022208 then ((some (([] : List ByteArray) ++ y209 : List ByteArray)).bind fun y213 => (if y213.length < 8796093022208 then ((some (y213 ++ [x12] : List ByteArray)).bind fun y216 => ((some (x10.drop (x13 : Int).toNat : List ByteArray)).bind fun y219 => (if y216.length + y219.length < 8796093022208 then (spec_l9Vary.l0 k x9 (y216 ++ y219) x28 x29 (wrap64 (x30 + 1))) else (none)))) else (none))) else (none))) else (none)))) else (none)) else (if 0 ≤ x13 then (if x13 ≤ (x10.length : Int) then ((some (x10.take (x13 : Int).toNat : List ByteArray)).bind fun y226 => (if ([] : List ByteArray).length + y226.length < 8796093022208 then ((some (([] : List ByteArray) ++ y226 : List ByteArray)).bind fun y230 => (if y230.length < 8796093022208 then ((some (y230 ++ [x12] : List ByteArray)).bind fun y233 => ((some (x10.drop (x13 : Int).toNat : List ByteArray)).bind fun y236 => (if y233.length + y236.length < 8796093022208 then (spec_l9Vary.l0 k x9 (y233 ++ y236) x28 x29 (wrap64 (x30 + 1))) else (none)))) else (none))) else (none))) else (none)) else (none))
end
def spec_l9Vary.f (k : Nat) (a0_0 : Int) (a0_1 : ByteArray) (l0_2 : List (S105)) (a0_3 : ByteArray) : Option (List ByteArray × Bool × Bool) := (spec_l3Joined.f k l0_2 (⟨#[118, 97, 114, 121]⟩ : ByteArray)).bind fun bt198 => ((spec_l3List.f k bt198.1).bind fun bt200 => (if bt200.2 = true then (spec_l9Vary.l0 k false ([] : List ByteArray) bt200.1 (bt200.1.length : Int) 0) else (some (([] : List ByteArray), false, false))))
set_option maxHeartbeats 8000000 in
set_option maxRecDepth 100000 in
theorem spec_l9Vary.calls (k : Nat) (a0_0 : Int) (a0_1 : ByteArray) (A0_2 : Option Addr) (c0_2 : Nat) (l0_2 : List (S105)) (a0_3 : ByteArray) (r1 : List ByteArray) (r2 : Bool) (r3 : Bool) (w : World) (hr0_2 : Kd.C k105 w A0_2 l0_2.length l0_2) (hc0_2 : l0_2.length ≤ c0_2) (h : spec_l9Vary.f k a0_0 a0_1 l0_2 a0_3 = some (r1, r2, r3)) :
  Calls Tryz.prog 48 #[.agg #[.int .i64 a0_0, .string a0_1, .slice A0_2 l0_2.length c0_2, .string a0_3]] w fun e w' => ∃ v0_ : Value, e = .returned (.tuple #[v0_, .bool r2, .bool r3]) ∧ Kd.R Kd.string 9 w' w.heap.size (fun _ => True) v0_ r1 ∧ Below w.heap.size w w' := by
 have hu54 := Tryz.underlying54
 have HR0_2 := Aside0.mk hr0_2
 have HC0_2 := Aside0.mk hc0_2
 clear hr0_2 hc0_2
 have HB := Aside0.mk (Below.refl w.heap.size w)
 have H := h
 unfold spec_l9Vary.f at H
 clear h
 replace H := mb_ H
 obtain ⟨⟨t198, t199⟩, A2, H⟩ := H
 dsimp only at H
 replace H := mb_ H
 obtain ⟨⟨t200, t201⟩, A3, H⟩ := H
 dsimp only at H
 by_cases c4 : t201 = true
 ·subst c4
  rw [if_pos rfl] at H
  have H' := Aside0.mk H
  clear H
  go_enter Tryz.func48, Tryz.ntmps48
  go_wp2_with (first | ((with_reducible refine gd_ 1 ?_); refine xbe_ (N := 1) (cs := #[.int .i64 a0_0, .string a0_1, .slice A0_2 l0_2.length c0_2, .string a0_3]) (t := 54) ?_; intro gb197 hg w5 hbox hb; have BK197 := Aside0.mk (hbox); have GE197 := xge_ HB hg; replace HB := xws_ HB hb; clear hb hbox hg; have ⟨_, _, _, _, _, _, _, _⟩ := c4_ BK197) | ((with_reducible refine gc_ 87 ?_); refine xgl_ (some 18) Tryz.func87 #[.slice A0_2 l0_2.length c0_2, .string (⟨#[118, 97, 114, 121]⟩ : ByteArray)] ?_; (with_reducible refine (spec_l3Joined.calls k _ _ l0_2 (⟨#[118, 97, 114, 121]⟩ : ByteArray) t198 t199 _ ?side1 ?side2 A2.out).mono ?_); (case side1 => exact xc_ ((Kd.C_below HR0_2.out HB.out))); (case side2 => exact HC0_2.out); rintro e w7 ⟨rfl, hb⟩; refine ⟨_, rfl, ?_⟩; replace BK197 := xbb_ BK197 hb; replace HB := xws_ HB hb; (try clear hb)) | ((with_reducible refine gc_ 88 ?_); refine xgl_ (some 23) Tryz.func88 #[.string t198] ?_; (with_reducible refine (spec_l3List.calls k t198 t200 true _ A3.out).mono ?_); rintro e w8 ⟨v202, rfl, ho0, hb⟩; refine ⟨_, rfl, ?_⟩; have HO203 := Aside0.mk (Kd.R_lower ho0 (below_size (xw_ HB))); replace BK197 := xbb_ BK197 hb; replace HB := xws_ HB hb; (try clear hb); (try clear ho0); obtain ⟨Ao9, co9, eo9⟩ := Kd.R_slice HO203.out; subst eo9))
  go_loopg [9, 10, 30] k (fun kq v9 v10 v30 w' => ∃ (x9_1 : Bool) (x10_1 : List ByteArray) (x30_1 : Int), v9 = .bool x9_1 ∧ v30 = .int .i64 x30_1 ∧ Aside0 (spec_l9Vary.l0 kq x9_1 x10_1 t200 (t200.length : Int) x30_1 = some (r1, r2, r3)) ∧ Aside0 (kq ≤ k) ∧ Aside0 (Kd.R Kd.string 9 w' w.heap.size (fun k_ => some k_ ≠ ((.slice Ao9 t200.length co9) : Value).ownBlock) v10 x10_1) ∧ Aside0 (Kd.R Kd.string 9 w' w.heap.size (fun k_ => some k_ ≠ (v10 : Value).ownBlock) (.slice Ao9 t200.length co9) t200) ∧ Aside0 (w'.heap[gb197]? = some (.cells #[.int .i64 a0_0, .string a0_1, (.slice A0_2 l0_2.length c0_2), .string a0_3] 54 (0, 0))) ∧ Aside0 (Below w.heap.size w w'))
  case atStart => exact ⟨(false), (([] : List ByteArray)), (0), me_, me_, H', ⟨Nat.le_refl _⟩, ⟨by first | exact Kd.R_nil _ _ _ _ _ | exact Kd.N_nil _ _ _ _ _ | exact Kd.V_nil _ _ _ _ _ | exact Kd.Q_nil _ _ _ _ _ | exact Kd.S_nil _ _ _ _ _⟩, ⟨xrt_ (Kd.R_mono HO203.out (fun _ hk => (by simp [Value.ownBlock])))⟩, ⟨xb_ BK197⟩, ⟨xw_ HB⟩⟩
  case round =>
   clear H'
   try clear c4
   obtain ⟨x9_1, x10_1, x30_1, rfl, rfl, HA, HK1, HO_10, HO_28, BK197, HB⟩ := hrel
   cases gk with
   | zero => exact absurd HA.out (by simp [spec_l9Vary.l0])
   | succ k1 =>
    have H := HA.out
    clear HA
    simp only [spec_l9Vary.l0] at H
    by_cases c10 : x30_1 < (t200.length : Int)
    ·rw [if_pos c10] at H
     have c10b0 := decide_eq_true c10
     clear c10
     replace H := mi_ H
     obtain ⟨c11, H⟩ := H
     have c11b0 := decide_eq_true c11
     clear c11
     replace H := mi_ H
     obtain ⟨c12, H⟩ := H
     have c12b0 := decide_eq_true c12
     clear c12
     by_cases c13 : (rdOf ByteArray.empty t200 x30_1).toList = ([42] : List UInt8)
     ·rw [if_pos c13] at H
      have c13b0 : ((rdOf ByteArray.empty t200 x30_1).toList == ([42] : List UInt8)) = true := beq_iff_eq.mpr c13
      have c13b1 : ((rdOf ByteArray.empty t200 x30_1).toList != ([42] : List UInt8)) = false := bne_eq_false_iff_eq.mpr c13
      clear c13
      have H' := Aside0.mk H
      clear H
      have p204 : 0 ≤ (x30_1 : Int) := md_
      have q204 : x30_1 < (t200.length : Int) := md_
      obtain ⟨ad204, e204, hx204_0⟩ := Kd.at_string (Kd.R_reads' HO_28.out).2.2 x30_1 p204 q204
      cases e204
      replace p204 := eq_true p204
      replace q204 := eq_true q204
      go_wp2
      go_roundg k1
      case measure => have := HK1.out; omega
      case rel => exact ⟨(true), (x10_1), (wrap64 (x30_1 + 1)), me_, me_, H', ⟨by have := HK1.out; omega⟩, ⟨xr_ HO_10⟩, ⟨xr_ HO_28⟩, ⟨xb_ BK197⟩, ⟨xw_ HB⟩⟩
     ·rw [if_neg c13] at H
      have c13b0 : ((rdOf ByteArray.empty t200 x30_1).toList == ([42] : List UInt8)) = false := beq_eq_false_iff_ne.mpr c13
      have c13b1 : ((rdOf ByteArray.empty t200 x30_1).toList != ([42] : List UInt8)) = true := bne_iff_ne.mpr c13
      replace H := mb_ H
      obtain ⟨t205, A14, H⟩ := H
      by_cases c15 : t205 = true
      ·subst c15
       rw [if_pos rfl] at H
       replace H := mb_ H
       obtain ⟨t206, A16, H⟩ := H
       have H' := Aside0.mk H
       clear H
       have p204 : 0 ≤ (x30_1 : Int) := md_
       have q204 : x30_1 < (t200.length : Int) := md_
       obtain ⟨ad204, e204, hx204_0⟩ := Kd.at_string (Kd.R_reads' HO_28.out).2.2 x30_1 p204 q204
       cases e204
       replace p204 := eq_true p204
       replace q204 := eq_true q204
       go_wp2_with (first | ((with_reducible refine gc_ 89 ?_); refine xgl_ (some 37) Tryz.func89 #[.string (rdOf ByteArray.empty t200 x30_1)] ?_; (with_reducible refine (spec_l3Token.calls k1 (rdOf ByteArray.empty t200 x30_1) true _ A14.out).mono ?_); rintro e w' ⟨rfl, ⟨nd, rfl⟩⟩; refine ⟨_, rfl, ?_⟩) | ((with_reducible refine gc_ 90 ?_); refine xgl_ (some 40) Tryz.func90 #[.string (rdOf ByteArray.empty t200 x30_1)] ?_; (with_reducible refine (spec_l1Lower.calls (rdOf ByteArray.empty t200 x30_1) t206 _ A16.out).mono ?_); rintro e w17 ⟨rfl, hb⟩; refine ⟨_, rfl, ?_⟩; replace HO_10 := xrb_ HO_10 hb; replace HO_28 := xrb_ HO_28 hb; replace BK197 := xbb_ BK197 hb; replace HB := xws_ HB hb; (try clear hb)))
       go_loopg [13] k1 (fun kq v13 w' => ∃ (x13_2 : Int), v13 = .int .i64 x13_2 ∧ Aside0 (spec_l9Vary.l1 kq x9_1 x10_1 t206 x13_2 t200 (t200.length : Int) x30_1 = some (r1, r2, r3)) ∧ Aside0 (kq ≤ k1) ∧ Aside0 (Kd.R Kd.string 9 w' w.heap.size (fun k_ => some k_ ≠ ((.slice (some ad204) t200.length co9) : Value).ownBlock) u10 x10_1) ∧ Aside0 (Kd.R Kd.string 9 w' w.heap.size (fun k_ => some k_ ≠ (u10 : Value).ownBlock) (.slice (some ad204) t200.length co9) t200) ∧ Aside0 (w'.heap[gb197]? = some (.cells #[.int .i64 a0_0, .string a0_1, (.slice A0_2 l0_2.length c0_2), .string a0_3] 54 (0, 0))) ∧ Aside0 (Below w.heap.size w w'))
       case atStart => exact ⟨(0), me_, H', ⟨Nat.le_refl _⟩, ⟨xr_ HO_10⟩, ⟨xr_ HO_28⟩, ⟨xb_ BK197⟩, ⟨xw_ HB⟩⟩
       case round =>
        clear H'
        try clear c4
        try clear c10
        try clear c10b0
        try clear c11
        try clear c11b0
        try clear c12
        try clear c12b0
        try clear c13
        try clear c13b0
        try clear c13b1
        try clear c15
        try clear hx204_0
        try clear p204
        try clear q204
        obtain ⟨x13_2, rfl, HA, HK2, HO_10, HO_28, BK197, HB⟩ := hrel
        cases gk with
        | zero => exact absurd HA.out (by simp [spec_l9Vary.l1])
        | succ k2 =>
         have H := HA.out
         clear HA
         simp only [spec_l9Vary.l1] at H
         by_cases c18 : x13_2 < (x10_1.length : Int)
         ·rw [if_pos c18] at H
          have c18b0 := decide_eq_true c18
          clear c18
          replace H := mi_ H
          obtain ⟨c19, H⟩ := H
          have c19b0 := decide_eq_true c19
          clear c19
          by_cases c20 : (Op.bytesLess ((rdOf ByteArray.empty x10_1 x13_2).toList) t206.toList) = true
          ·rw [if_pos c20] at H
           have c20b0 : (Op.bytesLess ((rdOf ByteArray.empty x10_1 x13_2).toList) t206.toList) = true := c20
           clear c20
           have H' := Aside0.mk H
           clear H
           obtain ⟨Ao21, co21, eo21⟩ := Kd.R_slice HO_10.out
           subst eo21
           have p207 : 0 ≤ (x13_2 : Int) := md_
           have q207 : x13_2 < (x10_1.length : Int) := md_
           obtain ⟨ad207, e207, hx207_0⟩ := Kd.at_string (Kd.R_reads' HO_10.out).2.2 x13_2 p207 q207
           cases e207
           replace p207 := eq_true p207
           replace q207 := eq_true q207
           go_wp2
           go_roundg k2
           case measure => have := HK1.out; have := HK2.out; omega
           case rel => exact ⟨(wrap64 (x13_2 + 1)), me_, H', ⟨by have := HK1.out; have := HK2.out; omega⟩, ⟨xr_ HO_10⟩, ⟨xr_ HO_28⟩, ⟨xb_ BK197⟩, ⟨xw_ HB⟩⟩
          ·rw [if_neg c20] at H
           have c20b0 : (Op.bytesLess ((rdOf ByteArray.empty x10_1 x13_2).toList) t206.toList) = false := by simpa using c20
           clear c20
           by_cases c22 : (rdOf ByteArray.empty x10_1 x13_2).toList = t206.toList
           ·rw [if_pos c22] at H
            have c22b0 : ((rdOf ByteArray.empty x10_1 x13_2).toList == t206.toList) = true := beq_iff_eq.mpr c22
            have c22b1 : ((rdOf ByteArray.empty x10_1 x13_2).toList != t206.toList) = false := bne_eq_false_iff_eq.mpr c22
            clear c22
            have H' := Aside0.mk H
            clear H
            obtain ⟨Ao23, co23, eo23⟩ := Kd.R_slice HO_10.out
            subst eo23
            have p207 : 0 ≤ (x13_2 : Int) := md_
            have q207 : x13_2 < (x10_1.length : Int) := md_
            obtain ⟨ad207, e207, hx207_0⟩ := Kd.at_string (Kd.R_reads' HO_10.out).2.2 x13_2 p207 q207
            cases e207
            replace p207 := eq_true p207
            replace q207 := eq_true q207
            have p208 : 0 ≤ (x13_2 : Int) := md_
            have q208 : x13_2 < (x10_1.length : Int) := md_
            obtain ⟨ad208, e208, hx208_0⟩ := Kd.at_string (Kd.R_reads' HO_10.out).2.2 x13_2 p208 q208
            obtain rfl : ad207 = ad208 := (by injection e208)
            replace p208 := eq_true p208
            replace q208 := eq_true q208
            go_wp2
            go_roundg k2
            case measure => have := HK1.out; have := HK2.out; omega
            case rel => exact ⟨(x9_1), (x10_1), (wrap64 (x30_1 + 1)), me_, me_, H', ⟨by have := HK1.out; have := HK2.out; omega⟩, ⟨xr_ HO_10⟩, ⟨xr_ HO_28⟩, ⟨xb_ BK197⟩, ⟨xw_ HB⟩⟩
           ·rw [if_neg c22] at H
            have c22b0 : ((rdOf ByteArray.empty x10_1 x13_2).toList == t206.toList) = false := beq_eq_false_iff_ne.mpr c22
            have c22b1 : ((rdOf ByteArray.empty x10_1 x13_2).toList != t206.toList) = true := bne_iff_ne.mpr c22
            have c24b0 := eq_true (md_ : 0 ≤ x13_2)
            replace H := mi_ H
            obtain ⟨c25, H⟩ := H
            have c25b0 := eq_true c25
            have c25b1 := decide_eq_true c25
            clear c25
            obtain ⟨y209, hy209⟩ : ∃ y_ : List ByteArray, y_ = (x10_1.take (x13_2 : Int).toNat) := ⟨_, rfl⟩
            replace H : (if ([] : List ByteArray).length + y209.length < 8796093022208 then ((some (([] : List ByteArray) ++ y209 : List ByteArray)).bind fun y213 => (if y213.length < 8796093022208 then ((some (y213 ++ [t206] : List ByteArray)).bind fun y216 => ((some (x10_1.drop (x13_2 : Int).toNat : List ByteArray)).bind fun y219 => (if y216.length + y219.length < 8796093022208 then (spec_l9Vary.l0 k2 x9_1 (y216 ++ y219) t200 (t200.length : Int) (wrap64 (x30_1 + 1))) else (none)))) else (none))) else (none)) = some (r1, r2, r3) := by first | (rw [hy209]; with_reducible exact H) | (have H2_ := (Option.bind_some _ _).symm.trans H; rw [hy209]; with_reducible exact H2_) | (have H2_ := (Option.bind_some _ _).symm.trans H; with_reducible exact H2_) | with_reducible exact H | (rw [hy209]; exact H) | exact H
            have Ny209 := Aside0.mk hy209
            clear hy209
            replace H := mi_ H
            obtain ⟨c26, H⟩ := H
            have LMc26 := Aside0.mk c26
            clear c26
            obtain ⟨y213, hy213⟩ : ∃ y_ : List ByteArray, y_ = (([] : List ByteArray) ++ y209) := ⟨_, rfl⟩
            replace H : (if y213.length < 8796093022208 then ((some (y213 ++ [t206] : List ByteArray)).bind fun y216 => ((some (x10_1.drop (x13_2 : Int).toNat : List ByteArray)).bind fun y219 => (if y216.length + y219.length < 8796093022208 then (spec_l9Vary.l0 k2 x9_1 (y216 ++ y219) t200 (t200.length : Int) (wrap64 (x30_1 + 1))) else (none)))) else (none)) = some (r1, r2, r3) := by first | (rw [hy213]; with_reducible exact H) | (have H2_ := (Option.bind_some _ _).symm.trans H; rw [hy213]; with_reducible exact H2_) | (have H2_ := (Option.bind_some _ _).symm.trans H; with_reducible exact H2_) | with_reducible exact H | (rw [hy213]; exact H) | exact H
            have Ny213 := Aside0.mk hy213
            clear hy213
            replace H := mi_ H
            obtain ⟨c27, H⟩ := H
            have LMc27 := Aside0.mk c27
            clear c27
            obtain ⟨y216, hy216⟩ : ∃ y_ : List ByteArray, y_ = (y213 ++ [t206]) := ⟨_, rfl⟩
            replace H : ((some (x10_1.drop (x13_2 : Int).toNat : List ByteArray)).bind fun y219 => (if y216.length + y219.length < 8796093022208 then (spec_l9Vary.l0 k2 x9_1 (y216 ++ y219) t200 (t200.length : Int) (wrap64 (x30_1 + 1))) else (none))) = some (r1, r2, r3) := by first | (rw [hy216]; with_reducible exact H) | (have H2_ := (Option.bind_some _ _).symm.trans H; rw [hy216]; with_reducible exact H2_) | (have H2_ := (Option.bind_some _ _).symm.trans H; with_reducible exact H2_) | with_reducible exact H | (rw [hy216]; exact H) | exact H
            have Ny216 := Aside0.mk hy216
            clear hy216
            have c28b0 := eq_true (md_ : 0 ≤ x13_2)
            have c29b0 := eq_true (md_ : x13_2 ≤ (x10_1.length : Int))
            obtain ⟨y219, hy219⟩ : ∃ y_ : List ByteArray, y_ = (x10_1.drop (x13_2 : Int).toNat) := ⟨_, rfl⟩
            replace H : (if y216.length + y219.length < 8796093022208 then (spec_l9Vary.l0 k2 x9_1 (y216 ++ y219) t200 (t200.length : Int) (wrap64 (x30_1 + 1))) else (none)) = some (r1, r2, r3) := by first | (rw [hy219]; with_reducible exact H) | (have H2_ := (Option.bind_some _ _).symm.trans H; rw [hy219]; with_reducible exact H2_) | (have H2_ := (Option.bind_some _ _).symm.trans H; with_reducible exact H2_) | with_reducible exact H | (rw [hy219]; exact H) | exact H
            have Ny219 := Aside0.mk hy219
            clear hy219
            replace H := mi_ H
            obtain ⟨c30, H⟩ := H
            have LMc30 := Aside0.mk c30
            clear c30
            obtain ⟨y223, hy223⟩ : ∃ y_ : List ByteArray, y_ = (y216 ++ y219) := ⟨_, rfl⟩
            replace H : (spec_l9Vary.l0 k2 x9_1 y223 t200 (t200.length : Int) (wrap64 (x30_1 + 1))) = some (r1, r2, r3) := by first | (rw [hy223]; with_reducible exact H) | (have H2_ := (Option.bind_some _ _).symm.trans H; rw [hy223]; with_reducible exact H2_) | (have H2_ := (Option.bind_some _ _).symm.trans H; with_reducible exact H2_) | with_reducible exact H | (rw [hy223]; exact H) | exact H
            have Ny223 := Aside0.mk hy223
            clear hy223
            have H' := Aside0.mk H
            clear H
            obtain ⟨Ao31, co31, eo31⟩ := Kd.R_slice HO_10.out
            subst eo31
            have p207 : 0 ≤ (x13_2 : Int) := md_
            have q207 : x13_2 < (x10_1.length : Int) := md_
            obtain ⟨ad207, e207, hx207_0⟩ := Kd.at_string (Kd.R_reads' HO_10.out).2.2 x13_2 p207 q207
            cases e207
            replace p207 := eq_true p207
            replace q207 := eq_true q207
            have p208 : 0 ≤ (x13_2 : Int) := md_
            have q208 : x13_2 < (x10_1.length : Int) := md_
            obtain ⟨ad208, e208, hx208_0⟩ := Kd.at_string (Kd.R_reads' HO_10.out).2.2 x13_2 p208 q208
            obtain rfl : ad207 = ad208 := (by injection e208)
            replace p208 := eq_true p208
            replace q208 := eq_true q208
            have q32 : (x13_2 : Int) ≤ ((x10_1.length : Int) : Int) := md_
            obtain ⟨i032, hi032, _, hsz32, _⟩ := info_parts info9
            have hroom32 : x10_1.length ≤ co31 := (Kd.R_reads' HO_10.out).2.1
            have hC32 : Kd.C Kd.string _ (some ad207) x10_1.length x10_1 := (Kd.R_reads' HO_10.out).2.2
            have hcut32 := cut_to (P := Tryz.prog) 50 9 .i64 Tryz.underlying50 hi032 (some ad207) x10_1.length co31 x13_2 (md_) q32 hroom32
            have hr32 := Kd.C_take (m := (x13_2 : Int).toNat) hC32 (by omega)
            have hy32 : y209.length = (x13_2 : Int).toNat := (by rw [Ny209.out, List.length_take]; omega)
            rw [← Ny209.out] at hr32
            rw [← hy32] at hcut32
            have HR212 := Aside0.mk hr32
            have HC212 := Aside0.mk (show y209.length ≤ co31 from by omega)
            clear hr32 hC32 hroom32 hi032 hsz32
            have KY32 := Aside0.mk hy32
            clear hy32
            have KL32 := Aside0.mk (show (x13_2 : Int).toNat ≤ x10_1.length from by omega)
            replace q32 := eq_true q32
            go_wp2_with (first | ((with_reducible refine gate_builtin (b := .append) (xs := #[.tmp 67, .tmp 70]) rfl ?_); at_builtin; refine Kd.R_append_rows Kd.string (w0 := w) w.heap.size rfl (.tmp 67) (.tmp 70) 50 9 (.string ⟨#[]⟩) 16 rfl Tryz.underlying50 info9 rfl (by decide) (by omega) (.slice none 0 0) ([] : List ByteArray) y209 _ _ _ (fun k_ => some k_ ≠ (.slice (some ad207) x10_1.length co31 : Value).ownBlock ∧ some k_ ≠ (.slice (some ad204) t200.length co9 : Value).ownBlock) (fun _ => False) rfl rfl ?aO ?aR (fun _ _ h => h) (fun _ h => h.elim) ?aF ?aB ?aS ?aL ?_; (case aR => repeat (first | exact (by repeat (first | (with_reducible exact HR212.out) | (with_reducible refine Kd.C_alloc ?_ _) | (with_reducible refine Kd.C_drewN ?_ _) | (with_reducible refine Kd.C_drew ?_) | exact HR212.out)) | (with_reducible refine Kd.C_alloc ?_ _) | (with_reducible refine Kd.C_drewN ?_ _) | (with_reducible refine Kd.C_drew ?_))); (case aB => exact (xw_ HB)); (case aF => exact (fun k_ hk => ⟨Kd.fresh' (Kd.R_lt (xr_ HO_10)) k_ hk, Kd.fresh' (Kd.R_lt (xr_ HO_28)) k_ hk⟩)); (case aO => exact ((Kd.R_nil _ _ _ _ (fun k_ => some k_ ≠ (.slice (some ad207) x10_1.length co31 : Value).ownBlock ∧ some k_ ≠ (.slice (some ad204) t200.length co9 : Value).ownBlock)))); (case aS => exact (below_size (xw_ HB))); (case aL => have := LMc26.out; omega); intro v214 w33 ho hb hg hat; rw [← Ny213.out] at ho; replace HO_28 := Aside0.mk (Kd.R_after (Kd.R_apart_nil (xr_ HO_28)) hg hat); replace BK197 := Aside0.mk (blk_grown (g := gb197) (o := .cells #[.int .i64 a0_0, .string a0_1, .slice A0_2 l0_2.length c0_2, .string a0_3] 54 (0, 0)) (xb_ BK197) hg (by simp [Value.ownBlock])); replace HB := Aside0.mk (hb); replace HR212 := Aside0.mk ((show Kd.C Kd.string w33 (some ad207) y209.length y209 from by rw [Ny209.out]; exact Kd.C_take (m := (x13_2 : Int).toNat) ((Kd.R_reads' (Kd.R_after (Kd.R_apart_nil (xr_ HO_10)) hg hat)).2.2) KL32.out)); replace HO_10 := Aside0.mk (Kd.R_after (Kd.R_apart_nil (xr_ HO_10)) hg hat); have HO215 := Aside0.mk (ho); clear ho hb hg hat) | ((with_reducible refine gate_builtin (b := .append) (xs := #[.tmp 72, .tmp 74]) rfl ?_); at_builtin; refine Kd.R_append Kd.string (w0 := w) w.heap.size rfl (.tmp 72) (.tmp 74) 50 9 (.string ⟨#[]⟩) 16 rfl Tryz.underlying50 info9 rfl (by decide) (by omega) v214 y213 t206 [.string t206] (fun k_ => some k_ ≠ (.slice (some ad207) x10_1.length co31 : Value).ownBlock ∧ some k_ ≠ (.slice (some ad204) t200.length co9 : Value).ownBlock) (fun _ => False) rfl rfl ?aP (fun _ hk => hk.elim) ?aF ?aO ?aB ?aS ?aL ?_; (case aP => exact rfl); (case aB => exact (xw_ HB)); (case aF => exact (fun k_ hk => ⟨Kd.fresh' (Kd.R_lt (xr_ HO_10)) k_ hk, Kd.fresh' (Kd.R_lt (xr_ HO_28)) k_ hk⟩)); (case aO => exact (xr_ HO215)); (case aS => exact (below_size (xw_ HB))); (case aL => have := LMc27.out; omega); intro v217 w34 ho hb hg hat; rw [← Ny216.out] at ho; replace HO_28 := Aside0.mk (Kd.R_after (ok := (fun k_ => some k_ ≠ (.slice (some ad207) x10_1.length co31 : Value).ownBlock)) (xr_ HO_28) hg hat); replace BK197 := Aside0.mk (blk_grown (g := gb197) (o := .cells #[.int .i64 a0_0, .string a0_1, .slice A0_2 l0_2.length c0_2, .string a0_3] 54 (0, 0)) (xb_ BK197) hg (Kd.R_ne HO215.out BK197.out (by decide))); replace HB := Aside0.mk (hb); replace HR212 := Aside0.mk ((show Kd.C Kd.string w34 (some ad207) y209.length y209 from by rw [Ny209.out]; exact Kd.C_take (m := (x13_2 : Int).toNat) ((Kd.R_reads' (Kd.R_after (ok := (fun k_ => some k_ ≠ (.slice (some ad204) t200.length co9 : Value).ownBlock)) (xr_ HO_10) hg hat)).2.2) KL32.out)); replace HO_10 := Aside0.mk (Kd.R_after (ok := (fun k_ => some k_ ≠ (.slice (some ad204) t200.length co9 : Value).ownBlock)) (xr_ HO_10) hg hat); have HO218 := Aside0.mk (ho); clear HO215; clear ho hb hg hat; have q35 : (x13_2 : Int) ≤ ((x10_1.length : Int) : Int) := md_; obtain ⟨i035, hi035, _, hsz35, _⟩ := info_parts info9; have hroom35 : x10_1.length ≤ co31 := (Kd.R_reads' HO_10.out).2.1; have hC35 : Kd.C Kd.string _ (some ad207) x10_1.length x10_1 := (Kd.R_reads' HO_10.out).2.2; have q035 : (0 : Int) ≤ (x13_2 : Int) := md_; have hcut35 := cut_from (P := Tryz.prog) 50 9 .i64 Tryz.underlying50 hi035 1 hsz35 (some ad207) x10_1.length co31 x13_2 q035 q35; have hr35 := Kd.C_drop (m := (x13_2 : Int).toNat) (c := co31) hC35 (by omega) hroom35; obtain ⟨A35, hA35⟩ : ∃ A1, A1 = (if co31 = (x13_2 : Int).toNat then (some ad207) else ((some ad207) : Option Addr).map (·.add ((x13_2 : Int).toNat * 1))) := ⟨_, rfl⟩; obtain ⟨c35, hc35⟩ : ∃ c1, c1 = co31 - (x13_2 : Int).toNat := ⟨_, rfl⟩; have hy35 : y219.length = x10_1.length - (x13_2 : Int).toNat := (by rw [Ny219.out, List.length_drop] <;> omega); rw [show (x10_1).drop (x13_2 : Int).toNat = y219 from Ny219.out.symm] at hr35; replace hr35 : Kd.C Kd.string _ A35 y219.length y219 := (by rw [hA35]; exact hr35); rw [← hy35, ← hA35, ← hc35] at hcut35; have HR222 := Aside0.mk hr35; have HC222 := Aside0.mk (show y219.length ≤ c35 from by rw [hy35, hc35]; exact Nat.sub_le_sub_right hroom35 _); clear hr35 hC35 hroom35 hi035 hsz35 hc35; have KY35 := Aside0.mk hy35; have KA35 := Aside0.mk hA35; clear hy35 hA35; have KL35 := Aside0.mk (show (x13_2 : Int).toNat ≤ x10_1.length from by omega); replace q35 := eq_true q35) | ((with_reducible refine gate_builtin (b := .append) (xs := #[.tmp 76, .tmp 79]) rfl ?_); at_builtin; refine Kd.R_append_rows Kd.string (w0 := w) w.heap.size rfl (.tmp 76) (.tmp 79) 50 9 (.string ⟨#[]⟩) 16 rfl Tryz.underlying50 info9 rfl (by decide) (by omega) v217 y216 y219 _ _ _ (fun k_ => some k_ ≠ (.slice (some ad207) x10_1.length co31 : Value).ownBlock ∧ some k_ ≠ (.slice (some ad204) t200.length co9 : Value).ownBlock) (fun _ => False) rfl rfl ?aO ?aR (fun _ _ h => h) (fun _ h => h.elim) ?aF ?aB ?aS ?aL ?_; (case aR => repeat (first | exact (by repeat (first | (with_reducible exact HR222.out) | (with_reducible refine Kd.C_alloc ?_ _) | (with_reducible refine Kd.C_drewN ?_ _) | (with_reducible refine Kd.C_drew ?_) | exact HR222.out)) | (with_reducible refine Kd.C_alloc ?_ _) | (with_reducible refine Kd.C_drewN ?_ _) | (with_reducible refine Kd.C_drew ?_))); (case aB => exact (xw_ HB)); (case aF => exact (fun k_ hk => ⟨Kd.fresh' (Kd.R_lt (xr_ HO_10)) k_ hk, Kd.fresh' (Kd.R_lt (xr_ HO_28)) k_ hk⟩)); (case aO => exact (xr_ HO218)); (case aS => exact (below_size (xw_ HB))); (case aL => have := LMc30.out; omega); intro v224 w36 ho hb hg hat; rw [← Ny223.out] at ho; replace HO_28 := Aside0.mk (Kd.R_after (ok := (fun k_ => some k_ ≠ (.slice (some ad207) x10_1.length co31 : Value).ownBlock)) (xr_ HO_28) hg hat); replace BK197 := Aside0.mk (blk_grown (g := gb197) (o := .cells #[.int .i64 a0_0, .string a0_1, .slice A0_2 l0_2.length c0_2, .string a0_3] 54 (0, 0)) (xb_ BK197) hg (Kd.R_ne HO218.out BK197.out (by decide))); replace HB := Aside0.mk (hb); replace HR212 := Aside0.mk ((show Kd.C Kd.string w36 (some ad207) y209.length y209 from by rw [Ny209.out]; exact Kd.C_take (m := (x13_2 : Int).toNat) ((Kd.R_reads' (Kd.R_after (ok := (fun k_ => some k_ ≠ (.slice (some ad204) t200.length co9 : Value).ownBlock)) (xr_ HO_10) hg hat)).2.2) KL32.out)); replace HR222 := Aside0.mk ((show Kd.C Kd.string w36 A35 y219.length y219 from by rw [Ny219.out, KA35.out]; exact Kd.C_drop (m := (x13_2 : Int).toNat) (c := co31) ((Kd.R_reads' (Kd.R_after (ok := (fun k_ => some k_ ≠ (.slice (some ad204) t200.length co9 : Value).ownBlock)) (xr_ HO_10) hg hat)).2.2) KL35.out ((Kd.R_reads' (Kd.R_after (ok := (fun k_ => some k_ ≠ (.slice (some ad204) t200.length co9 : Value).ownBlock)) (xr_ HO_10) hg hat)).2.1))); replace HO_10 := Aside0.mk (Kd.R_after (ok := (fun k_ => some k_ ≠ (.slice (some ad204) t200.length co9 : Value).ownBlock)) (xr_ HO_10) hg hat); have HO225 := Aside0.mk (ho); clear HO218; clear ho hb hg hat))
            go_roundg k2
            case measure => have := HK1.out; have := HK2.out; omega
            case rel => exact ⟨(x9_1), (y223), (wrap64 (x30_1 + 1)), me_, me_, H', ⟨by have := HK1.out; have := HK2.out; omega⟩, ⟨xrt_ (Kd.R_mono HO225.out (fun _ hk => hk.2))⟩, ⟨xrt_ (Kd.R_mono HO_28.out (fun _ hk => hk.2))⟩, ⟨xb_ BK197⟩, ⟨xw_ HB⟩⟩
         ·rw [if_neg c18] at H
          have c18b0 := decide_eq_false c18
          clear c18
          replace H := mi_ H
          obtain ⟨c37, H⟩ := H
          have c37b0 := eq_true c37
          have c37b1 := decide_eq_true c37
          clear c37
          replace H := mi_ H
          obtain ⟨c38, H⟩ := H
          have c38b0 := eq_true c38
          have c38b1 := decide_eq_true c38
          clear c38
          obtain ⟨y226, hy226⟩ : ∃ y_ : List ByteArray, y_ = (x10_1.take (x13_2 : Int).toNat) := ⟨_, rfl⟩
          replace H : (if ([] : List ByteArray).length + y226.length < 8796093022208 then ((some (([] : List ByteArray) ++ y226 : List ByteArray)).bind fun y230 => (if y230.length < 8796093022208 then ((some (y230 ++ [t206] : List ByteArray)).bind fun y233 => ((some (x10_1.drop (x13_2 : Int).toNat : List ByteArray)).bind fun y236 => (if y233.length + y236.length < 8796093022208 then (spec_l9Vary.l0 k2 x9_1 (y233 ++ y236) t200 (t200.length : Int) (wrap64 (x30_1 + 1))) else (none)))) else (none))) else (none)) = some (r1, r2, r3) := by first | (rw [hy226]; with_reducible exact H) | (have H2_ := (Option.bind_some _ _).symm.trans H; rw [hy226]; with_reducible exact H2_) | (have H2_ := (Option.bind_some _ _).symm.trans H; with_reducible exact H2_) | with_reducible exact H | (rw [hy226]; exact H) | exact H
          have Ny226 := Aside0.mk hy226
          clear hy226
          replace H := mi_ H
          obtain ⟨c39, H⟩ := H
          have LMc39 := Aside0.mk c39
          clear c39
          obtain ⟨y230, hy230⟩ : ∃ y_ : List ByteArray, y_ = (([] : List ByteArray) ++ y226) := ⟨_, rfl⟩
          replace H : (if y230.length < 8796093022208 then ((some (y230 ++ [t206] : List ByteArray)).bind fun y233 => ((some (x10_1.drop (x13_2 : Int).toNat : List ByteArray)).bind fun y236 => (if y233.length + y236.length < 8796093022208 then (spec_l9Vary.l0 k2 x9_1 (y233 ++ y236) t200 (t200.length : Int) (wrap64 (x30_1 + 1))) else (none)))) else (none)) = some (r1, r2, r3) := by first | (rw [hy230]; with_reducible exact H) | (have H2_ := (Option.bind_some _ _).symm.trans H; rw [hy230]; with_reducible exact H2_) | (have H2_ := (Option.bind_some _ _).symm.trans H; with_reducible exact H2_) | with_reducible exact H | (rw [hy230]; exact H) | exact H
          have Ny230 := Aside0.mk hy230
          clear hy230
          replace H := mi_ H
          obtain ⟨c40, H⟩ := H
          have LMc40 := Aside0.mk c40
          clear c40
          obtain ⟨y233, hy233⟩ : ∃ y_ : List ByteArray, y_ = (y230 ++ [t206]) := ⟨_, rfl⟩
          replace H : ((some (x10_1.drop (x13_2 : Int).toNat : List ByteArray)).bind fun y236 => (if y233.length + y236.length < 8796093022208 then (spec_l9Vary.l0 k2 x9_1 (y233 ++ y236) t200 (t200.length : Int) (wrap64 (x30_1 + 1))) else (none))) = some (r1, r2, r3) := by first | (rw [hy233]; with_reducible exact H) | (have H2_ := (Option.bind_some _ _).symm.trans H; rw [hy233]; with_reducible exact H2_) | (have H2_ := (Option.bind_some _ _).symm.trans H; with_reducible exact H2_) | with_reducible exact H | (rw [hy233]; exact H) | exact H
          have Ny233 := Aside0.mk hy233
          clear hy233
          have c41b0 := eq_true (md_ : 0 ≤ x13_2)
          have c42b0 := eq_true (md_ : x13_2 ≤ (x10_1.length : Int))
          obtain ⟨y236, hy236⟩ : ∃ y_ : List ByteArray, y_ = (x10_1.drop (x13_2 : Int).toNat) := ⟨_, rfl⟩
          replace H : (if y233.length + y236.length < 8796093022208 then (spec_l9Vary.l0 k2 x9_1 (y233 ++ y236) t200 (t200.length : Int) (wrap64 (x30_1 + 1))) else (none)) = some (r1, r2, r3) := by first | (rw [hy236]; with_reducible exact H) | (have H2_ := (Option.bind_some _ _).symm.trans H; rw [hy236]; with_reducible exact H2_) | (have H2_ := (Option.bind_some _ _).symm.trans H; with_reducible exact H2_) | with_reducible exact H | (rw [hy236]; exact H) | exact H
          have Ny236 := Aside0.mk hy236
          clear hy236
          replace H := mi_ H
          obtain ⟨c43, H⟩ := H
          have LMc43 := Aside0.mk c43
          clear c43
          obtain ⟨y240, hy240⟩ : ∃ y_ : List ByteArray, y_ = (y233 ++ y236) := ⟨_, rfl⟩
          replace H : (spec_l9Vary.l0 k2 x9_1 y240 t200 (t200.length : Int) (wrap64 (x30_1 + 1))) = some (r1, r2, r3) := by first | (rw [hy240]; with_reducible exact H) | (have H2_ := (Option.bind_some _ _).symm.trans H; rw [hy240]; with_reducible exact H2_) | (have H2_ := (Option.bind_some _ _).symm.trans H; with_reducible exact H2_) | with_reducible exact H | (rw [hy240]; exact H) | exact H
          have Ny240 := Aside0.mk hy240
          clear hy240
          have H' := Aside0.mk H
          clear H
          obtain ⟨Ao44, co44, eo44⟩ := Kd.R_slice HO_10.out
          subst eo44
          have q45 : (x13_2 : Int) ≤ ((x10_1.length : Int) : Int) := md_
          obtain ⟨i045, hi045, _, hsz45, _⟩ := info_parts info9
          have hroom45 : x10_1.length ≤ co44 := (Kd.R_reads' HO_10.out).2.1
          have hC45 : Kd.C Kd.string _ Ao44 x10_1.length x10_1 := (Kd.R_reads' HO_10.out).2.2
          have hcut45 := cut_to (P := Tryz.prog) 50 9 .i64 Tryz.underlying50 hi045 Ao44 x10_1.length co44 x13_2 (md_) q45 hroom45
          have hr45 := Kd.C_take (m := (x13_2 : Int).toNat) hC45 (by omega)
          have hy45 : y226.length = (x13_2 : Int).toNat := (by rw [Ny226.out, List.length_take]; omega)
          rw [← Ny226.out] at hr45
          rw [← hy45] at hcut45
          have HR229 := Aside0.mk hr45
          have HC229 := Aside0.mk (show y226.length ≤ co44 from by omega)
          clear hr45 hC45 hroom45 hi045 hsz45
          have KY45 := Aside0.mk hy45
          clear hy45
          have KL45 := Aside0.mk (show (x13_2 : Int).toNat ≤ x10_1.length from by omega)
          replace q45 := eq_true q45
          go_wp2_with (first | ((with_reducible refine gate_builtin (b := .append) (xs := #[.tmp 67, .tmp 70]) rfl ?_); at_builtin; refine Kd.R_append_rows Kd.string (w0 := w) w.heap.size rfl (.tmp 67) (.tmp 70) 50 9 (.string ⟨#[]⟩) 16 rfl Tryz.underlying50 info9 rfl (by decide) (by omega) (.slice none 0 0) ([] : List ByteArray) y226 _ _ _ (fun k_ => some k_ ≠ (.slice Ao44 x10_1.length co44 : Value).ownBlock ∧ some k_ ≠ (.slice (some ad204) t200.length co9 : Value).ownBlock) (fun _ => False) rfl rfl ?aO ?aR (fun _ _ h => h) (fun _ h => h.elim) ?aF ?aB ?aS ?aL ?_; (case aR => repeat (first | exact (by repeat (first | (with_reducible exact HR229.out) | (with_reducible refine Kd.C_alloc ?_ _) | (with_reducible refine Kd.C_drewN ?_ _) | (with_reducible refine Kd.C_drew ?_) | exact HR229.out)) | (with_reducible refine Kd.C_alloc ?_ _) | (with_reducible refine Kd.C_drewN ?_ _) | (with_reducible refine Kd.C_drew ?_))); (case aB => exact (xw_ HB)); (case aF => exact (fun k_ hk => ⟨Kd.fresh' (Kd.R_lt (xr_ HO_10)) k_ hk, Kd.fresh' (Kd.R_lt (xr_ HO_28)) k_ hk⟩)); (case aO => exact ((Kd.R_nil _ _ _ _ (fun k_ => some k_ ≠ (.slice Ao44 x10_1.length co44 : Value).ownBlock ∧ some k_ ≠ (.slice (some ad204) t200.length co9 : Value).ownBlock)))); (case aS => exact (below_size (xw_ HB))); (case aL => have := LMc39.out; omega); intro v231 w46 ho hb hg hat; rw [← Ny230.out] at ho; replace HO_28 := Aside0.mk (Kd.R_after (Kd.R_apart_nil (xr_ HO_28)) hg hat); replace BK197 := Aside0.mk (blk_grown (g := gb197) (o := .cells #[.int .i64 a0_0, .string a0_1, .slice A0_2 l0_2.length c0_2, .string a0_3] 54 (0, 0)) (xb_ BK197) hg (by simp [Value.ownBlock])); replace HB := Aside0.mk (hb); replace HR229 := Aside0.mk ((show Kd.C Kd.string w46 Ao44 y226.length y226 from by rw [Ny226.out]; exact Kd.C_take (m := (x13_2 : Int).toNat) ((Kd.R_reads' (Kd.R_after (Kd.R_apart_nil (xr_ HO_10)) hg hat)).2.2) KL45.out)); replace HO_10 := Aside0.mk (Kd.R_after (Kd.R_apart_nil (xr_ HO_10)) hg hat); have HO232 := Aside0.mk (ho); clear ho hb hg hat) | ((with_reducible refine gate_builtin (b := .append) (xs := #[.tmp 72, .tmp 74]) rfl ?_); at_builtin; refine Kd.R_append Kd.string (w0 := w) w.heap.size rfl (.tmp 72) (.tmp 74) 50 9 (.string ⟨#[]⟩) 16 rfl Tryz.underlying50 info9 rfl (by decide) (by omega) v231 y230 t206 [.string t206] (fun k_ => some k_ ≠ (.slice Ao44 x10_1.length co44 : Value).ownBlock ∧ some k_ ≠ (.slice (some ad204) t200.length co9 : Value).ownBlock) (fun _ => False) rfl rfl ?aP (fun _ hk => hk.elim) ?aF ?aO ?aB ?aS ?aL ?_; (case aP => exact rfl); (case aB => exact (xw_ HB)); (case aF => exact (fun k_ hk => ⟨Kd.fresh' (Kd.R_lt (xr_ HO_10)) k_ hk, Kd.fresh' (Kd.R_lt (xr_ HO_28)) k_ hk⟩)); (case aO => exact (xr_ HO232)); (case aS => exact (below_size (xw_ HB))); (case aL => have := LMc40.out; omega); intro v234 w47 ho hb hg hat; rw [← Ny233.out] at ho; replace HO_28 := Aside0.mk (Kd.R_after (ok := (fun k_ => some k_ ≠ (.slice Ao44 x10_1.length co44 : Value).ownBlock)) (xr_ HO_28) hg hat); replace BK197 := Aside0.mk (blk_grown (g := gb197) (o := .cells #[.int .i64 a0_0, .string a0_1, .slice A0_2 l0_2.length c0_2, .string a0_3] 54 (0, 0)) (xb_ BK197) hg (Kd.R_ne HO232.out BK197.out (by decide))); replace HB := Aside0.mk (hb); replace HR229 := Aside0.mk ((show Kd.C Kd.string w47 Ao44 y226.length y226 from by rw [Ny226.out]; exact Kd.C_take (m := (x13_2 : Int).toNat) ((Kd.R_reads' (Kd.R_after (ok := (fun k_ => some k_ ≠ (.slice (some ad204) t200.length co9 : Value).ownBlock)) (xr_ HO_10) hg hat)).2.2) KL45.out)); replace HO_10 := Aside0.mk (Kd.R_after (ok := (fun k_ => some k_ ≠ (.slice (some ad204) t200.length co9 : Value).ownBlock)) (xr_ HO_10) hg hat); have HO235 := Aside0.mk (ho); clear HO232; clear ho hb hg hat; have q48 : (x13_2 : Int) ≤ ((x10_1.length : Int) : Int) := md_; obtain ⟨i048, hi048, _, hsz48, _⟩ := info_parts info9; have hroom48 : x10_1.length ≤ co44 := (Kd.R_reads' HO_10.out).2.1; have hC48 : Kd.C Kd.string _ Ao44 x10_1.length x10_1 := (Kd.R_reads' HO_10.out).2.2; have q048 : (0 : Int) ≤ (x13_2 : Int) := md_; have hcut48 := cut_from (P := Tryz.prog) 50 9 .i64 Tryz.underlying50 hi048 1 hsz48 Ao44 x10_1.length co44 x13_2 q048 q48; have hr48 := Kd.C_drop (m := (x13_2 : Int).toNat) (c := co44) hC48 (by omega) hroom48; obtain ⟨A48, hA48⟩ : ∃ A1, A1 = (if co44 = (x13_2 : Int).toNat then Ao44 else (Ao44 : Option Addr).map (·.add ((x13_2 : Int).toNat * 1))) := ⟨_, rfl⟩; obtain ⟨c48, hc48⟩ : ∃ c1, c1 = co44 - (x13_2 : Int).toNat := ⟨_, rfl⟩; have hy48 : y236.length = x10_1.length - (x13_2 : Int).toNat := (by rw [Ny236.out, List.length_drop] <;> omega); rw [show (x10_1).drop (x13_2 : Int).toNat = y236 from Ny236.out.symm] at hr48; replace hr48 : Kd.C Kd.string _ A48 y236.length y236 := (by rw [hA48]; exact hr48); rw [← hy48, ← hA48, ← hc48] at hcut48; have HR239 := Aside0.mk hr48; have HC239 := Aside0.mk (show y236.length ≤ c48 from by rw [hy48, hc48]; exact Nat.sub_le_sub_right hroom48 _); clear hr48 hC48 hroom48 hi048 hsz48 hc48; have KY48 := Aside0.mk hy48; have KA48 := Aside0.mk hA48; clear hy48 hA48; have KL48 := Aside0.mk (show (x13_2 : Int).toNat ≤ x10_1.length from by omega); replace q48 := eq_true q48) | ((with_reducible refine gate_builtin (b := .append) (xs := #[.tmp 76, .tmp 79]) rfl ?_); at_builtin; refine Kd.R_append_rows Kd.string (w0 := w) w.heap.size rfl (.tmp 76) (.tmp 79) 50 9 (.string ⟨#[]⟩) 16 rfl Tryz.underlying50 info9 rfl (by decide) (by omega) v234 y233 y236 _ _ _ (fun k_ => some k_ ≠ (.slice Ao44 x10_1.length co44 : Value).ownBlock ∧ some k_ ≠ (.slice (some ad204) t200.length co9 : Value).ownBlock) (fun _ => False) rfl rfl ?aO ?aR (fun _ _ h => h) (fun _ h => h.elim) ?aF ?aB ?aS ?aL ?_; (case aR => repeat (first | exact (by repeat (first | (with_reducible exact HR239.out) | (with_reducible refine Kd.C_alloc ?_ _) | (with_reducible refine Kd.C_drewN ?_ _) | (with_reducible refine Kd.C_drew ?_) | exact HR239.out)) | (with_reducible refine Kd.C_alloc ?_ _) | (with_reducible refine Kd.C_drewN ?_ _) | (with_reducible refine Kd.C_drew ?_))); (case aB => exact (xw_ HB)); (case aF => exact (fun k_ hk => ⟨Kd.fresh' (Kd.R_lt (xr_ HO_10)) k_ hk, Kd.fresh' (Kd.R_lt (xr_ HO_28)) k_ hk⟩)); (case aO => exact (xr_ HO235)); (case aS => exact (below_size (xw_ HB))); (case aL => have := LMc43.out; omega); intro v241 w49 ho hb hg hat; rw [← Ny240.out] at ho; replace HO_28 := Aside0.mk (Kd.R_after (ok := (fun k_ => some k_ ≠ (.slice Ao44 x10_1.length co44 : Value).ownBlock)) (xr_ HO_28) hg hat); replace BK197 := Aside0.mk (blk_grown (g := gb197) (o := .cells #[.int .i64 a0_0, .string a0_1, .slice A0_2 l0_2.length c0_2, .string a0_3] 54 (0, 0)) (xb_ BK197) hg (Kd.R_ne HO235.out BK197.out (by decide))); replace HB := Aside0.mk (hb); replace HR229 := Aside0.mk ((show Kd.C Kd.string w49 Ao44 y226.length y226 from by rw [Ny226.out]; exact Kd.C_take (m := (x13_2 : Int).toNat) ((Kd.R_reads' (Kd.R_after (ok := (fun k_ => some k_ ≠ (.slice (some ad204) t200.length co9 : Value).ownBlock)) (xr_ HO_10) hg hat)).2.2) KL45.out)); replace HR239 := Aside0.mk ((show Kd.C Kd.string w49 A48 y236.length y236 from by rw [Ny236.out, KA48.out]; exact Kd.C_drop (m := (x13_2 : Int).toNat) (c := co44) ((Kd.R_reads' (Kd.R_after (ok := (fun k_ => some k_ ≠ (.slice (some ad204) t200.length co9 : Value).ownBlock)) (xr_ HO_10) hg hat)).2.2) KL48.out ((Kd.R_reads' (Kd.R_after (ok := (fun k_ => some k_ ≠ (.slice (some ad204) t200.length co9 : Value).ownBlock)) (xr_ HO_10) hg hat)).2.1))); replace HO_10 := Aside0.mk (Kd.R_after (ok := (fun k_ => some k_ ≠ (.slice (some ad204) t200.length co9 : Value).ownBlock)) (xr_ HO_10) hg hat); have HO242 := Aside0.mk (ho); clear HO235; clear ho hb hg hat))
          go_roundg k2
          case measure => have := HK1.out; have := HK2.out; omega
          case rel => exact ⟨(x9_1), (y240), (wrap64 (x30_1 + 1)), me_, me_, H', ⟨by have := HK1.out; have := HK2.out; omega⟩, ⟨xrt_ (Kd.R_mono HO242.out (fun _ hk => hk.2))⟩, ⟨xrt_ (Kd.R_mono HO_28.out (fun _ hk => hk.2))⟩, ⟨xb_ BK197⟩, ⟨xw_ HB⟩⟩
      ·replace c15 := Bool.eq_false_iff.mpr c15
       subst c15
       rw [if_neg (show ¬ (false = true) by decide)] at H
       simp only [Option.some.injEq, Prod.mk.injEq] at H
       obtain ⟨rfl, rfl, rfl⟩ := H
       have p204 : 0 ≤ (x30_1 : Int) := md_
       have q204 : x30_1 < (t200.length : Int) := md_
       obtain ⟨ad204, e204, hx204_0⟩ := Kd.at_string (Kd.R_reads' HO_28.out).2.2 x30_1 p204 q204
       cases e204
       replace p204 := eq_true p204
       replace q204 := eq_true q204
       go_wp2_with (first | ((with_reducible refine gc_ 89 ?_); refine xgl_ (some 37) Tryz.func89 #[.string (rdOf ByteArray.empty t200 x30_1)] ?_; (with_reducible refine (spec_l3Token.calls k1 (rdOf ByteArray.empty t200 x30_1) false _ A14.out).mono ?_); rintro e w' ⟨rfl, ⟨nd, rfl⟩⟩; refine ⟨_, rfl, ?_⟩))
       go_ret3
       exact ⟨_, mf_, by first | exact Kd.R_nil _ _ _ _ _ | exact Kd.N_nil _ _ _ _ _ | exact Kd.V_nil _ _ _ _ _ | exact Kd.Q_nil _ _ _ _ _ | exact Kd.S_nil _ _ _ _ _, xw_ HB⟩
    ·rw [if_neg c10] at H
     have c10b0 := decide_eq_false c10
     clear c10
     simp only [Option.some.injEq, Prod.mk.injEq] at H
     obtain ⟨rfl, rfl, rfl⟩ := H
     go_wp2
     go_ret3
     exact ⟨_, mf_, by (with_reducible repeat (first | apply Kd.R_alloc | apply Kd.R_drewN | apply Kd.R_drew)); exact Kd.R_mono HO_10.out (fun _ hk => trivial), xw_ HB⟩
 ·replace c4 := Bool.eq_false_iff.mpr c4
  subst c4
  rw [if_neg (show ¬ (false = true) by decide)] at H
  simp only [Option.some.injEq, Prod.mk.injEq] at H
  obtain ⟨rfl, rfl, rfl⟩ := H
  go_enter Tryz.func48, Tryz.ntmps48
  go_wp2_with (first | ((with_reducible refine gd_ 1 ?_); refine xbe_ (N := 1) (cs := #[.int .i64 a0_0, .string a0_1, .slice A0_2 l0_2.length c0_2, .string a0_3]) (t := 54) ?_; intro gb197 hg w50 hbox hb; have BK197 := Aside0.mk (hbox); have GE197 := xge_ HB hg; replace HB := xws_ HB hb; clear hb hbox hg; have ⟨_, _, _, _, _, _, _, _⟩ := c4_ BK197) | ((with_reducible refine gc_ 87 ?_); refine xgl_ (some 18) Tryz.func87 #[.slice A0_2 l0_2.length c0_2, .string (⟨#[118, 97, 114, 121]⟩ : ByteArray)] ?_; (with_reducible refine (spec_l3Joined.calls k _ _ l0_2 (⟨#[118, 97, 114, 121]⟩ : ByteArray) t198 t199 _ ?side1 ?side2 A2.out).mono ?_); (case side1 => exact xc_ ((Kd.C_below HR0_2.out HB.out))); (case side2 => exact HC0_2.out); rintro e w52 ⟨rfl, hb⟩; refine ⟨_, rfl, ?_⟩; replace BK197 := xbb_ BK197 hb; replace HB := xws_ HB hb; (try clear hb)) | ((with_reducible refine gc_ 88 ?_); refine xgl_ (some 23) Tryz.func88 #[.string t198] ?_; (with_reducible refine (spec_l3List.calls k t198 t200 false _ A3.out).mono ?_); rintro e w53 ⟨v202, rfl, ho0, hb⟩; refine ⟨_, rfl, ?_⟩; have HO203 := Aside0.mk (Kd.R_lower ho0 (below_size (xw_ HB))); replace BK197 := xbb_ BK197 hb; replace HB := xws_ HB hb; (try clear hb); (try clear ho0)))
  go_ret3
  exact ⟨_, mf_, by first | exact Kd.R_nil _ _ _ _ _ | exact Kd.N_nil _ _ _ _ _ | exact Kd.V_nil _ _ _ _ _ | exact Kd.Q_nil _ _ _ _ _ | exact Kd.S_nil _ _ _ _ _, xw_ HB⟩

/-! ### spec_l4Reason: function 85 -/
def spec_l4Reason.f (k : Nat) (a0 : ByteArray) : Option (Bool) := (spec_l3Printed.f k a0).bind fun t243 => (if t243 = true then (some (decide ((a0.size : Int) ≤ 40))) else (some false))
set_option maxHeartbeats 8000000 in
set_option maxRecDepth 100000 in
theorem spec_l4Reason.calls (k : Nat) (a0 : ByteArray) (r : Bool) (w : World) (h : spec_l4Reason.f k a0 = some r) :
  Calls Tryz.prog 85 #[.string a0] w fun e w' => e = .returned (.bool r) ∧ Drawn0 w w' := by
 have H := h
 unfold spec_l4Reason.f at H
 clear h
 replace H := mb_ H
 obtain ⟨t243, A2, H⟩ := H
 by_cases c3 : t243 = true
 ·subst c3
  rw [if_pos rfl] at H
  obtain rfl := Option.some.inj H
  go_enter Tryz.func85, Tryz.ntmps85
  go_wp2_with (first | ((with_reducible refine gc_ 138 ?_); refine xgl_ (some 4) Tryz.func138 #[.string a0] ?_; (with_reducible refine (spec_l3Printed.calls k a0 true _ A2.out).mono ?_); rintro e w' ⟨rfl, ⟨nd, rfl⟩⟩; refine ⟨_, rfl, ?_⟩))
  go_ret
  exact ⟨by first | rfl | (simp; done) | (simp [*]; done), by repeat (first | exact Drawn0.refl _ | apply Drawn0.step)⟩
 ·replace c3 := Bool.eq_false_iff.mpr c3
  subst c3
  rw [if_neg (show ¬ (false = true) by decide)] at H
  obtain rfl := Option.some.inj H
  go_enter Tryz.func85, Tryz.ntmps85
  go_wp2_with (first | ((with_reducible refine gc_ 138 ?_); refine xgl_ (some 4) Tryz.func138 #[.string a0] ?_; (with_reducible refine (spec_l3Printed.calls k a0 false _ A2.out).mono ?_); rintro e w' ⟨rfl, ⟨nd, rfl⟩⟩; refine ⟨_, rfl, ?_⟩))
  go_ret
  exact ⟨by first | rfl | (simp; done) | (simp [*]; done), by repeat (first | exact Drawn0.refl _ | apply Drawn0.step)⟩

end Go.Proofs.YtpggepjfhgalkaaGreatDoor.PFnExactPickItem
