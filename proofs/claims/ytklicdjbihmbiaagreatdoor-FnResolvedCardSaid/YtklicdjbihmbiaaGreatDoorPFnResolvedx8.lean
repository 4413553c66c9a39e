-- Written by a program of this project (xprint.py) out of the translation; Lean checks it.
import Derived.Test.YtklicdjbihmbiaaGreatDoorPFnResolvedx0
import Derived.Test.YtklicdjbihmbiaaGreatDoorPFnResolvedx3
import Derived.Test.YtklicdjbihmbiaaGreatDoorPFnResolvedx5
import Derived.Test.YtklicdjbihmbiaaGreatDoorPFnResolvedx7
namespace Go.Proofs.YtklicdjbihmbiaaGreatDoor.PFnResolved
open Go.RowKit Go.Proofs.YtklicdjbihmbiaaGreatDoorW.PrintWords Go.Proofs.YtklicdjbihmbiaaGreatDoorW.PrintLast Go.Proofs.YtklicdjbihmbiaaGreatDoorW.PrintMore
attribute [local go_sem] max2_int min2_int max_two min_two max_three min_three max_four min_four   -- for this text's walks alone
set_option linter.unusedVariables false
set_option linter.unusedSimpArgs false

theorem own_len_ (A : Option Addr) (n m c : Nat) : (Value.slice A n c).ownBlock = (Value.slice A m c).ownBlock := by cases A <;> rfl
/-! ### impl_dropDots: function 15 -/
mutual
def impl_dropDots.l0 : Nat → List ByteArray → List ByteArray → List ByteArray → Int → Int → Option (ByteArray)
 | 0, _, _, _, _, _ => none
 | k + 1, x3, x4, x11, x12, x13 => if x13 < x12 then (if 0 ≤ x13 then (if x13 < (x11.length : Int) then (if (rdOf ByteArray.empty x11 x13).toList = ([46] : List UInt8) then (impl_dropDots.j1 k x3 x4 (rdOf ByteArray.empty x11 x13) (x13 == (wrap64 ((x4.length : Int) - 1))) x11 x12 x13 ((rdOf ByteArray.empty x11 x13).toList == ([46] : List UInt8))) else (impl_dropDots.j1 k x3 x4 (rdOf ByteArray.empty x11 x13) (x13 == (wrap64 ((x4.length : Int) - 1))) x11 x12 x13 ((rdOf ByteArray.empty x11 x13).toList == ([46, 46] : List UInt8)))) else (none)) else (none)) else ((strings_Join.f x3 (⟨#[47]⟩ : ByteArray)).bind fun t293 => (if 1 + t293.size ≤ 9223372036854775807 then (some ((⟨#[47]⟩ : ByteArray) ++ t293)) else (none)))
def impl_dropDots.j1 : Nat → List ByteArray → List ByteArray → ByteArray → Bool → List ByteArray → Int → Int → Bool → Option (ByteArray)
 | 0, _, _, _, _, _, _, _, _ => none
 | k + 1, x3, x4, x6, x7, x11, x12, x13, x28 => if x28 = true then (if x6.toList = ([46, 46] : List UInt8) then (impl_dropDots.j2 k x3 x4 x7 x11 x12 x13 (decide ((x3.length : Int) > 0))) else (impl_dropDots.j2 k x3 x4 x7 x11 x12 x13 false)) else (if x3.length < 8796093022208 then (impl_dropDots.l0 k (x3 ++ [x6]) x4 x11 x12 (wrap64 (x13 + 1))) else (none))
def impl_dropDots.j2 : Nat → List ByteArray → List ByteArray → Bool → List ByteArray → Int → Int → Bool → Option (ByteArray)
 | 0, _, _, _, _, _, _, _ => none
 | k + 1, x3, x4, x7, x11, x12, x13, x37 => if x37 = true then (if 0 ≤ (wrap64 ((x3.length : Int) - 1)) then (if (wrap64 ((x3.length : Int) - 1)) ≤ (x3.length : Int) then ((some (x3.take ((wrap64 ((x3.length : Int) - 1)) : Int).toNat : List ByteArray)).bind fun y295 => (if x7 = true then (if y295.length < 8796093022208 then (impl_dropDots.l0 k (y295 ++ [(⟨#[]⟩ : ByteArray)]) x4 x11 x12 (wrap64 (x13 + 1))) else (none)) else (impl_dropDots.l0 k y295 x4 x11 x12 (wrap64 (x13 + 1))))) else (none)) else (none)) else (if x7 = true then (if x3.length < 8796093022208 then (impl_dropDots.l0 k (x3 ++ [(⟨#[]⟩ : ByteArray)]) x4 x11 x12 (wrap64 (x13 + 1))) else (none)) else (impl_dropDots.l0 k x3 x4 x11 x12 (wrap64 (x13 + 1))))
end
def impl_dropDots.f (k : Nat) (a0 : ByteArray) : Option (ByteArray) := if 1 ≤ (a0.size : Int) then ((strings_Split.f (a0.extract 1 a0.size) (⟨#[47]⟩ : ByteArray)).bind fun t290 => (impl_dropDots.l0 k ([] : List ByteArray) t290 t290 (t290.length : Int) 0)) else (none)
theorem impl_dropDots.mono_l : ∀ k, (∀ y0 y1 y2 y3 y4, LeO (impl_dropDots.l0 k y0 y1 y2 y3 y4) (impl_dropDots.l0 (k + 1) y0 y1 y2 y3 y4)) ∧ (∀ y0 y1 y2 y3 y4 y5 y6 y7, LeO (impl_dropDots.j1 k y0 y1 y2 y3 y4 y5 y6 y7) (impl_dropDots.j1 (k + 1) y0 y1 y2 y3 y4 y5 y6 y7)) ∧ (∀ y0 y1 y2 y3 y4 y5 y6, LeO (impl_dropDots.j2 k y0 y1 y2 y3 y4 y5 y6) (impl_dropDots.j2 (k + 1) y0 y1 y2 y3 y4 y5 y6))
 | 0 => ⟨fun _ _ _ _ _ r h => by simp [impl_dropDots.l0] at h, fun _ _ _ _ _ _ _ _ r h => by simp [impl_dropDots.j1] at h, fun _ _ _ _ _ _ _ r h => by simp [impl_dropDots.j2] at h⟩
 | k + 1 => by
  obtain ⟨ih0, ih1, ih2⟩ := impl_dropDots.mono_l k
  refine ⟨?_, ?_, ?_⟩
  ·intro y0 y1 y2 y3 y4
   unfold impl_dropDots.l0
   repeat' first
   | (with_reducible exact ih0 _ _ _ _ _)
   | (with_reducible exact ih1 _ _ _ _ _ _ _ _)
   | (with_reducible exact ih2 _ _ _ _ _ _ _)
   | (with_reducible exact LeO.refl _)
   | (with_reducible exact LeO.none _)
   | (with_reducible refine LeO.ite ?_ ?_)
   | (with_reducible refine LeO.bind ?_ (fun _ => ?_))
   | exact ih0 _ _ _ _ _
   | exact ih1 _ _ _ _ _ _ _ _
   | exact ih2 _ _ _ _ _ _ _
   | exact LeO.none _
   | refine LeO.ite ?_ ?_
   | refine LeO.bind ?_ (fun _ => ?_)
  ·intro y0 y1 y2 y3 y4 y5 y6 y7
   unfold impl_dropDots.j1
   repeat' first
   | (with_reducible exact ih0 _ _ _ _ _)
   | (with_reducible exact ih1 _ _ _ _ _ _ _ _)
   | (with_reducible exact ih2 _ _ _ _ _ _ _)
   | (with_reducible exact LeO.refl _)
   | (with_reducible exact LeO.none _)
   | (with_reducible refine LeO.ite ?_ ?_)
   | (with_reducible refine LeO.bind ?_ (fun _ => ?_))
   | exact ih0 _ _ _ _ _
   | exact ih1 _ _ _ _ _ _ _ _
   | exact ih2 _ _ _ _ _ _ _
   | exact LeO.none _
   | refine LeO.ite ?_ ?_
   | refine LeO.bind ?_ (fun _ => ?_)
  ·intro y0 y1 y2 y3 y4 y5 y6
   unfold impl_dropDots.j2
   repeat' first
   | (with_reducible exact ih0 _ _ _ _ _)
   | (with_reducible exact ih1 _ _ _ _ _ _ _ _)
   | (with_reducible exact ih2 _ _ _ _ _ _ _)
   | (with_reducible exact LeO.refl _)
   | (with_reducible exact LeO.none _)
   | (with_reducible refine LeO.ite ?_ ?_)
   | (with_reducible refine LeO.bind ?_ (fun _ => ?_))
   | exact ih0 _ _ _ _ _
   | exact ih1 _ _ _ _ _ _ _ _
   | exact ih2 _ _ _ _ _ _ _
   | exact LeO.none _
   | refine LeO.ite ?_ ?_
   | refine LeO.bind ?_ (fun _ => ?_)
theorem impl_dropDots.mono : ∀ a0 k, LeO (impl_dropDots.f k a0) (impl_dropDots.f (k + 1) a0) := by
 intro a0 k
 obtain ⟨ih0, ih1, ih2⟩ := impl_dropDots.mono_l k
 unfold impl_dropDots.f
 repeat' first
   | (with_reducible exact ih0 _ _ _ _ _)
   | (with_reducible exact ih1 _ _ _ _ _ _ _ _)
   | (with_reducible exact ih2 _ _ _ _ _ _ _)
   | (with_reducible exact LeO.refl _)
   | (with_reducible exact LeO.none _)
   | (with_reducible refine LeO.ite ?_ ?_)
   | (with_reducible refine LeO.bind ?_ (fun _ => ?_))
   | exact ih0 _ _ _ _ _
   | exact ih1 _ _ _ _ _ _ _ _
   | exact ih2 _ _ _ _ _ _ _
   | exact LeO.none _
   | refine LeO.ite ?_ ?_
   | refine LeO.bind ?_ (fun _ => ?_)
set_option maxHeartbeats 8000000 in
set_option maxRecDepth 100000 in
theorem impl_dropDots.calls (k : Nat) (a0 : ByteArray) (r : ByteArray) (w : World) (h : impl_dropDots.f k a0 = some r) (hT_ : TabOk w) :
  Calls Tryz.prog 15 #[.string a0] w fun e w' => e = .returned (.string r) ∧ Below w.heap.size w w' := by
 have HTB_ := Aside0.mk hT_
 clear hT_
 have HB := Aside0.mk (Below.refl w.heap.size w)
 have H : (if 1 ≤ (a0.size : Int) then ((strings_Split.f (a0.extract 1 a0.size) (⟨#[47]⟩ : ByteArray)).bind fun t290 => (impl_dropDots.l0 k ([] : List ByteArray) t290 t290 (t290.length : Int) 0)) else (none)) = some r := h
 clear h
 by_cases c2 : 1 ≤ (a0.size : Int)
 ·rw [if_pos c2] at H
  have c2b0 := eq_true c2
  have c2b1 : decide (1 ≤ (a0.size : Int)) = true := decide_eq_true c2
  clear c2
  replace H := Option.bind_eq_some_iff.mp H
  obtain ⟨t290, A30, H⟩ := H
  replace H : (impl_dropDots.l0 k ([] : List ByteArray) t290 t290 (t290.length : Int) 0) = some r := H
  have A3 := Aside0.mk A30
  clear A30
  have H' := Aside0.mk H
  clear H
  go_enter Tryz.func15, Tryz.ntmps15
  go_wp2_with (first | ((with_reducible refine gate_callee (f := 33) rfl ?_); refine xgl_ (some 10) Tryz.func33 #[.string (a0.extract 1 a0.size), .string (⟨#[47]⟩ : ByteArray)] ?_; (with_reducible refine (strings_Split.calls (a0.extract 1 a0.size) (⟨#[47]⟩ : ByteArray) t290 _ A3.out (HTB_.out.below (by first | (with_reducible exact Below.refl _ _) | (repeat (first | (with_reducible first | exact HB.out | exact Below.refl _ _ | apply below_alloc | apply pw_below_drewN | apply below_drew1) | exact HB.out)) | (repeat (first | exact Below.refl _ _ | apply below_alloc | apply pw_below_drewN | apply below_drew1))))).mono ?_); rintro e w4 ⟨v291, rfl, ho0, hb⟩; refine ⟨_, rfl, ?_⟩; have HO292 := Aside0.mk (Kd.R_lower ho0 (below_size (xw_ HB))); replace HB := xws_ HB hb; (try clear hb); (try clear hb2); (try clear hk); (try clear hi); (try clear ho0); obtain ⟨Ao5, co5, eo5⟩ := Kd.R_slice HO292.out; subst eo5))
  go_loopg [3, 13] k (fun kq v3 v13 w' => ∃ (x3_1 : List ByteArray) (x13_1 : Int), v13 = .int .i64 x13_1 ∧ Aside0 (impl_dropDots.l0 kq x3_1 t290 t290 (t290.length : Int) x13_1 = some r) ∧ Aside0 (kq ≤ k) ∧ Aside0 (Kd.R Kd.string 9 w' w.heap.size (fun k_ => some k_ ≠ ((.slice Ao5 t290.length co5) : Value).ownBlock ∧ some k_ ≠ ((.slice Ao5 t290.length co5) : Value).ownBlock) v3 x3_1) ∧ Aside0 (Kd.R Kd.string 9 w' w.heap.size (fun k_ => some k_ ≠ (v3 : Value).ownBlock) (.slice Ao5 t290.length co5) t290) ∧ Aside0 (Kd.R Kd.string 9 w' w.heap.size (fun k_ => some k_ ≠ (v3 : Value).ownBlock) (.slice Ao5 t290.length co5) t290) ∧ Aside0 (Below w.heap.size w w'))
  case atStart => exact ⟨(([] : List ByteArray)), (0), (by first | rfl | (simp; done) | (simp [*]; done)), H', ⟨Nat.le_refl _⟩, ⟨by first | exact Kd.R_nil _ _ _ _ _ | exact Kd.N_nil _ _ _ _ _ | exact Kd.V_nil _ _ _ _ _ | exact Kd.Q_nil _ _ _ _ _ | exact Kd.S_nil _ _ _ _ _⟩, ⟨xrt_ (Kd.R_mono HO292.out (fun _ hk => (by simp [Value.ownBlock])))⟩, ⟨xrt_ (Kd.R_mono HO292.out (fun _ hk => (by simp [Value.ownBlock])))⟩, ⟨xw_ HB⟩⟩
  case round =>
   clear H'
   try clear c1
   try clear c2
   try clear c2b0
   try clear c2b1
   try clear p2
   try clear c3
   obtain ⟨x3_1, x13_1, rfl, HA, HK1, HO_3, HO_4, HO_11, HB⟩ := hrel
   cases gk with
   | zero => exact absurd HA.out (by simp [impl_dropDots.l0])
   | succ k1 =>
    have H := HA.out
    clear HA
    simp only [impl_dropDots.l0] at H
    by_cases c6 : x13_1 < (t290.length : Int)
    ·rw [if_pos c6] at H
     have c6b0 : decide (x13_1 < (t290.length : Int)) = true := decide_eq_true c6
     clear c6
     by_cases c7 : 0 ≤ x13_1
     ·rw [if_pos c7] at H
      have c7b0 : decide (0 ≤ x13_1) = true := decide_eq_true c7
      clear c7
      by_cases c8 : x13_1 < (t290.length : Int)
      ·rw [if_pos c8] at H
       have c8b0 : decide (x13_1 < (t290.length : Int)) = true := decide_eq_true c8
       clear c8
       have HC9 := Aside0.mk H
       clear H
       have p294 : 0 ≤ (x13_1 : Int) := of_decide_eq_true (by first | (with_reducible assumption) | assumption)
       have q294 : x13_1 < (t290.length : Int) := of_decide_eq_true (by first | (with_reducible assumption) | assumption)
       obtain ⟨ad294, e294, hx294_0⟩ := Kd.at_string (Kd.R_reads' HO_11.out).2.2 x13_1 p294 q294
       cases e294
       replace p294 := eq_true p294
       replace q294 := eq_true q294
       go_upto_if 28 with (fail)
       go_cut [28] (fun v28 wc => ∃ (kq : Nat) (x28_8 : Bool), v28 = .bool x28_8 ∧ Aside0 (impl_dropDots.j1 kq x3_1 t290 (rdOf ByteArray.empty t290 x13_1) (x13_1 == (wrap64 ((t290.length : Int) - 1))) t290 (t290.length : Int) x13_1 x28_8 = some r) ∧ Aside0 (kq ≤ k1) ∧ Aside0 (Kd.R Kd.string 9 wc w.heap.size (fun k_ => some k_ ≠ ((.slice (some ad294) t290.length co5) : Value).ownBlock ∧ some k_ ≠ ((.slice (some ad294) t290.length co5) : Value).ownBlock) u3 x3_1) ∧ Aside0 (Kd.R Kd.string 9 wc w.heap.size (fun k_ => some k_ ≠ (u3 : Value).ownBlock) (.slice (some ad294) t290.length co5) t290) ∧ Aside0 (Kd.R Kd.string 9 wc w.heap.size (fun k_ => some k_ ≠ (u3 : Value).ownBlock) (.slice (some ad294) t290.length co5) t290) ∧ Aside0 (Below w.heap.size w wc))
       case first =>
        have H := HC9.out
        clear HC9
        by_cases c10 : (rdOf ByteArray.empty t290 x13_1).toList = ([46] : List UInt8)
        ·rw [if_pos c10] at H
         have c10b0 : ((rdOf ByteArray.empty t290 x13_1).toList == ([46] : List UInt8)) = true := beq_iff_eq.mpr c10
         have c10b1 : ((rdOf ByteArray.empty t290 x13_1).toList != ([46] : List UInt8)) = false := bne_eq_false_iff_eq.mpr c10
         clear c10
         (first | rw [c10b0] | (simp only [i64_w, i32_w]; rw [c10b0]) | skip)
         have H' := Aside0.mk H
         clear H
         go_wp2
         go_meet
         case rel => exact ⟨_, (((rdOf ByteArray.empty t290 x13_1).toList == ([46] : List UInt8))), (by first | rfl | (simp; done) | (simp [*]; done)), H', ⟨by have := HK1.out; first | omega | exact Nat.le_refl _⟩, ⟨xr_ HO_3⟩, ⟨xr_ HO_4⟩, ⟨xr_ HO_11⟩, ⟨xw_ HB⟩⟩
        ·rw [if_neg c10] at H
         have c10b0 : ((rdOf ByteArray.empty t290 x13_1).toList == ([46] : List UInt8)) = false := beq_eq_false_iff_ne.mpr c10
         have c10b1 : ((rdOf ByteArray.empty t290 x13_1).toList != ([46] : List UInt8)) = true := bne_iff_ne.mpr c10
         (first | rw [c10b0] | (simp only [i64_w, i32_w]; rw [c10b0]) | skip)
         have H' := Aside0.mk H
         clear H
         go_wp2
         go_meet
         case rel => exact ⟨_, (((rdOf ByteArray.empty t290 x13_1).toList == ([46, 46] : List UInt8))), (by first | rfl | (simp; done) | (simp [*]; done)), H', ⟨by have := HK1.out; first | omega | exact Nat.le_refl _⟩, ⟨xr_ HO_3⟩, ⟨xr_ HO_4⟩, ⟨xr_ HO_11⟩, ⟨xw_ HB⟩⟩
       case rest =>
        clear HC9
        try clear c1
        try clear c2
        try clear c2b0
        try clear c2b1
        try clear p2
        try clear q2
        try clear hx2
        try clear c3
        try clear c6
        try clear c6b0
        try clear p6
        try clear c7
        try clear c7b0
        try clear c8
        try clear c8b0
        try clear c10
        try clear c10b0
        try clear c10b1
        try clear hx294_0
        try clear p2
        try clear p294
        try clear q294
        obtain ⟨kq, x28_8, rfl, HA, HJ8, HO_3, HO_4, HO_11, HB⟩ := hcut
        cases kq with
        | zero => exact absurd HA.out (by simp [impl_dropDots.j1])
        | succ kj8 =>
         have H := HA.out
         clear HA
         simp only [impl_dropDots.j1] at H
         by_cases c11 : x28_8 = true
         ·subst c11
          have H1 : (if (rdOf ByteArray.empty t290 x13_1).toList = ([46, 46] : List UInt8) then (impl_dropDots.j2 kj8 x3_1 t290 (x13_1 == (wrap64 ((t290.length : Int) - 1))) t290 (t290.length : Int) x13_1 (decide ((x3_1.length : Int) > 0))) else (impl_dropDots.j2 kj8 x3_1 t290 (x13_1 == (wrap64 ((t290.length : Int) - 1))) t290 (t290.length : Int) x13_1 false)) = some r := by rw [if_pos rfl] at H; exact H
          clear H
          have H := H1
          clear H1
          have HC12 := Aside0.mk H
          clear H
          go_upto_region 11 with (fail)
          go_cut [37] (fun v37 wc => ∃ (kq : Nat) (x37_11 : Bool), v37 = .bool x37_11 ∧ Aside0 (impl_dropDots.j2 kq x3_1 t290 (x13_1 == (wrap64 ((t290.length : Int) - 1))) t290 (t290.length : Int) x13_1 x37_11 = some r) ∧ Aside0 (kq ≤ kj8) ∧ Aside0 (Kd.R Kd.string 9 wc w.heap.size (fun k_ => some k_ ≠ ((.slice (some ad294) t290.length co5) : Value).ownBlock ∧ some k_ ≠ ((.slice (some ad294) t290.length co5) : Value).ownBlock) u3 x3_1) ∧ Aside0 (Kd.R Kd.string 9 wc w.heap.size (fun k_ => some k_ ≠ (u3 : Value).ownBlock) (.slice (some ad294) t290.length co5) t290) ∧ Aside0 (Kd.R Kd.string 9 wc w.heap.size (fun k_ => some k_ ≠ (u3 : Value).ownBlock) (.slice (some ad294) t290.length co5) t290) ∧ Aside0 (Below w.heap.size w wc))
          case first =>
           have H := HC12.out
           clear HC12
           by_cases c13 : (rdOf ByteArray.empty t290 x13_1).toList = ([46, 46] : List UInt8)
           ·rw [if_pos c13] at H
            have c13b0 : ((rdOf ByteArray.empty t290 x13_1).toList == ([46, 46] : List UInt8)) = true := beq_iff_eq.mpr c13
            have c13b1 : ((rdOf ByteArray.empty t290 x13_1).toList != ([46, 46] : List UInt8)) = false := bne_eq_false_iff_eq.mpr c13
            clear c13
            (first | rw [c13b0] | (simp only [i64_w, i32_w]; rw [c13b0]) | skip)
            have H' := Aside0.mk H
            clear H
            obtain ⟨Ao14, co14, eo14⟩ := Kd.R_slice HO_3.out
            subst eo14
            go_wp2
            go_meet
            case rel => exact ⟨_, (decide ((x3_1.length : Int) > 0)), (by first | rfl | (simp; done) | (simp [*]; done)), H', ⟨by have := HK1.out; have := HJ8.out; first | omega | exact Nat.le_refl _⟩, ⟨xr_ HO_3⟩, ⟨xr_ HO_4⟩, ⟨xr_ HO_11⟩, ⟨xw_ HB⟩⟩
           ·rw [if_neg c13] at H
            have c13b0 : ((rdOf ByteArray.empty t290 x13_1).toList == ([46, 46] : List UInt8)) = false := beq_eq_false_iff_ne.mpr c13
            have c13b1 : ((rdOf ByteArray.empty t290 x13_1).toList != ([46, 46] : List UInt8)) = true := bne_iff_ne.mpr c13
            (first | rw [c13b0] | (simp only [i64_w, i32_w]; rw [c13b0]) | skip)
            have H' := Aside0.mk H
            clear H
            go_wp2
            go_meet
            case rel => exact ⟨_, (false), (by first | rfl | (simp; done) | (simp [*]; done)), H', ⟨by have := HK1.out; have := HJ8.out; first | omega | exact Nat.le_refl _⟩, ⟨xr_ HO_3⟩, ⟨xr_ HO_4⟩, ⟨xr_ HO_11⟩, ⟨xw_ HB⟩⟩
          case rest =>
           clear HC12
           try clear c1
           try clear c2
           try clear c2b0
           try clear c2b1
           try clear p2
           try clear q2
           try clear hx2
           try clear c3
           try clear c6
           try clear c6b0
           try clear p6
           try clear c7
           try clear c7b0
           try clear c8
           try clear c8b0
           try clear c10
           try clear c10b0
           try clear c10b1
           try clear c11
           try clear c13
           try clear c13b0
           try clear c13b1
           try clear hx294_0
           try clear p2
           try clear p294
           try clear p6
           try clear q2
           try clear q294
           obtain ⟨kq, x37_11, rfl, HA, HJ11, HO_3, HO_4, HO_11, HB⟩ := hcut
           cases kq with
           | zero => exact absurd HA.out (by simp [impl_dropDots.j2])
           | succ kj11 =>
            have H := HA.out
            clear HA
            simp only [impl_dropDots.j2] at H
            by_cases c15 : x37_11 = true
            ·subst c15
             have H1 : (if 0 ≤ (wrap64 ((x3_1.length : Int) - 1)) then (if (wrap64 ((x3_1.length : Int) - 1)) ≤ (x3_1.length : Int) then ((some (x3_1.take ((wrap64 ((x3_1.length : Int) - 1)) : Int).toNat : List ByteArray)).bind fun y295 => (if (x13_1 == (wrap64 ((t290.length : Int) - 1))) = true then (if y295.length < 8796093022208 then (impl_dropDots.l0 kj11 (y295 ++ [(⟨#[]⟩ : ByteArray)]) t290 t290 (t290.length : Int) (wrap64 (x13_1 + 1))) else (none)) else (impl_dropDots.l0 kj11 y295 t290 t290 (t290.length : Int) (wrap64 (x13_1 + 1))))) else (none)) else (none)) = some r := by rw [if_pos rfl] at H; exact H
             clear H
             have H := H1
             clear H1
             obtain ⟨ji16, hji16⟩ : ∃ j_ : Int, (wrap64 ((x3_1.length : Int) - 1)) = j_ := ⟨_, rfl⟩
             replace H : (if 0 ≤ (ji16) then (if (ji16) ≤ (x3_1.length : Int) then ((some (x3_1.take ((ji16) : Int).toNat : List ByteArray)).bind fun y295 => (if (x13_1 == (wrap64 ((t290.length : Int) - 1))) = true then (if y295.length < 8796093022208 then (impl_dropDots.l0 kj11 (y295 ++ [(⟨#[]⟩ : ByteArray)]) t290 t290 (t290.length : Int) (wrap64 (x13_1 + 1))) else (none)) else (impl_dropDots.l0 kj11 y295 t290 t290 (t290.length : Int) (wrap64 (x13_1 + 1))))) else (none)) else (none)) = some r := by first | (rw [hji16] at H; exact H) | (simp only [hji16] at H ⊢; exact H)
             have hji16w : (IntKind.i64.wrap ((x3_1.length : Int) - 1)) = ji16 := (i64_w _).trans hji16
             by_cases c17 : 0 ≤ (ji16)
             ·rw [if_pos c17] at H
              have c17b0 := eq_true c17
              have c17b1 : decide (0 ≤ (ji16)) = true := decide_eq_true c17
              clear c17
              by_cases c18 : (ji16) ≤ (x3_1.length : Int)
              ·rw [if_pos c18] at H
               have c18b0 := eq_true c18
               have c18b1 : decide ((ji16) ≤ (x3_1.length : Int)) = true := decide_eq_true c18
               clear c18
               obtain ⟨y295, hy295⟩ : ∃ y_ : List ByteArray, y_ = (x3_1.take ((ji16) : Int).toNat) := ⟨_, rfl⟩
               replace H : (if (x13_1 == (wrap64 ((t290.length : Int) - 1))) = true then (if y295.length < 8796093022208 then (impl_dropDots.l0 kj11 (y295 ++ [(⟨#[]⟩ : ByteArray)]) t290 t290 (t290.length : Int) (wrap64 (x13_1 + 1))) else (none)) else (impl_dropDots.l0 kj11 y295 t290 t290 (t290.length : Int) (wrap64 (x13_1 + 1)))) = some r := by first | (rw [hy295]; with_reducible exact H) | (have H2_ := (Option.bind_some _ _).symm.trans H; rw [hy295]; with_reducible exact H2_) | (have H2_ := (Option.bind_some _ _).symm.trans H; with_reducible exact H2_) | with_reducible exact H | (rw [hy295]; exact H) | exact H
               have Ny295 := Aside0.mk hy295
               clear hy295
               by_cases c19 : (x13_1 == (wrap64 ((t290.length : Int) - 1))) = true
               ·rw [if_pos c19] at H
                have c19b0 : (x13_1 == (wrap64 ((t290.length : Int) - 1))) = true := c19
                (try (have c19b1 : decide (x13_1 = (wrap64 ((t290.length : Int) - 1))) = true := by simpa using c19))
                (try (have c19b2 : (x13_1 == (wrap64 ((t290.length : Int) - 1))) = true := by simpa using c19))
                clear c19
                by_cases c20 : y295.length < 8796093022208
                ·rw [if_pos c20] at H
                 have LMc20 := Aside0.mk c20
                 clear c20
                 obtain ⟨y298, hy298⟩ : ∃ y_ : List ByteArray, y_ = (y295 ++ [(⟨#[]⟩ : ByteArray)]) := ⟨_, rfl⟩
                 replace H : (impl_dropDots.l0 kj11 y298 t290 t290 (t290.length : Int) (wrap64 (x13_1 + 1))) = some r := by first | (rw [hy298]; with_reducible exact H) | (have H2_ := (Option.bind_some _ _).symm.trans H; rw [hy298]; with_reducible exact H2_) | (have H2_ := (Option.bind_some _ _).symm.trans H; with_reducible exact H2_) | with_reducible exact H | (rw [hy298]; exact H) | exact H
                 have Ny298 := Aside0.mk hy298
                 clear hy298
                 have H' := Aside0.mk H
                 clear H
                 obtain ⟨Ao21, co21, eo21⟩ := Kd.R_slice HO_3.out
                 subst eo21
                 have q22 : ((ji16) : Int) ≤ ((x3_1.length : Int) : Int) := of_decide_eq_true (by first | (with_reducible assumption) | assumption)
                 obtain ⟨i022, hi022, _, hsz22, _⟩ := info_parts info9
                 have hcut22 := cut_to (P := Tryz.prog) 39 9 .i64 Tryz.underlying39 hi022 Ao21 x3_1.length co21 (ji16) (of_decide_eq_true (by first | (with_reducible assumption) | assumption)) q22 (Kd.R_reads' HO_3.out).2.1
                 have hr22 := Kd.R_take (m := ((ji16) : Int).toNat) HO_3.out (by omega)
                 have hy22 : y295.length = ((ji16) : Int).toNat := (by rw [Ny295.out, List.length_take]; omega)
                 rw [← Ny295.out] at hr22
                 rw [← hy22] at hr22 hcut22
                 clear hy22 hi022 hsz22 HO_3
                 have HO297 := Aside0.mk hr22
                 (try rw [own_len_ Ao21 x3_1.length y295.length co21] at HO300)
                 (try rw [own_len_ Ao21 x3_1.length y295.length co21] at HO_11)
                 (try rw [own_len_ Ao21 x3_1.length y295.length co21] at HO_3)
                 (try rw [own_len_ Ao21 x3_1.length y295.length co21] at HO_4)
                 clear hr22
                 replace q22 := eq_true q22
                 go_wp2_with (first | ((with_reducible refine gate_builtin (b := .append) (xs := #[.tmp 44, .tmp 45]) rfl ?_); (try (refine gate_guard (by rfl) ?_; dsimp only)); at_builtin; refine Kd.R_append Kd.string (w0 := w) w.heap.size rfl (.tmp 44) (.tmp 45) 39 9 (.string ⟨#[]⟩) 16 rfl Tryz.underlying39 info9 rfl (by decide) (by omega) (.slice Ao21 y295.length co21) y295 (⟨#[]⟩ : ByteArray) [.string (⟨#[]⟩ : ByteArray)] (fun k_ => some k_ ≠ (.slice (some ad294) t290.length co5 : Value).ownBlock ∧ some k_ ≠ (.slice (some ad294) t290.length co5 : Value).ownBlock) (fun _ => False) rfl rfl ?aP (fun _ hk => hk.elim) ?aF ?aO ?aB ?aS ?aL ?_; (case aP => exact rfl); (case aB => exact (xw_ HB)); (case aF => exact (fun k_ hk => ⟨Kd.fresh' (Kd.R_lt (xr_ HO_4)) k_ hk, Kd.fresh' (Kd.R_lt (xr_ HO_11)) k_ hk⟩)); (case aO => exact (xr_ HO297)); (case aS => exact (below_size (xw_ HB))); (case aL => have := LMc20.out; omega); intro v299 w23 ho hb hg hat; rw [← Ny298.out] at ho; replace HO_4 := Aside0.mk (Kd.R_after (ok := (fun _ => True)) (xrt_ (Kd.R_mono HO_4.out (fun _ hk => ⟨trivial, hk⟩))) hg hat); replace HO_11 := Aside0.mk (Kd.R_after (ok := (fun _ => True)) (xrt_ (Kd.R_mono HO_11.out (fun _ hk => ⟨trivial, hk⟩))) hg hat); replace HB := Aside0.mk (hb); have HO300 := Aside0.mk (ho); clear HO297; clear ho hb hg hat))
                 go_roundg kj11
                 case measure => have := HK1.out; have := HJ8.out; have := HJ11.out; omega
                 case rel => exact ⟨(y298), (wrap64 (x13_1 + 1)), (by first | rfl | (simp; done) | (simp [*]; done)), H', ⟨by have := HK1.out; have := HJ8.out; have := HJ11.out; omega⟩, ⟨xr_ HO300⟩, ⟨xrt_ (Kd.R_mono HO_4.out (fun _ hk => hk.2))⟩, ⟨xrt_ (Kd.R_mono HO_11.out (fun _ hk => hk.2))⟩, ⟨xw_ HB⟩⟩
                ·rw [if_neg c20] at H
                 exact absurd H (by simp)
               ·rw [if_neg c19] at H
                have c19b0 : (x13_1 == (wrap64 ((t290.length : Int) - 1))) = false := by simpa using c19
                (try (have c19b1 : decide (x13_1 = (wrap64 ((t290.length : Int) - 1))) = false := by simpa using c19))
                (try (have c19b2 : (x13_1 == (wrap64 ((t290.length : Int) - 1))) = false := by simpa using c19))
                (try (have c19b3 : ¬ (x13_1 = (wrap64 ((t290.length : Int) - 1))) := by simpa using c19))
                clear c19
                have H' := Aside0.mk H
                clear H
                obtain ⟨Ao24, co24, eo24⟩ := Kd.R_slice HO_3.out
                subst eo24
                have q25 : ((ji16) : Int) ≤ ((x3_1.length : Int) : Int) := of_decide_eq_true (by first | (with_reducible assumption) | assumption)
                obtain ⟨i025, hi025, _, hsz25, _⟩ := info_parts info9
                have hcut25 := cut_to (P := Tryz.prog) 39 9 .i64 Tryz.underlying39 hi025 Ao24 x3_1.length co24 (ji16) (of_decide_eq_true (by first | (with_reducible assumption) | assumption)) q25 (Kd.R_reads' HO_3.out).2.1
                have hr25 := Kd.R_take (m := ((ji16) : Int).toNat) HO_3.out (by omega)
                have hy25 : y295.length = ((ji16) : Int).toNat := (by rw [Ny295.out, List.length_take]; omega)
                rw [← Ny295.out] at hr25
                rw [← hy25] at hr25 hcut25
                clear hy25 hi025 hsz25 HO_3
                have HO297 := Aside0.mk hr25
                (try rw [own_len_ Ao24 x3_1.length y295.length co24] at HO303)
                (try rw [own_len_ Ao24 x3_1.length y295.length co24] at HO_11)
                (try rw [own_len_ Ao24 x3_1.length y295.length co24] at HO_3)
                (try rw [own_len_ Ao24 x3_1.length y295.length co24] at HO_4)
                clear hr25
                replace q25 := eq_true q25
                go_wp2
                go_roundg kj11
                case measure => have := HK1.out; have := HJ8.out; have := HJ11.out; omega
                case rel => exact ⟨(y295), (wrap64 (x13_1 + 1)), (by first | rfl | (simp; done) | (simp [*]; done)), H', ⟨by have := HK1.out; have := HJ8.out; have := HJ11.out; omega⟩, ⟨xr_ HO297⟩, ⟨xr_ HO_4⟩, ⟨xr_ HO_11⟩, ⟨xw_ HB⟩⟩
              ·rw [if_neg c18] at H
               exact absurd H (by simp)
             ·rw [if_neg c17] at H
              exact absurd H (by simp)
            ·replace c15 := Bool.eq_false_iff.mpr c15
             subst c15
             have H1 : (if (x13_1 == (wrap64 ((t290.length : Int) - 1))) = true then (if x3_1.length < 8796093022208 then (impl_dropDots.l0 kj11 (x3_1 ++ [(⟨#[]⟩ : ByteArray)]) t290 t290 (t290.length : Int) (wrap64 (x13_1 + 1))) else (none)) else (impl_dropDots.l0 kj11 x3_1 t290 t290 (t290.length : Int) (wrap64 (x13_1 + 1)))) = some r := by rw [if_neg (show ¬ (false = true) by decide)] at H; exact H
             clear H
             have H := H1
             clear H1
             by_cases c26 : (x13_1 == (wrap64 ((t290.length : Int) - 1))) = true
             ·rw [if_pos c26] at H
              have c26b0 : (x13_1 == (wrap64 ((t290.length : Int) - 1))) = true := c26
              (try (have c26b1 : decide (x13_1 = (wrap64 ((t290.length : Int) - 1))) = true := by simpa using c26))
              (try (have c26b2 : (x13_1 == (wrap64 ((t290.length : Int) - 1))) = true := by simpa using c26))
              clear c26
              by_cases c27 : x3_1.length < 8796093022208
              ·rw [if_pos c27] at H
               have LMc27 := Aside0.mk c27
               clear c27
               obtain ⟨y301, hy301⟩ : ∃ y_ : List ByteArray, y_ = (x3_1 ++ [(⟨#[]⟩ : ByteArray)]) := ⟨_, rfl⟩
               replace H : (impl_dropDots.l0 kj11 y301 t290 t290 (t290.length : Int) (wrap64 (x13_1 + 1))) = some r := by first | (rw [hy301]; with_reducible exact H) | (have H2_ := (Option.bind_some _ _).symm.trans H; rw [hy301]; with_reducible exact H2_) | (have H2_ := (Option.bind_some _ _).symm.trans H; with_reducible exact H2_) | with_reducible exact H | (rw [hy301]; exact H) | exact H
               have Ny301 := Aside0.mk hy301
               clear hy301
               have H' := Aside0.mk H
               clear H
               go_wp2_with (first | ((with_reducible refine gate_builtin (b := .append) (xs := #[.tmp 44, .tmp 45]) rfl ?_); (try (refine gate_guard (by rfl) ?_; dsimp only)); at_builtin; refine Kd.R_append Kd.string (w0 := w) w.heap.size rfl (.tmp 44) (.tmp 45) 39 9 (.string ⟨#[]⟩) 16 rfl Tryz.underlying39 info9 rfl (by decide) (by omega) u3 x3_1 (⟨#[]⟩ : ByteArray) [.string (⟨#[]⟩ : ByteArray)] (fun k_ => some k_ ≠ (.slice (some ad294) t290.length co5 : Value).ownBlock ∧ some k_ ≠ (.slice (some ad294) t290.length co5 : Value).ownBlock) (fun _ => False) rfl rfl ?aP (fun _ hk => hk.elim) ?aF ?aO ?aB ?aS ?aL ?_; (case aP => exact rfl); (case aB => exact (xw_ HB)); (case aF => exact (fun k_ hk => ⟨Kd.fresh' (Kd.R_lt (xr_ HO_4)) k_ hk, Kd.fresh' (Kd.R_lt (xr_ HO_11)) k_ hk⟩)); (case aO => exact (xr_ HO_3)); (case aS => exact (below_size (xw_ HB))); (case aL => have := LMc27.out; omega); intro v302 w28 ho hb hg hat; rw [← Ny301.out] at ho; replace HO_4 := Aside0.mk (Kd.R_after (ok := (fun _ => True)) (xrt_ (Kd.R_mono HO_4.out (fun _ hk => ⟨trivial, hk⟩))) hg hat); replace HO_11 := Aside0.mk (Kd.R_after (ok := (fun _ => True)) (xrt_ (Kd.R_mono HO_11.out (fun _ hk => ⟨trivial, hk⟩))) hg hat); replace HB := Aside0.mk (hb); have HO303 := Aside0.mk (ho); clear HO_3; clear ho hb hg hat))
               go_roundg kj11
               case measure => have := HK1.out; have := HJ8.out; have := HJ11.out; omega
               case rel => exact ⟨(y301), (wrap64 (x13_1 + 1)), (by first | rfl | (simp; done) | (simp [*]; done)), H', ⟨by have := HK1.out; have := HJ8.out; have := HJ11.out; omega⟩, ⟨xr_ HO303⟩, ⟨xrt_ (Kd.R_mono HO_4.out (fun _ hk => hk.2))⟩, ⟨xrt_ (Kd.R_mono HO_11.out (fun _ hk => hk.2))⟩, ⟨xw_ HB⟩⟩
              ·rw [if_neg c27] at H
               exact absurd H (by simp)
             ·rw [if_neg c26] at H
              have c26b0 : (x13_1 == (wrap64 ((t290.length : Int) - 1))) = false := by simpa using c26
              (try (have c26b1 : decide (x13_1 = (wrap64 ((t290.length : Int) - 1))) = false := by simpa using c26))
              (try (have c26b2 : (x13_1 == (wrap64 ((t290.length : Int) - 1))) = false := by simpa using c26))
              (try (have c26b3 : ¬ (x13_1 = (wrap64 ((t290.length : Int) - 1))) := by simpa using c26))
              clear c26
              have H' := Aside0.mk H
              clear H
              go_wp2
              go_roundg kj11
              case measure => have := HK1.out; have := HJ8.out; have := HJ11.out; omega
              case rel => exact ⟨(x3_1), (wrap64 (x13_1 + 1)), (by first | rfl | (simp; done) | (simp [*]; done)), H', ⟨by have := HK1.out; have := HJ8.out; have := HJ11.out; omega⟩, ⟨xr_ HO_3⟩, ⟨xr_ HO_4⟩, ⟨xr_ HO_11⟩, ⟨xw_ HB⟩⟩
         ·replace c11 := Bool.eq_false_iff.mpr c11
          subst c11
          have H1 : (if x3_1.length < 8796093022208 then (impl_dropDots.l0 kj8 (x3_1 ++ [(rdOf ByteArray.empty t290 x13_1)]) t290 t290 (t290.length : Int) (wrap64 (x13_1 + 1))) else (none)) = some r := by rw [if_neg (show ¬ (false = true) by decide)] at H; exact H
          clear H
          have H := H1
          clear H1
          by_cases c29 : x3_1.length < 8796093022208
          ·rw [if_pos c29] at H
           have LMc29 := Aside0.mk c29
           clear c29
           obtain ⟨y304, hy304⟩ : ∃ y_ : List ByteArray, y_ = (x3_1 ++ [(rdOf ByteArray.empty t290 x13_1)]) := ⟨_, rfl⟩
           replace H : (impl_dropDots.l0 kj8 y304 t290 t290 (t290.length : Int) (wrap64 (x13_1 + 1))) = some r := by first | (rw [hy304]; with_reducible exact H) | (have H2_ := (Option.bind_some _ _).symm.trans H; rw [hy304]; with_reducible exact H2_) | (have H2_ := (Option.bind_some _ _).symm.trans H; with_reducible exact H2_) | with_reducible exact H | (rw [hy304]; exact H) | exact H
           have Ny304 := Aside0.mk hy304
           clear hy304
           have H' := Aside0.mk H
           clear H
           go_wp2_with (first | ((with_reducible refine gate_builtin (b := .append) (xs := #[.tmp 24, .tmp 26]) rfl ?_); (try (refine gate_guard (by rfl) ?_; dsimp only)); at_builtin; refine Kd.R_append Kd.string (w0 := w) w.heap.size rfl (.tmp 24) (.tmp 26) 39 9 (.string ⟨#[]⟩) 16 rfl Tryz.underlying39 info9 rfl (by decide) (by omega) u3 x3_1 (rdOf ByteArray.empty t290 x13_1) [.string (rdOf ByteArray.empty t290 x13_1)] (fun k_ => some k_ ≠ (.slice (some ad294) t290.length co5 : Value).ownBlock ∧ some k_ ≠ (.slice (some ad294) t290.length co5 : Value).ownBlock) (fun _ => False) rfl rfl ?aP (fun _ hk => hk.elim) ?aF ?aO ?aB ?aS ?aL ?_; (case aP => exact rfl); (case aB => exact (xw_ HB)); (case aF => exact (fun k_ hk => ⟨Kd.fresh' (Kd.R_lt (xr_ HO_4)) k_ hk, Kd.fresh' (Kd.R_lt (xr_ HO_11)) k_ hk⟩)); (case aO => exact (xr_ HO_3)); (case aS => exact (below_size (xw_ HB))); (case aL => have := LMc29.out; omega); intro v305 w30 ho hb hg hat; rw [← Ny304.out] at ho; replace HO_4 := Aside0.mk (Kd.R_after (ok := (fun _ => True)) (xrt_ (Kd.R_mono HO_4.out (fun _ hk => ⟨trivial, hk⟩))) hg hat); replace HO_11 := Aside0.mk (Kd.R_after (ok := (fun _ => True)) (xrt_ (Kd.R_mono HO_11.out (fun _ hk => ⟨trivial, hk⟩))) hg hat); replace HB := Aside0.mk (hb); have HO306 := Aside0.mk (ho); clear HO_3; clear ho hb hg hat))
           go_roundg kj8
           case measure => have := HK1.out; have := HJ8.out; omega
           case rel => exact ⟨(y304), (wrap64 (x13_1 + 1)), (by first | rfl | (simp; done) | (simp [*]; done)), H', ⟨by have := HK1.out; have := HJ8.out; omega⟩, ⟨xr_ HO306⟩, ⟨xrt_ (Kd.R_mono HO_4.out (fun _ hk => hk.2))⟩, ⟨xrt_ (Kd.R_mono HO_11.out (fun _ hk => hk.2))⟩, ⟨xw_ HB⟩⟩
          ·rw [if_neg c29] at H
           exact absurd H (by simp)
      ·rw [if_neg c8] at H
       exact absurd H (by simp)
     ·rw [if_neg c7] at H
      exact absurd H (by simp)
    ·rw [if_neg c6] at H
     have c6b0 : decide (x13_1 < (t290.length : Int)) = false := decide_eq_false c6
     clear c6
     replace H := Option.bind_eq_some_iff.mp H
     obtain ⟨t293, A310, H⟩ := H
     replace H : (if 1 + t293.size ≤ 9223372036854775807 then (some ((⟨#[47]⟩ : ByteArray) ++ t293)) else (none)) = some r := H
     have A31 := Aside0.mk A310
     clear A310
     by_cases c32 : 1 + t293.size ≤ 9223372036854775807
     ·rw [if_pos c32] at H
      have c32b0 := eq_true c32
      have c32b1 : decide (1 + t293.size ≤ 9223372036854775807) = true := decide_eq_true c32
      try have c32b2 : (9223372036854775807 < 1 + t293.size) = False := eq_false (Nat.not_lt.2 c32)
      obtain rfl := Option.some.inj H
      obtain ⟨Ao33, co33, eo33⟩ := Kd.R_slice HO_3.out
      subst eo33
      go_wp2_with (first | ((with_reducible refine gate_callee (f := 34) rfl ?_); refine xgl_ (some 49) Tryz.func34 #[.slice Ao33 x3_1.length co33, .string (⟨#[47]⟩ : ByteArray)] ?_; (with_reducible refine (strings_Join.calls _ _ x3_1 (⟨#[47]⟩ : ByteArray) t293 _ ?side1 ?side2 A31.out).mono ?_); (case side1 => exact xc_ ((Kd.R_reads' HO_3.out).2.2)); (case side2 => exact (Kd.R_reads' HO_3.out).2.1); rintro e w34 ⟨rfl, hb⟩; refine ⟨_, rfl, ?_⟩; replace HO_3 := xrb_ HO_3 hb; replace HO_4 := xrb_ HO_4 hb; replace HO_11 := xrb_ HO_11 hb; replace HB := xws_ HB hb; (try clear hb); (try clear hb2); (try clear hk); (try clear hi)))
      go_ret
      exact ⟨by first | rfl | (simp [errW_none, errW_some] <;> rfl) | (simp [*, errW_none, errW_some] <;> rfl), xw_ HB⟩
     ·rw [if_neg c32] at H
      exact absurd H (by simp)
 ·rw [if_neg c2] at H
  exact absurd H (by simp)

/-! ### impl_ResolveUrl: function 5 -/
def impl_ResolveUrl.f (k : Nat) (a0_0 : ByteArray) (a0_1 : ByteArray) (a0_2 : Int) (a0_3 : ByteArray) (a0_4 : ByteArray) (a0_5 : Bool) (a1 : ByteArray) : Option (ByteArray × ByteArray × Int × ByteArray × ByteArray × Bool × Bool) := (impl_GoodUrl.f k a0_0 a0_1 a0_2 a0_3 a0_4 a0_5).bind fun t309 => (if t309 = true then (if a1.toList = ([] : List UInt8) then (some (a0_0, a0_1, a0_2, a0_3, a0_4, a0_5, true)) else ((impl_resolved.f k a0_0 a0_1 a0_2 a0_3 a0_4 a0_5 a1).bind fun bt310 => (if bt310.2.2.2.2.2.2 = true then ((impl_dropDots.f k bt310.2.2.2.1).bind fun t318 => ((impl_GoodUrl.f k bt310.1 bt310.2.1 bt310.2.2.1 t318 bt310.2.2.2.2.1 bt310.2.2.2.2.2.1).bind fun t319 => (if t319 = true then (some (bt310.1, bt310.2.1, bt310.2.2.1, t318, bt310.2.2.2.2.1, bt310.2.2.2.2.2.1, true)) else (some ((⟨#[]⟩ : ByteArray), (⟨#[]⟩ : ByteArray), 0, (⟨#[]⟩ : ByteArray), (⟨#[]⟩ : ByteArray), false, false))))) else (some ((⟨#[]⟩ : ByteArray), (⟨#[]⟩ : ByteArray), 0, (⟨#[]⟩ : ByteArray), (⟨#[]⟩ : ByteArray), false, false))))) else (some ((⟨#[]⟩ : ByteArray), (⟨#[]⟩ : ByteArray), 0, (⟨#[]⟩ : ByteArray), (⟨#[]⟩ : ByteArray), false, false)))
theorem impl_ResolveUrl.mono : ∀ a0 a1 a2 a3 a4 a5 a6 k, LeO (impl_ResolveUrl.f k a0 a1 a2 a3 a4 a5 a6) (impl_ResolveUrl.f (k + 1) a0 a1 a2 a3 a4 a5 a6) := by
 intro a0 a1 a2 a3 a4 a5 a6 k
 unfold impl_ResolveUrl.f
 repeat' first
   | (with_reducible exact impl_GoodUrl.mono _ _ _ _ _ _ _)
   | (with_reducible exact impl_dropDots.mono _ _)
   | (with_reducible exact impl_resolved.mono _ _ _ _ _ _ _ _)
   | (with_reducible exact LeO.refl _)
   | (with_reducible exact LeO.none _)
   | (with_reducible refine LeO.ite ?_ ?_)
   | (with_reducible refine LeO.bind ?_ (fun _ => ?_))
   | exact impl_GoodUrl.mono _ _ _ _ _ _ _
   | exact impl_dropDots.mono _ _
   | exact impl_resolved.mono _ _ _ _ _ _ _ _
   | exact LeO.none _
   | refine LeO.ite ?_ ?_
   | refine LeO.bind ?_ (fun _ => ?_)
set_option maxHeartbeats 8000000 in
set_option maxRecDepth 100000 in
theorem impl_ResolveUrl.calls (k : Nat) (a0_0 : ByteArray) (a0_1 : ByteArray) (a0_2 : Int) (a0_3 : ByteArray) (a0_4 : ByteArray) (a0_5 : Bool) (a1 : ByteArray) (r1 : ByteArray) (r2 : ByteArray) (r3 : Int) (r4 : ByteArray) (r5 : ByteArray) (r6 : Bool) (r7 : Bool) (w : World) (h : impl_ResolveUrl.f k a0_0 a0_1 a0_2 a0_3 a0_4 a0_5 a1 = some (r1, r2, r3, r4, r5, r6, r7)) (hT_ : TabOk w) :
  Calls Tryz.prog 5 #[.agg #[.string a0_0, .string a0_1, .int .i64 a0_2, .string a0_3, .string a0_4, .bool a0_5], .string a1] w fun e w' => e = .returned (.tuple #[.agg #[.string r1, .string r2, .int .i64 r3, .string r4, .string r5, .bool r6], .bool r7]) ∧ Below w.heap.size w w' := by
 have HTB_ := Aside0.mk hT_
 clear hT_
 have hu24 := Tryz.underlying24
 have HB := Aside0.mk (Below.refl w.heap.size w)
 have H : ((impl_GoodUrl.f k a0_0 a0_1 a0_2 a0_3 a0_4 a0_5).bind fun t309 => (if t309 = true then (if a1.toList = ([] : List UInt8) then (some (a0_0, a0_1, a0_2, a0_3, a0_4, a0_5, true)) else ((impl_resolved.f k a0_0 a0_1 a0_2 a0_3 a0_4 a0_5 a1).bind fun bt310 => (if bt310.2.2.2.2.2.2 = true then ((impl_dropDots.f k bt310.2.2.2.1).bind fun t318 => ((impl_GoodUrl.f k bt310.1 bt310.2.1 bt310.2.2.1 t318 bt310.2.2.2.2.1 bt310.2.2.2.2.2.1).bind fun t319 => (if t319 = true then (some (bt310.1, bt310.2.1, bt310.2.2.1, t318, bt310.2.2.2.2.1, bt310.2.2.2.2.2.1, true)) else (some ((⟨#[]⟩ : ByteArray), (⟨#[]⟩ : ByteArray), 0, (⟨#[]⟩ : ByteArray), (⟨#[]⟩ : ByteArray), false, false))))) else (some ((⟨#[]⟩ : ByteArray), (⟨#[]⟩ : ByteArray), 0, (⟨#[]⟩ : ByteArray), (⟨#[]⟩ : ByteArray), false, false))))) else (some ((⟨#[]⟩ : ByteArray), (⟨#[]⟩ : ByteArray), 0, (⟨#[]⟩ : ByteArray), (⟨#[]⟩ : ByteArray), false, false)))) = some (r1, r2, r3, r4, r5, r6, r7) := h
 clear h
 replace H := Option.bind_eq_some_iff.mp H
 obtain ⟨t309, A30, H⟩ := H
 replace H : (if t309 = true then (if a1.toList = ([] : List UInt8) then (some (a0_0, a0_1, a0_2, a0_3, a0_4, a0_5, true)) else ((impl_resolved.f k a0_0 a0_1 a0_2 a0_3 a0_4 a0_5 a1).bind fun bt310 => (if bt310.2.2.2.2.2.2 = true then ((impl_dropDots.f k bt310.2.2.2.1).bind fun t318 => ((impl_GoodUrl.f k bt310.1 bt310.2.1 bt310.2.2.1 t318 bt310.2.2.2.2.1 bt310.2.2.2.2.2.1).bind fun t319 => (if t319 = true then (some (bt310.1, bt310.2.1, bt310.2.2.1, t318, bt310.2.2.2.2.1, bt310.2.2.2.2.2.1, true)) else (some ((⟨#[]⟩ : ByteArray), (⟨#[]⟩ : ByteArray), 0, (⟨#[]⟩ : ByteArray), (⟨#[]⟩ : ByteArray), false, false))))) else (some ((⟨#[]⟩ : ByteArray), (⟨#[]⟩ : ByteArray), 0, (⟨#[]⟩ : ByteArray), (⟨#[]⟩ : ByteArray), false, false))))) else (some ((⟨#[]⟩ : ByteArray), (⟨#[]⟩ : ByteArray), 0, (⟨#[]⟩ : ByteArray), (⟨#[]⟩ : ByteArray), false, false))) = some (r1, r2, r3, r4, r5, r6, r7) := H
 have A3 := Aside0.mk A30
 clear A30
 by_cases c4 : t309 = true
 ·subst c4
  have H1 : (if a1.toList = ([] : List UInt8) then (some (a0_0, a0_1, a0_2, a0_3, a0_4, a0_5, true)) else ((impl_resolved.f k a0_0 a0_1 a0_2 a0_3 a0_4 a0_5 a1).bind fun bt310 => (if bt310.2.2.2.2.2.2 = true then ((impl_dropDots.f k bt310.2.2.2.1).bind fun t318 => ((impl_GoodUrl.f k bt310.1 bt310.2.1 bt310.2.2.1 t318 bt310.2.2.2.2.1 bt310.2.2.2.2.2.1).bind fun t319 => (if t319 = true then (some (bt310.1, bt310.2.1, bt310.2.2.1, t318, bt310.2.2.2.2.1, bt310.2.2.2.2.2.1, true)) else (some ((⟨#[]⟩ : ByteArray), (⟨#[]⟩ : ByteArray), 0, (⟨#[]⟩ : ByteArray), (⟨#[]⟩ : ByteArray), false, false))))) else (some ((⟨#[]⟩ : ByteArray), (⟨#[]⟩ : ByteArray), 0, (⟨#[]⟩ : ByteArray), (⟨#[]⟩ : ByteArray), false, false))))) = some (r1, r2, r3, r4, r5, r6, r7) := by rw [if_pos rfl] at H; exact H
  clear H
  have H := H1
  clear H1
  by_cases c5 : a1.toList = ([] : List UInt8)
  ·rw [if_pos c5] at H
   have c5b0 : (a1.toList == ([] : List UInt8)) = true := beq_iff_eq.mpr c5
   have c5b1 : (a1.toList != ([] : List UInt8)) = false := bne_eq_false_iff_eq.mpr c5
   clear c5
   simp only [Option.some.injEq, Prod.mk.injEq] at H
   obtain ⟨rfl, rfl, rfl, rfl, rfl, rfl, rfl⟩ := H
   go_enter Tryz.func5, Tryz.ntmps5
   go_wp2_with (first | ((with_reducible refine gate_dst (N := 2) rfl ?_); refine xbe_ (N := 2) (cs := #[.string a0_0, .string a0_1, .int .i64 a0_2, .string a0_3, .string a0_4, .bool a0_5]) (t := 24) ?_; intro gb307 hg w6 hbox hb; have BK307 := Aside0.mk (hbox); have GW307 := xge_ HB hg; have GE307 := xge_ HB hg; replace HB := xws_ HB hb; clear hb hbox hg) | ((with_reducible refine gate_dst (N := 4) rfl ?_); refine xbe_ (N := 4) (cs := #[.string (⟨#[]⟩ : ByteArray), .string (⟨#[]⟩ : ByteArray), .int .i64 0, .string (⟨#[]⟩ : ByteArray), .string (⟨#[]⟩ : ByteArray), .bool false]) (t := 24) ?_; intro gb308 hg w7 hbox hb; have BK308 := Aside0.mk (hbox); have GW308 := xge_ HB hg; have GE308 := xge_ HB hg; replace HB := xws_ HB hb; have NB307_308 := xlt_ BK307 hg; have NB308_307 := xgt_ BK307 hg; replace BK307 := xbb_ BK307 hb; clear hb hbox hg; have hnb8 := NB307_308.out; have hnc8 := NB308_307.out; have ⟨_, _, _, _, _, _, _, _, _, _, _, _⟩ := c6_ BK307) | ((with_reducible refine gate_callee (f := 13) rfl ?_); refine xgl_ (some 9) Tryz.func13 #[.agg #[.string a0_0, .string a0_1, .int .i64 a0_2, .string a0_3, .string a0_4, .bool a0_5]] ?_; (with_reducible refine (impl_GoodUrl.calls k a0_0 a0_1 a0_2 a0_3 a0_4 a0_5 true _ A3.out (HTB_.out.below (by first | (with_reducible exact Below.refl _ _) | (repeat (first | (with_reducible first | exact HB.out | exact Below.refl _ _ | apply below_alloc | apply pw_below_drewN | apply below_drew1 | refine below_set ?_ GE307.out | refine below_set ?_ GE308.out | refine below_set ?_ GE317.out) | exact HB.out)) | (repeat (first | exact Below.refl _ _ | apply below_alloc | apply pw_below_drewN | apply below_drew1 | refine below_set ?_ GE307.out | refine below_set ?_ GE308.out | refine below_set ?_ GE317.out))))).mono ?_); rintro e w10 ⟨rfl, hb⟩; refine ⟨_, rfl, ?_⟩; replace BK307 := xbb_ BK307 hb; replace BK308 := xbb_ BK308 hb; replace HB := xws_ HB hb; (try clear hb); (try clear hb2); (try clear hk); (try clear hi); have ⟨_, _, _, _, _, _, _, _, _, _, _, _⟩ := c6_ BK307; have ⟨_, _, _, _, _, _, _, _, _, _, _, _⟩ := c6_ BK308))
   refine bodyPost_ret (results_ct rfl _ _ gb308 24 #[.string a0_0, .string a0_1, .int .i64 a0_2, .string a0_3, .string a0_4, .bool a0_5] (0, 0) _ rfl (by (with_reducible repeat first | apply bN_ | apply bD_ | apply bA_); refine blk_put (cs := #[.string a0_0, .string a0_1, .int .i64 a0_2, .string a0_3, .string a0_4, .bool false]) ?_ 5 _ rfl; (with_reducible repeat first | apply bN_ | apply bD_ | apply bA_); refine blk_put (cs := #[.string a0_0, .string a0_1, .int .i64 a0_2, .string a0_3, .string (⟨#[]⟩ : ByteArray), .bool false]) ?_ 4 _ rfl; (with_reducible repeat first | apply bN_ | apply bD_ | apply bA_); refine blk_put (cs := #[.string a0_0, .string a0_1, .int .i64 a0_2, .string (⟨#[]⟩ : ByteArray), .string (⟨#[]⟩ : ByteArray), .bool false]) ?_ 3 _ rfl; (with_reducible repeat first | apply bN_ | apply bD_ | apply bA_); refine blk_put (cs := #[.string a0_0, .string a0_1, .int .i64 0, .string (⟨#[]⟩ : ByteArray), .string (⟨#[]⟩ : ByteArray), .bool false]) ?_ 2 _ rfl; (with_reducible repeat first | apply bN_ | apply bD_ | apply bA_); refine blk_put (cs := #[.string a0_0, .string (⟨#[]⟩ : ByteArray), .int .i64 0, .string (⟨#[]⟩ : ByteArray), .string (⟨#[]⟩ : ByteArray), .bool false]) ?_ 1 _ rfl; (with_reducible repeat first | apply bN_ | apply bD_ | apply bA_); refine blk_put (cs := #[.string (⟨#[]⟩ : ByteArray), .string (⟨#[]⟩ : ByteArray), .int .i64 0, .string (⟨#[]⟩ : ByteArray), .string (⟨#[]⟩ : ByteArray), .bool false]) ?_ 0 _ rfl; (with_reducible repeat first | apply bN_ | apply bD_ | apply bA_); exact BK308.out) Tryz.underlying24 rfl (by kernel_rfl)) rfl ?_
   exact ⟨by first | rfl | (simp [errW_none, errW_some] <;> rfl) | (simp [*, errW_none, errW_some] <;> rfl), xw_ HB⟩
  ·rw [if_neg c5] at H
   have c5b0 : (a1.toList == ([] : List UInt8)) = false := beq_eq_false_iff_ne.mpr c5
   have c5b1 : (a1.toList != ([] : List UInt8)) = true := bne_iff_ne.mpr c5
   replace H := Option.bind_eq_some_iff.mp H
   obtain ⟨⟨t310, t311, t312, t313, t314, t315, t316⟩, A130, H⟩ := H
   replace H : (if t316 = true then ((impl_dropDots.f k t313).bind fun t318 => ((impl_GoodUrl.f k t310 t311 t312 t318 t314 t315).bind fun t319 => (if t319 = true then (some (t310, t311, t312, t318, t314, t315, true)) else (some ((⟨#[]⟩ : ByteArray), (⟨#[]⟩ : ByteArray), 0, (⟨#[]⟩ : ByteArray), (⟨#[]⟩ : ByteArray), false, false))))) else (some ((⟨#[]⟩ : ByteArray), (⟨#[]⟩ : ByteArray), 0, (⟨#[]⟩ : ByteArray), (⟨#[]⟩ : ByteArray), false, false))) = some (r1, r2, r3, r4, r5, r6, r7) := H
   have A13 := Aside0.mk A130
   clear A130
   by_cases c14 : t316 = true
   ·subst c14
    have H1 : ((impl_dropDots.f k t313).bind fun t318 => ((impl_GoodUrl.f k t310 t311 t312 t318 t314 t315).bind fun t319 => (if t319 = true then (some (t310, t311, t312, t318, t314, t315, true)) else (some ((⟨#[]⟩ : ByteArray), (⟨#[]⟩ : ByteArray), 0, (⟨#[]⟩ : ByteArray), (⟨#[]⟩ : ByteArray), false, false))))) = some (r1, r2, r3, r4, r5, r6, r7) := by rw [if_pos rfl] at H; exact H
    clear H
    have H := H1
    clear H1
    replace H := Option.bind_eq_some_iff.mp H
    obtain ⟨t318, A150, H⟩ := H
    replace H : ((impl_GoodUrl.f k t310 t311 t312 t318 t314 t315).bind fun t319 => (if t319 = true then (some (t310, t311, t312, t318, t314, t315, true)) else (some ((⟨#[]⟩ : ByteArray), (⟨#[]⟩ : ByteArray), 0, (⟨#[]⟩ : ByteArray), (⟨#[]⟩ : ByteArray), false, false)))) = some (r1, r2, r3, r4, r5, r6, r7) := H
    have A15 := Aside0.mk A150
    clear A150
    replace H := Option.bind_eq_some_iff.mp H
    obtain ⟨t319, A160, H⟩ := H
    replace H : (if t319 = true then (some (t310, t311, t312, t318, t314, t315, true)) else (some ((⟨#[]⟩ : ByteArray), (⟨#[]⟩ : ByteArray), 0, (⟨#[]⟩ : ByteArray), (⟨#[]⟩ : ByteArray), false, false))) = some (r1, r2, r3, r4, r5, r6, r7) := H
    have A16 := Aside0.mk A160
    clear A160
    by_cases c17 : t319 = true
    ·subst c17
     have H1 : (some (t310, t311, t312, t318, t314, t315, true)) = some (r1, r2, r3, r4, r5, r6, r7) := by rw [if_pos rfl] at H; exact H
     clear H
     have H := H1
     clear H1
     simp only [Option.some.injEq, Prod.mk.injEq] at H
     obtain ⟨rfl, rfl, rfl, rfl, rfl, rfl, rfl⟩ := H
     go_enter Tryz.func5, Tryz.ntmps5
     go_wp2_with (first | ((with_reducible refine gate_dst (N := 2) rfl ?_); refine xbe_ (N := 2) (cs := #[.string a0_0, .string a0_1, .int .i64 a0_2, .string a0_3, .string a0_4, .bool a0_5]) (t := 24) ?_; intro gb307 hg w18 hbox hb; have BK307 := Aside0.mk (hbox); have GW307 := xge_ HB hg; have GE307 := xge_ HB hg; replace HB := xws_ HB hb; clear hb hbox hg) | ((with_reducible refine gate_dst (N := 4) rfl ?_); refine xbe_ (N := 4) (cs := #[.string (⟨#[]⟩ : ByteArray), .string (⟨#[]⟩ : ByteArray), .int .i64 0, .string (⟨#[]⟩ : ByteArray), .string (⟨#[]⟩ : ByteArray), .bool false]) (t := 24) ?_; intro gb308 hg w19 hbox hb; have BK308 := Aside0.mk (hbox); have GW308 := xge_ HB hg; have GE308 := xge_ HB hg; replace HB := xws_ HB hb; have NB307_308 := xlt_ BK307 hg; have NB308_307 := xgt_ BK307 hg; replace BK307 := xbb_ BK307 hb; clear hb hbox hg; have hnb20 := NB307_308.out; have hnc20 := NB308_307.out; have ⟨_, _, _, _, _, _, _, _, _, _, _, _⟩ := c6_ BK307) | ((with_reducible refine gate_callee (f := 13) rfl ?_); refine xgl_ (some 9) Tryz.func13 #[.agg #[.string a0_0, .string a0_1, .int .i64 a0_2, .string a0_3, .string a0_4, .bool a0_5]] ?_; (with_reducible refine (impl_GoodUrl.calls k a0_0 a0_1 a0_2 a0_3 a0_4 a0_5 true _ A3.out (HTB_.out.below (by first | (with_reducible exact Below.refl _ _) | (repeat (first | (with_reducible first | exact HB.out | exact Below.refl _ _ | apply below_alloc | apply pw_below_drewN | apply below_drew1 | refine below_set ?_ GE307.out | refine below_set ?_ GE308.out | refine below_set ?_ GE317.out) | exact HB.out)) | (repeat (first | exact Below.refl _ _ | apply below_alloc | apply pw_below_drewN | apply below_drew1 | refine below_set ?_ GE307.out | refine below_set ?_ GE308.out | refine below_set ?_ GE317.out))))).mono ?_); rintro e w22 ⟨rfl, hb⟩; refine ⟨_, rfl, ?_⟩; replace BK307 := xbb_ BK307 hb; replace BK308 := xbb_ BK308 hb; replace HB := xws_ HB hb; (try clear hb); (try clear hb2); (try clear hk); (try clear hi); have ⟨_, _, _, _, _, _, _, _, _, _, _, _⟩ := c6_ BK307) | ((with_reducible refine gate_callee (f := 14) rfl ?_); refine xgl_ (some 18) Tryz.func14 #[.agg #[.string a0_0, .string a0_1, .int .i64 a0_2, .string a0_3, .string a0_4, .bool a0_5], .string a1] ?_; (with_reducible refine (impl_resolved.calls k a0_0 a0_1 a0_2 a0_3 a0_4 a0_5 a1 t310 t311 t312 t313 t314 t315 true _ A13.out (HTB_.out.below (by first | (with_reducible exact Below.refl _ _) | (repeat (first | (with_reducible first | exact HB.out | exact Below.refl _ _ | apply below_alloc | apply pw_below_drewN | apply below_drew1 | refine below_set ?_ GE307.out | refine below_set ?_ GE308.out | refine below_set ?_ GE317.out) | exact HB.out)) | (repeat (first | exact Below.refl _ _ | apply below_alloc | apply pw_below_drewN | apply below_drew1 | refine below_set ?_ GE307.out | refine below_set ?_ GE308.out | refine below_set ?_ GE317.out))))).mono ?_); rintro e w24 ⟨rfl, hb⟩; refine ⟨_, rfl, ?_⟩; replace BK307 := xbb_ BK307 hb; replace BK308 := xbb_ BK308 hb; replace HB := xws_ HB hb; (try clear hb); (try clear hb2); (try clear hk); (try clear hi)) | ((with_reducible refine gate_dst (N := 6) rfl ?_); refine xbe_ (N := 6) (cs := #[.string (⟨#[]⟩ : ByteArray), .string (⟨#[]⟩ : ByteArray), .int .i64 0, .string (⟨#[]⟩ : ByteArray), .string (⟨#[]⟩ : ByteArray), .bool false]) (t := 24) ?_; intro gb317 hg w25 hbox hb; have BK317 := Aside0.mk (hbox); have GW317 := xge_ HB hg; have GE317 := xge_ HB hg; replace HB := xws_ HB hb; have NB307_317 := xlt_ BK307 hg; have NB317_307 := xgt_ BK307 hg; replace BK307 := xbb_ BK307 hb; have NB308_317 := xlt_ BK308 hg; have NB317_308 := xgt_ BK308 hg; replace BK308 := xbb_ BK308 hb; clear hb hbox hg; have hnb26 := NB317_307.out; have hnc26 := NB307_317.out; have hnb27 := NB317_308.out; have hnc27 := NB308_317.out; have ⟨_, _, _, _, _, _, _, _, _, _, _, _⟩ := c6_ BK317) | ((with_reducible refine gate_callee (f := 15) rfl ?_); refine xgl_ (some 26) Tryz.func15 #[.string t313] ?_; (with_reducible refine (impl_dropDots.calls k t313 t318 _ A15.out (HTB_.out.below (by first | (with_reducible exact Below.refl _ _) | (repeat (first | (with_reducible first | exact HB.out | exact Below.refl _ _ | apply below_alloc | apply pw_below_drewN | apply below_drew1 | refine below_set ?_ GE307.out | refine below_set ?_ GE308.out | refine below_set ?_ GE317.out) | exact HB.out)) | (repeat (first | exact Below.refl _ _ | apply below_alloc | apply pw_below_drewN | apply below_drew1 | refine below_set ?_ GE307.out | refine below_set ?_ GE308.out | refine below_set ?_ GE317.out))))).mono ?_); rintro e w29 ⟨rfl, hb⟩; refine ⟨_, rfl, ?_⟩; replace BK307 := Aside0.mk (blk_below (g := gb307) (o := .cells #[.string a0_0, .string a0_1, .int .i64 a0_2, .string a0_3, .string a0_4, .bool a0_5] 24 (0, 0)) (by (with_reducible repeat first | apply bN_ | apply bD_ | apply bA_ | refine blk_far ?_ NB307_317.out _); exact BK307.out) hb); replace BK308 := Aside0.mk (blk_below (g := gb308) (o := .cells #[.string (⟨#[]⟩ : ByteArray), .string (⟨#[]⟩ : ByteArray), .int .i64 0, .string (⟨#[]⟩ : ByteArray), .string (⟨#[]⟩ : ByteArray), .bool false] 24 (0, 0)) (by (with_reducible repeat first | apply bN_ | apply bD_ | apply bA_ | refine blk_far ?_ NB308_317.out _); exact BK308.out) hb); replace BK317 := Aside0.mk (blk_below (g := gb317) (o := .cells #[.string t310, .string t311, .int .i64 t312, .string t313, .string t314, .bool t315] 24 (0, 0)) (by (with_reducible repeat first | apply bN_ | apply bD_ | apply bA_); refine blk_put (cs := #[.string t310, .string t311, .int .i64 t312, .string t313, .string t314, .bool false]) ?_ 5 _ rfl; (with_reducible repeat first | apply bN_ | apply bD_ | apply bA_); refine blk_put (cs := #[.string t310, .string t311, .int .i64 t312, .string t313, .string (⟨#[]⟩ : ByteArray), .bool false]) ?_ 4 _ rfl; (with_reducible repeat first | apply bN_ | apply bD_ | apply bA_); refine blk_put (cs := #[.string t310, .string t311, .int .i64 t312, .string (⟨#[]⟩ : ByteArray), .string (⟨#[]⟩ : ByteArray), .bool false]) ?_ 3 _ rfl; (with_reducible repeat first | apply bN_ | apply bD_ | apply bA_); refine blk_put (cs := #[.string t310, .string t311, .int .i64 0, .string (⟨#[]⟩ : ByteArray), .string (⟨#[]⟩ : ByteArray), .bool false]) ?_ 2 _ rfl; (with_reducible repeat first | apply bN_ | apply bD_ | apply bA_); refine blk_put (cs := #[.string t310, .string (⟨#[]⟩ : ByteArray), .int .i64 0, .string (⟨#[]⟩ : ByteArray), .string (⟨#[]⟩ : ByteArray), .bool false]) ?_ 1 _ rfl; (with_reducible repeat first | apply bN_ | apply bD_ | apply bA_); refine blk_put (cs := #[.string (⟨#[]⟩ : ByteArray), .string (⟨#[]⟩ : ByteArray), .int .i64 0, .string (⟨#[]⟩ : ByteArray), .string (⟨#[]⟩ : ByteArray), .bool false]) ?_ 0 _ rfl; (with_reducible repeat first | apply bN_ | apply bD_ | apply bA_); exact BK317.out) hb); replace HB := xws_ HB hb; (try clear hb); (try clear hb2); (try clear hk); (try clear hi); have ⟨_, _, _, _, _, _, _, _, _, _, _, _⟩ := c6_ BK317) | ((with_reducible refine gate_callee (f := 13) rfl ?_); refine xgl_ (some 29) Tryz.func13 #[.agg #[.string t310, .string t311, .int .i64 t312, .string t318, .string t314, .bool t315]] ?_; (with_reducible refine (impl_GoodUrl.calls k t310 t311 t312 t318 t314 t315 true _ A16.out (HTB_.out.below (by first | (with_reducible exact Below.refl _ _) | (repeat (first | (with_reducible first | exact HB.out | exact Below.refl _ _ | apply below_alloc | apply pw_below_drewN | apply below_drew1 | refine below_set ?_ GE307.out | refine below_set ?_ GE308.out | refine below_set ?_ GE317.out) | exact HB.out)) | (repeat (first | exact Below.refl _ _ | apply below_alloc | apply pw_below_drewN | apply below_drew1 | refine below_set ?_ GE307.out | refine below_set ?_ GE308.out | refine below_set ?_ GE317.out))))).mono ?_); rintro e w31 ⟨rfl, hb⟩; refine ⟨_, rfl, ?_⟩; replace BK307 := Aside0.mk (blk_below (g := gb307) (o := .cells #[.string a0_0, .string a0_1, .int .i64 a0_2, .string a0_3, .string a0_4, .bool a0_5] 24 (0, 0)) (by (with_reducible repeat first | apply bN_ | apply bD_ | apply bA_ | refine blk_far ?_ NB307_317.out _); exact BK307.out) hb); replace BK308 := Aside0.mk (blk_below (g := gb308) (o := .cells #[.string (⟨#[]⟩ : ByteArray), .string (⟨#[]⟩ : ByteArray), .int .i64 0, .string (⟨#[]⟩ : ByteArray), .string (⟨#[]⟩ : ByteArray), .bool false] 24 (0, 0)) (by (with_reducible repeat first | apply bN_ | apply bD_ | apply bA_ | refine blk_far ?_ NB308_317.out _); exact BK308.out) hb); replace BK317 := Aside0.mk (blk_below (g := gb317) (o := .cells #[.string t310, .string t311, .int .i64 t312, .string t318, .string t314, .bool t315] 24 (0, 0)) (by (with_reducible repeat first | apply bN_ | apply bD_ | apply bA_); refine blk_put (cs := #[.string t310, .string t311, .int .i64 t312, .string t313, .string t314, .bool t315]) ?_ 3 _ rfl; (with_reducible repeat first | apply bN_ | apply bD_ | apply bA_); exact BK317.out) hb); replace HB := xws_ HB hb; (try clear hb); (try clear hb2); (try clear hk); (try clear hi); have ⟨_, _, _, _, _, _, _, _, _, _, _, _⟩ := c6_ BK317; have ⟨_, _, _, _, _, _, _, _, _, _, _, _⟩ := c6_ BK308))
     refine bodyPost_ret (results_ct rfl _ _ gb308 24 #[.string t310, .string t311, .int .i64 t312, .string t318, .string t314, .bool t315] (0, 0) _ rfl (by (with_reducible repeat first | apply bN_ | apply bD_ | apply bA_); refine blk_put (cs := #[.string t310, .string t311, .int .i64 t312, .string t318, .string t314, .bool false]) ?_ 5 _ rfl; (with_reducible repeat first | apply bN_ | apply bD_ | apply bA_); refine blk_put (cs := #[.string t310, .string t311, .int .i64 t312, .string t318, .string (⟨#[]⟩ : ByteArray), .bool false]) ?_ 4 _ rfl; (with_reducible repeat first | apply bN_ | apply bD_ | apply bA_); refine blk_put (cs := #[.string t310, .string t311, .int .i64 t312, .string (⟨#[]⟩ : ByteArray), .string (⟨#[]⟩ : ByteArray), .bool false]) ?_ 3 _ rfl; (with_reducible repeat first | apply bN_ | apply bD_ | apply bA_); refine blk_put (cs := #[.string t310, .string t311, .int .i64 0, .string (⟨#[]⟩ : ByteArray), .string (⟨#[]⟩ : ByteArray), .bool false]) ?_ 2 _ rfl; (with_reducible repeat first | apply bN_ | apply bD_ | apply bA_); refine blk_put (cs := #[.string t310, .string (⟨#[]⟩ : ByteArray), .int .i64 0, .string (⟨#[]⟩ : ByteArray), .string (⟨#[]⟩ : ByteArray), .bool false]) ?_ 1 _ rfl; (with_reducible repeat first | apply bN_ | apply bD_ | apply bA_); refine blk_put (cs := #[.string (⟨#[]⟩ : ByteArray), .string (⟨#[]⟩ : ByteArray), .int .i64 0, .string (⟨#[]⟩ : ByteArray), .string (⟨#[]⟩ : ByteArray), .bool false]) ?_ 0 _ rfl; (with_reducible repeat first | apply bN_ | apply bD_ | apply bA_); exact BK308.out) Tryz.underlying24 rfl (by kernel_rfl)) rfl ?_
     exact ⟨by first | rfl | (simp [errW_none, errW_some] <;> rfl) | (simp [*, errW_none, errW_some] <;> rfl), xw_ HB⟩
    ·replace c17 := Bool.eq_false_iff.mpr c17
     subst c17
     have H1 : (some ((⟨#[]⟩ : ByteArray), (⟨#[]⟩ : ByteArray), 0, (⟨#[]⟩ : ByteArray), (⟨#[]⟩ : ByteArray), false, false)) = some (r1, r2, r3, r4, r5, r6, r7) := by rw [if_neg (show ¬ (false = true) by decide)] at H; exact H
     clear H
     have H := H1
     clear H1
     simp only [Option.some.injEq, Prod.mk.injEq] at H
     obtain ⟨rfl, rfl, rfl, rfl, rfl, rfl, rfl⟩ := H
     go_enter Tryz.func5, Tryz.ntmps5
     go_wp2_with (first | ((with_reducible refine gate_dst (N := 2) rfl ?_); refine xbe_ (N := 2) (cs := #[.string a0_0, .string a0_1, .int .i64 a0_2, .string a0_3, .string a0_4, .bool a0_5]) (t := 24) ?_; intro gb307 hg w34 hbox hb; have BK307 := Aside0.mk (hbox); have GW307 := xge_ HB hg; have GE307 := xge_ HB hg; replace HB := xws_ HB hb; clear hb hbox hg) | ((with_reducible refine gate_dst (N := 4) rfl ?_); refine xbe_ (N := 4) (cs := #[.string (⟨#[]⟩ : ByteArray), .string (⟨#[]⟩ : ByteArray), .int .i64 0, .string (⟨#[]⟩ : ByteArray), .string (⟨#[]⟩ : ByteArray), .bool false]) (t := 24) ?_; intro gb308 hg w35 hbox hb; have BK308 := Aside0.mk (hbox); have GW308 := xge_ HB hg; have GE308 := xge_ HB hg; replace HB := xws_ HB hb; have NB307_308 := xlt_ BK307 hg; have NB308_307 := xgt_ BK307 hg; replace BK307 := xbb_ BK307 hb; clear hb hbox hg; have hnb36 := NB307_308.out; have hnc36 := NB308_307.out; have ⟨_, _, _, _, _, _, _, _, _, _, _, _⟩ := c6_ BK307) | ((with_reducible refine gate_callee (f := 13) rfl ?_); refine xgl_ (some 9) Tryz.func13 #[.agg #[.string a0_0, .string a0_1, .int .i64 a0_2, .string a0_3, .string a0_4, .bool a0_5]] ?_; (with_reducible refine (impl_GoodUrl.calls k a0_0 a0_1 a0_2 a0_3 a0_4 a0_5 true _ A3.out (HTB_.out.below (by first | (with_reducible exact Below.refl _ _) | (repeat (first | (with_reducible first | exact HB.out | exact Below.refl _ _ | apply below_alloc | apply pw_below_drewN | apply below_drew1 | refine below_set ?_ GE307.out | refine below_set ?_ GE308.out | refine below_set ?_ GE317.out) | exact HB.out)) | (repeat (first | exact Below.refl _ _ | apply below_alloc | apply pw_below_drewN | apply below_drew1 | refine below_set ?_ GE307.out | refine below_set ?_ GE308.out | refine below_set ?_ GE317.out))))).mono ?_); rintro e w38 ⟨rfl, hb⟩; refine ⟨_, rfl, ?_⟩; replace BK307 := xbb_ BK307 hb; replace BK308 := xbb_ BK308 hb; replace HB := xws_ HB hb; (try clear hb); (try clear hb2); (try clear hk); (try clear hi); have ⟨_, _, _, _, _, _, _, _, _, _, _, _⟩ := c6_ BK307) | ((with_reducible refine gate_callee (f := 14) rfl ?_); refine xgl_ (some 18) Tryz.func14 #[.agg #[.string a0_0, .string a0_1, .int .i64 a0_2, .string a0_3, .string a0_4, .bool a0_5], .string a1] ?_; (with_reducible refine (impl_resolved.calls k a0_0 a0_1 a0_2 a0_3 a0_4 a0_5 a1 t310 t311 t312 t313 t314 t315 true _ A13.out (HTB_.out.below (by first | (with_reducible exact Below.refl _ _) | (repeat (first | (with_reducible first | exact HB.out | exact Below.refl _ _ | apply below_alloc | apply pw_below_drewN | apply below_drew1 | refine below_set ?_ GE307.out | refine below_set ?_ GE308.out | refine below_set ?_ GE317.out) | exact HB.out)) | (repeat (first | exact Below.refl _ _ | apply below_alloc | apply pw_below_drewN | apply below_drew1 | refine below_set ?_ GE307.out | refine below_set ?_ GE308.out | refine below_set ?_ GE317.out))))).mono ?_); rintro e w40 ⟨rfl, hb⟩; refine ⟨_, rfl, ?_⟩; replace BK307 := xbb_ BK307 hb; replace BK308 := xbb_ BK308 hb; replace HB := xws_ HB hb; (try clear hb); (try clear hb2); (try clear hk); (try clear hi)) | ((with_reducible refine gate_dst (N := 6) rfl ?_); refine xbe_ (N := 6) (cs := #[.string (⟨#[]⟩ : ByteArray), .string (⟨#[]⟩ : ByteArray), .int .i64 0, .string (⟨#[]⟩ : ByteArray), .string (⟨#[]⟩ : ByteArray), .bool false]) (t := 24) ?_; intro gb317 hg w41 hbox hb; have BK317 := Aside0.mk (hbox); have GW317 := xge_ HB hg; have GE317 := xge_ HB hg; replace HB := xws_ HB hb; have NB307_317 := xlt_ BK307 hg; have NB317_307 := xgt_ BK307 hg; replace BK307 := xbb_ BK307 hb; have NB308_317 := xlt_ BK308 hg; have NB317_308 := xgt_ BK308 hg; replace BK308 := xbb_ BK308 hb; clear hb hbox hg; have hnb42 := NB317_307.out; have hnc42 := NB307_317.out; have hnb43 := NB317_308.out; have hnc43 := NB308_317.out; have ⟨_, _, _, _, _, _, _, _, _, _, _, _⟩ := c6_ BK317) | ((with_reducible refine gate_callee (f := 15) rfl ?_); refine xgl_ (some 26) Tryz.func15 #[.string t313] ?_; (with_reducible refine (impl_dropDots.calls k t313 t318 _ A15.out (HTB_.out.below (by first | (with_reducible exact Below.refl _ _) | (repeat (first | (with_reducible first | exact HB.out | exact Below.refl _ _ | apply below_alloc | apply pw_below_drewN | apply below_drew1 | refine below_set ?_ GE307.out | refine below_set ?_ GE308.out | refine below_set ?_ GE317.out) | exact HB.out)) | (repeat (first | exact Below.refl _ _ | apply below_alloc | apply pw_below_drewN | apply below_drew1 | refine below_set ?_ GE307.out | refine below_set ?_ GE308.out | refine below_set ?_ GE317.out))))).mono ?_); rintro e w45 ⟨rfl, hb⟩; refine ⟨_, rfl, ?_⟩; replace BK307 := Aside0.mk (blk_below (g := gb307) (o := .cells #[.string a0_0, .string a0_1, .int .i64 a0_2, .string a0_3, .string a0_4, .bool a0_5] 24 (0, 0)) (by (with_reducible repeat first | apply bN_ | apply bD_ | apply bA_ | refine blk_far ?_ NB307_317.out _); exact BK307.out) hb); replace BK308 := Aside0.mk (blk_below (g := gb308) (o := .cells #[.string (⟨#[]⟩ : ByteArray), .string (⟨#[]⟩ : ByteArray), .int .i64 0, .string (⟨#[]⟩ : ByteArray), .string (⟨#[]⟩ : ByteArray), .bool false] 24 (0, 0)) (by (with_reducible repeat first | apply bN_ | apply bD_ | apply bA_ | refine blk_far ?_ NB308_317.out _); exact BK308.out) hb); replace BK317 := Aside0.mk (blk_below (g := gb317) (o := .cells #[.string t310, .string t311, .int .i64 t312, .string t313, .string t314, .bool t315] 24 (0, 0)) (by (with_reducible repeat first | apply bN_ | apply bD_ | apply bA_); refine blk_put (cs := #[.string t310, .string t311, .int .i64 t312, .string t313, .string t314, .bool false]) ?_ 5 _ rfl; (with_reducible repeat first | apply bN_ | apply bD_ | apply bA_); refine blk_put (cs := #[.string t310, .string t311, .int .i64 t312, .string t313, .string (⟨#[]⟩ : ByteArray), .bool false]) ?_ 4 _ rfl; (with_reducible repeat first | apply bN_ | apply bD_ | apply bA_); refine blk_put (cs := #[.string t310, .string t311, .int .i64 t312, .string (⟨#[]⟩ : ByteArray), .string (⟨#[]⟩ : ByteArray), .bool false]) ?_ 3 _ rfl; (with_reducible repeat first | apply bN_ | apply bD_ | apply bA_); refine blk_put (cs := #[.string t310, .string t311, .int .i64 0, .string (⟨#[]⟩ : ByteArray), .string (⟨#[]⟩ : ByteArray), .bool false]) ?_ 2 _ rfl; (with_reducible repeat first | apply bN_ | apply bD_ | apply bA_); refine blk_put (cs := #[.string t310, .string (⟨#[]⟩ : ByteArray), .int .i64 0, .string (⟨#[]⟩ : ByteArray), .string (⟨#[]⟩ : ByteArray), .bool false]) ?_ 1 _ rfl; (with_reducible repeat first | apply bN_ | apply bD_ | apply bA_); refine blk_put (cs := #[.string (⟨#[]⟩ : ByteArray), .string (⟨#[]⟩ : ByteArray), .int .i64 0, .string (⟨#[]⟩ : ByteArray), .string (⟨#[]⟩ : ByteArray), .bool false]) ?_ 0 _ rfl; (with_reducible repeat first | apply bN_ | apply bD_ | apply bA_); exact BK317.out) hb); replace HB := xws_ HB hb; (try clear hb); (try clear hb2); (try clear hk); (try clear hi); have ⟨_, _, _, _, _, _, _, _, _, _, _, _⟩ := c6_ BK317) | ((with_reducible refine gate_callee (f := 13) rfl ?_); refine xgl_ (some 29) Tryz.func13 #[.agg #[.string t310, .string t311, .int .i64 t312, .string t318, .string t314, .bool t315]] ?_; (with_reducible refine (impl_GoodUrl.calls k t310 t311 t312 t318 t314 t315 false _ A16.out (HTB_.out.below (by first | (with_reducible exact Below.refl _ _) | (repeat (first | (with_reducible first | exact HB.out | exact Below.refl _ _ | apply below_alloc | apply pw_below_drewN | apply below_drew1 | refine below_set ?_ GE307.out | refine below_set ?_ GE308.out | refine below_set ?_ GE317.out) | exact HB.out)) | (repeat (first | exact Below.refl _ _ | apply below_alloc | apply pw_below_drewN | apply below_drew1 | refine below_set ?_ GE307.out | refine below_set ?_ GE308.out | refine below_set ?_ GE317.out))))).mono ?_); rintro e w47 ⟨rfl, hb⟩; refine ⟨_, rfl, ?_⟩; replace BK307 := Aside0.mk (blk_below (g := gb307) (o := .cells #[.string a0_0, .string a0_1, .int .i64 a0_2, .string a0_3, .string a0_4, .bool a0_5] 24 (0, 0)) (by (with_reducible repeat first | apply bN_ | apply bD_ | apply bA_ | refine blk_far ?_ NB307_317.out _); exact BK307.out) hb); replace BK308 := Aside0.mk (blk_below (g := gb308) (o := .cells #[.string (⟨#[]⟩ : ByteArray), .string (⟨#[]⟩ : ByteArray), .int .i64 0, .string (⟨#[]⟩ : ByteArray), .string (⟨#[]⟩ : ByteArray), .bool false] 24 (0, 0)) (by (with_reducible repeat first | apply bN_ | apply bD_ | apply bA_ | refine blk_far ?_ NB308_317.out _); exact BK308.out) hb); replace BK317 := Aside0.mk (blk_below (g := gb317) (o := .cells #[.string t310, .string t311, .int .i64 t312, .string t318, .string t314, .bool t315] 24 (0, 0)) (by (with_reducible repeat first | apply bN_ | apply bD_ | apply bA_); refine blk_put (cs := #[.string t310, .string t311, .int .i64 t312, .string t313, .string t314, .bool t315]) ?_ 3 _ rfl; (with_reducible repeat first | apply bN_ | apply bD_ | apply bA_); exact BK317.out) hb); replace HB := xws_ HB hb; (try clear hb); (try clear hb2); (try clear hk); (try clear hi); have ⟨_, _, _, _, _, _, _, _, _, _, _, _⟩ := c6_ BK308))
     refine bodyPost_ret (results_ct rfl _ _ gb308 24 #[.string (⟨#[]⟩ : ByteArray), .string (⟨#[]⟩ : ByteArray), .int .i64 0, .string (⟨#[]⟩ : ByteArray), .string (⟨#[]⟩ : ByteArray), .bool false] (0, 0) _ rfl (by (with_reducible repeat first | apply bN_ | apply bD_ | apply bA_); refine blk_put (cs := #[.string (⟨#[]⟩ : ByteArray), .string (⟨#[]⟩ : ByteArray), .int .i64 0, .string (⟨#[]⟩ : ByteArray), .string (⟨#[]⟩ : ByteArray), .bool false]) ?_ 5 _ rfl; (with_reducible repeat first | apply bN_ | apply bD_ | apply bA_); refine blk_put (cs := #[.string (⟨#[]⟩ : ByteArray), .string (⟨#[]⟩ : ByteArray), .int .i64 0, .string (⟨#[]⟩ : ByteArray), .string (⟨#[]⟩ : ByteArray), .bool false]) ?_ 4 _ rfl; (with_reducible repeat first | apply bN_ | apply bD_ | apply bA_); refine blk_put (cs := #[.string (⟨#[]⟩ : ByteArray), .string (⟨#[]⟩ : ByteArray), .int .i64 0, .string (⟨#[]⟩ : ByteArray), .string (⟨#[]⟩ : ByteArray), .bool false]) ?_ 3 _ rfl; (with_reducible repeat first | apply bN_ | apply bD_ | apply bA_); refine blk_put (cs := #[.string (⟨#[]⟩ : ByteArray), .string (⟨#[]⟩ : ByteArray), .int .i64 0, .string (⟨#[]⟩ : ByteArray), .string (⟨#[]⟩ : ByteArray), .bool false]) ?_ 2 _ rfl; (with_reducible repeat first | apply bN_ | apply bD_ | apply bA_); refine blk_put (cs := #[.string (⟨#[]⟩ : ByteArray), .string (⟨#[]⟩ : ByteArray), .int .i64 0, .string (⟨#[]⟩ : ByteArray), .string (⟨#[]⟩ : ByteArray), .bool false]) ?_ 1 _ rfl; (with_reducible repeat first | apply bN_ | apply bD_ | apply bA_); refine blk_put (cs := #[.string (⟨#[]⟩ : ByteArray), .string (⟨#[]⟩ : ByteArray), .int .i64 0, .string (⟨#[]⟩ : ByteArray), .string (⟨#[]⟩ : ByteArray), .bool false]) ?_ 0 _ rfl; (with_reducible repeat first | apply bN_ | apply bD_ | apply bA_); exact BK308.out) Tryz.underlying24 rfl (by kernel_rfl)) rfl ?_
     exact ⟨by first | rfl | (simp [errW_none, errW_some] <;> rfl) | (simp [*, errW_none, errW_some] <;> rfl), xw_ HB⟩
   ·replace c14 := Bool.eq_false_iff.mpr c14
    subst c14
    have H1 : (some ((⟨#[]⟩ : ByteArray), (⟨#[]⟩ : ByteArray), 0, (⟨#[]⟩ : ByteArray), (⟨#[]⟩ : ByteArray), false, false)) = some (r1, r2, r3, r4, r5, r6, r7) := by rw [if_neg (show ¬ (false = true) by decide)] at H; exact H
    clear H
    have H := H1
    clear H1
    simp only [Option.some.injEq, Prod.mk.injEq] at H
    obtain ⟨rfl, rfl, rfl, rfl, rfl, rfl, rfl⟩ := H
    go_enter Tryz.func5, Tryz.ntmps5
    go_wp2_with (first | ((with_reducible refine gate_dst (N := 2) rfl ?_); refine xbe_ (N := 2) (cs := #[.string a0_0, .string a0_1, .int .i64 a0_2, .string a0_3, .string a0_4, .bool a0_5]) (t := 24) ?_; intro gb307 hg w49 hbox hb; have BK307 := Aside0.mk (hbox); have GW307 := xge_ HB hg; have GE307 := xge_ HB hg; replace HB := xws_ HB hb; clear hb hbox hg) | ((with_reducible refine gate_dst (N := 4) rfl ?_); refine xbe_ (N := 4) (cs := #[.string (⟨#[]⟩ : ByteArray), .string (⟨#[]⟩ : ByteArray), .int .i64 0, .string (⟨#[]⟩ : ByteArray), .string (⟨#[]⟩ : ByteArray), .bool false]) (t := 24) ?_; intro gb308 hg w50 hbox hb; have BK308 := Aside0.mk (hbox); have GW308 := xge_ HB hg; have GE308 := xge_ HB hg; replace HB := xws_ HB hb; have NB307_308 := xlt_ BK307 hg; have NB308_307 := xgt_ BK307 hg; replace BK307 := xbb_ BK307 hb; clear hb hbox hg; have hnb51 := NB307_308.out; have hnc51 := NB308_307.out; have ⟨_, _, _, _, _, _, _, _, _, _, _, _⟩ := c6_ BK307) | ((with_reducible refine gate_callee (f := 13) rfl ?_); refine xgl_ (some 9) Tryz.func13 #[.agg #[.string a0_0, .string a0_1, .int .i64 a0_2, .string a0_3, .string a0_4, .bool a0_5]] ?_; (with_reducible refine (impl_GoodUrl.calls k a0_0 a0_1 a0_2 a0_3 a0_4 a0_5 true _ A3.out (HTB_.out.below (by first | (with_reducible exact Below.refl _ _) | (repeat (first | (with_reducible first | exact HB.out | exact Below.refl _ _ | apply below_alloc | apply pw_below_drewN | apply below_drew1 | refine below_set ?_ GE307.out | refine below_set ?_ GE308.out | refine below_set ?_ GE317.out) | exact HB.out)) | (repeat (first | exact Below.refl _ _ | apply below_alloc | apply pw_below_drewN | apply below_drew1 | refine below_set ?_ GE307.out | refine below_set ?_ GE308.out | refine below_set ?_ GE317.out))))).mono ?_); rintro e w53 ⟨rfl, hb⟩; refine ⟨_, rfl, ?_⟩; replace BK307 := xbb_ BK307 hb; replace BK308 := xbb_ BK308 hb; replace HB := xws_ HB hb; (try clear hb); (try clear hb2); (try clear hk); (try clear hi); have ⟨_, _, _, _, _, _, _, _, _, _, _, _⟩ := c6_ BK307) | ((with_reducible refine gate_callee (f := 14) rfl ?_); refine xgl_ (some 18) Tryz.func14 #[.agg #[.string a0_0, .string a0_1, .int .i64 a0_2, .string a0_3, .string a0_4, .bool a0_5], .string a1] ?_; (with_reducible refine (impl_resolved.calls k a0_0 a0_1 a0_2 a0_3 a0_4 a0_5 a1 t310 t311 t312 t313 t314 t315 false _ A13.out (HTB_.out.below (by first | (with_reducible exact Below.refl _ _) | (repeat (first | (with_reducible first | exact HB.out | exact Below.refl _ _ | apply below_alloc | apply pw_below_drewN | apply below_drew1 | refine below_set ?_ GE307.out | refine below_set ?_ GE308.out | refine below_set ?_ GE317.out) | exact HB.out)) | (repeat (first | exact Below.refl _ _ | apply below_alloc | apply pw_below_drewN | apply below_drew1 | refine below_set ?_ GE307.out | refine below_set ?_ GE308.out | refine below_set ?_ GE317.out))))).mono ?_); rintro e w55 ⟨rfl, hb⟩; refine ⟨_, rfl, ?_⟩; replace BK307 := xbb_ BK307 hb; replace BK308 := xbb_ BK308 hb; replace HB := xws_ HB hb; (try clear hb); (try clear hb2); (try clear hk); (try clear hi)) | ((with_reducible refine gate_dst (N := 6) rfl ?_); refine xbe_ (N := 6) (cs := #[.string (⟨#[]⟩ : ByteArray), .string (⟨#[]⟩ : ByteArray), .int .i64 0, .string (⟨#[]⟩ : ByteArray), .string (⟨#[]⟩ : ByteArray), .bool false]) (t := 24) ?_; intro gb317 hg w56 hbox hb; have BK317 := Aside0.mk (hbox); have GW317 := xge_ HB hg; have GE317 := xge_ HB hg; replace HB := xws_ HB hb; have NB307_317 := xlt_ BK307 hg; have NB317_307 := xgt_ BK307 hg; replace BK307 := xbb_ BK307 hb; have NB308_317 := xlt_ BK308 hg; have NB317_308 := xgt_ BK308 hg; replace BK308 := xbb_ BK308 hb; clear hb hbox hg; have hnb57 := NB317_307.out; have hnc57 := NB307_317.out; have hnb58 := NB317_308.out; have hnc58 := NB308_317.out; have ⟨_, _, _, _, _, _, _, _, _, _, _, _⟩ := c6_ BK317; have ⟨_, _, _, _, _, _, _, _, _, _, _, _⟩ := c6_ BK308))
    refine bodyPost_ret (results_ct rfl _ _ gb308 24 #[.string (⟨#[]⟩ : ByteArray), .string (⟨#[]⟩ : ByteArray), .int .i64 0, .string (⟨#[]⟩ : ByteArray), .string (⟨#[]⟩ : ByteArray), .bool false] (0, 0) _ rfl (by (with_reducible repeat first | apply bN_ | apply bD_ | apply bA_); refine blk_put (cs := #[.string (⟨#[]⟩ : ByteArray), .string (⟨#[]⟩ : ByteArray), .int .i64 0, .string (⟨#[]⟩ : ByteArray), .string (⟨#[]⟩ : ByteArray), .bool false]) ?_ 5 _ rfl; (with_reducible repeat first | apply bN_ | apply bD_ | apply bA_); refine blk_put (cs := #[.string (⟨#[]⟩ : ByteArray), .string (⟨#[]⟩ : ByteArray), .int .i64 0, .string (⟨#[]⟩ : ByteArray), .string (⟨#[]⟩ : ByteArray), .bool false]) ?_ 4 _ rfl; (with_reducible repeat first | apply bN_ | apply bD_ | apply bA_); refine blk_put (cs := #[.string (⟨#[]⟩ : ByteArray), .string (⟨#[]⟩ : ByteArray), .int .i64 0, .string (⟨#[]⟩ : ByteArray), .string (⟨#[]⟩ : ByteArray), .bool false]) ?_ 3 _ rfl; (with_reducible repeat first | apply bN_ | apply bD_ | apply bA_); refine blk_put (cs := #[.string (⟨#[]⟩ : ByteArray), .string (⟨#[]⟩ : ByteArray), .int .i64 0, .string (⟨#[]⟩ : ByteArray), .string (⟨#[]⟩ : ByteArray), .bool false]) ?_ 2 _ rfl; (with_reducible repeat first | apply bN_ | apply bD_ | apply bA_); refine blk_put (cs := #[.string (⟨#[]⟩ : ByteArray), .string (⟨#[]⟩ : ByteArray), .int .i64 0, .string (⟨#[]⟩ : ByteArray), .string (⟨#[]⟩ : ByteArray), .bool false]) ?_ 1 _ rfl; (with_reducible repeat first | apply bN_ | apply bD_ | apply bA_); refine blk_put (cs := #[.string (⟨#[]⟩ : ByteArray), .string (⟨#[]⟩ : ByteArray), .int .i64 0, .string (⟨#[]⟩ : ByteArray), .string (⟨#[]⟩ : ByteArray), .bool false]) ?_ 0 _ rfl; (with_reducible repeat first | apply bN_ | apply bD_ | apply bA_ | refine blk_far ?_ NB308_317.out _); exact BK308.out) Tryz.underlying24 rfl (by kernel_rfl)) rfl ?_
    exact ⟨by first | rfl | (simp [errW_none, errW_some] <;> rfl) | (simp [*, errW_none, errW_some] <;> rfl), xw_ HB⟩
 ·replace c4 := Bool.eq_false_iff.mpr c4
  subst c4
  have H1 : (some ((⟨#[]⟩ : ByteArray), (⟨#[]⟩ : ByteArray), 0, (⟨#[]⟩ : ByteArray), (⟨#[]⟩ : ByteArray), false, false)) = some (r1, r2, r3, r4, r5, r6, r7) := by rw [if_neg (show ¬ (false = true) by decide)] at H; exact H
  clear H
  have H := H1
  clear H1
  simp only [Option.some.injEq, Prod.mk.injEq] at H
  obtain ⟨rfl, rfl, rfl, rfl, rfl, rfl, rfl⟩ := H
  go_enter Tryz.func5, Tryz.ntmps5
  go_wp2_with (first | ((with_reducible refine gate_dst (N := 2) rfl ?_); refine xbe_ (N := 2) (cs := #[.string a0_0, .string a0_1, .int .i64 a0_2, .string a0_3, .string a0_4, .bool a0_5]) (t := 24) ?_; intro gb307 hg w61 hbox hb; have BK307 := Aside0.mk (hbox); have GW307 := xge_ HB hg; have GE307 := xge_ HB hg; replace HB := xws_ HB hb; clear hb hbox hg) | ((with_reducible refine gate_dst (N := 4) rfl ?_); refine xbe_ (N := 4) (cs := #[.string (⟨#[]⟩ : ByteArray), .string (⟨#[]⟩ : ByteArray), .int .i64 0, .string (⟨#[]⟩ : ByteArray), .string (⟨#[]⟩ : ByteArray), .bool false]) (t := 24) ?_; intro gb308 hg w62 hbox hb; have BK308 := Aside0.mk (hbox); have GW308 := xge_ HB hg; have GE308 := xge_ HB hg; replace HB := xws_ HB hb; have NB307_308 := xlt_ BK307 hg; have NB308_307 := xgt_ BK307 hg; replace BK307 := xbb_ BK307 hb; clear hb hbox hg; have hnb63 := NB307_308.out; have hnc63 := NB308_307.out; have ⟨_, _, _, _, _, _, _, _, _, _, _, _⟩ := c6_ BK307) | ((with_reducible refine gate_callee (f := 13) rfl ?_); refine xgl_ (some 9) Tryz.func13 #[.agg #[.string a0_0, .string a0_1, .int .i64 a0_2, .string a0_3, .string a0_4, .bool a0_5]] ?_; (with_reducible refine (impl_GoodUrl.calls k a0_0 a0_1 a0_2 a0_3 a0_4 a0_5 false _ A3.out (HTB_.out.below (by first | (with_reducible exact Below.refl _ _) | (repeat (first | (with_reducible first | exact HB.out | exact Below.refl _ _ | apply below_alloc | apply pw_below_drewN | apply below_drew1 | refine below_set ?_ GE307.out | refine below_set ?_ GE308.out | refine below_set ?_ GE317.out) | exact HB.out)) | (repeat (first | exact Below.refl _ _ | apply below_alloc | apply pw_below_drewN | apply below_drew1 | refine below_set ?_ GE307.out | refine below_set ?_ GE308.out | refine below_set ?_ GE317.out))))).mono ?_); rintro e w65 ⟨rfl, hb⟩; refine ⟨_, rfl, ?_⟩; replace BK307 := xbb_ BK307 hb; replace BK308 := xbb_ BK308 hb; replace HB := xws_ HB hb; (try clear hb); (try clear hb2); (try clear hk); (try clear hi); have ⟨_, _, _, _, _, _, _, _, _, _, _, _⟩ := c6_ BK308))
  refine bodyPost_ret (results_ct rfl _ _ gb308 24 #[.string (⟨#[]⟩ : ByteArray), .string (⟨#[]⟩ : ByteArray), .int .i64 0, .string (⟨#[]⟩ : ByteArray), .string (⟨#[]⟩ : ByteArray), .bool false] (0, 0) _ rfl (by (with_reducible repeat first | apply bN_ | apply bD_ | apply bA_); refine blk_put (cs := #[.string (⟨#[]⟩ : ByteArray), .string (⟨#[]⟩ : ByteArray), .int .i64 0, .string (⟨#[]⟩ : ByteArray), .string (⟨#[]⟩ : ByteArray), .bool false]) ?_ 5 _ rfl; (with_reducible repeat first | apply bN_ | apply bD_ | apply bA_); refine blk_put (cs := #[.string (⟨#[]⟩ : ByteArray), .string (⟨#[]⟩ : ByteArray), .int .i64 0, .string (⟨#[]⟩ : ByteArray), .string (⟨#[]⟩ : ByteArray), .bool false]) ?_ 4 _ rfl; (with_reducible repeat first | apply bN_ | apply bD_ | apply bA_); refine blk_put (cs := #[.string (⟨#[]⟩ : ByteArray), .string (⟨#[]⟩ : ByteArray), .int .i64 0, .string (⟨#[]⟩ : ByteArray), .string (⟨#[]⟩ : ByteArray), .bool false]) ?_ 3 _ rfl; (with_reducible repeat first | apply bN_ | apply bD_ | apply bA_); refine blk_put (cs := #[.string (⟨#[]⟩ : ByteArray), .string (⟨#[]⟩ : ByteArray), .int .i64 0, .string (⟨#[]⟩ : ByteArray), .string (⟨#[]⟩ : ByteArray), .bool false]) ?_ 2 _ rfl; (with_reducible repeat first | apply bN_ | apply bD_ | apply bA_); refine blk_put (cs := #[.string (⟨#[]⟩ : ByteArray), .string (⟨#[]⟩ : ByteArray), .int .i64 0, .string (⟨#[]⟩ : ByteArray), .string (⟨#[]⟩ : ByteArray), .bool false]) ?_ 1 _ rfl; (with_reducible repeat first | apply bN_ | apply bD_ | apply bA_); refine blk_put (cs := #[.string (⟨#[]⟩ : ByteArray), .string (⟨#[]⟩ : ByteArray), .int .i64 0, .string (⟨#[]⟩ : ByteArray), .string (⟨#[]⟩ : ByteArray), .bool false]) ?_ 0 _ rfl; (with_reducible repeat first | apply bN_ | apply bD_ | apply bA_); exact BK308.out) Tryz.underlying24 rfl (by kernel_rfl)) rfl ?_
  exact ⟨by first | rfl | (simp [errW_none, errW_some] <;> rfl) | (simp [*, errW_none, errW_some] <;> rfl), xw_ HB⟩

/-! ### spec_l1In: function 36 -/
def spec_l1In.f (a0 : Int) (a1 : Int) (a2 : Int) : Option (Bool) := if a0 ≥ a1 then (some (decide (a0 ≤ a2))) else (some false)
set_option maxHeartbeats 8000000 in
set_option maxRecDepth 100000 in
theorem spec_l1In.calls (a0 : Int) (a1 : Int) (a2 : Int) (r : Bool) (w : World) (h : spec_l1In.f a0 a1 a2 = some r) :
  Calls Tryz.prog 36 #[.int .i64 a0, .int .i64 a1, .int .i64 a2] w fun e w' => e = .returned (.bool r) ∧ Drawn0 w w' := by
 have H : (if a0 ≥ a1 then (some (decide (a0 ≤ a2))) else (some false)) = some r := h
 clear h
 by_cases c4 : a0 ≥ a1
 ·rw [if_pos c4] at H
  have c4b0 : decide (a1 ≤ a0) = true := decide_eq_true c4
  clear c4
  obtain rfl := Option.some.inj H
  go_enter Tryz.func36, Tryz.ntmps36
  go_wp2
  go_ret
  exact ⟨by first | rfl | (simp; done) | (simp [*]; done), by repeat (first | exact Drawn0.refl _ | apply Drawn0.step)⟩
 ·rw [if_neg c4] at H
  have c4b0 : decide (a1 ≤ a0) = false := decide_eq_false c4
  clear c4
  obtain rfl := Option.some.inj H
  go_enter Tryz.func36, Tryz.ntmps36
  go_wp2
  go_ret
  exact ⟨by first | rfl | (simp; done) | (simp [*]; done), by repeat (first | exact Drawn0.refl _ | apply Drawn0.step)⟩

/-! ### spec_l1Letter: function 55 -/
def spec_l1Letter.f (a0 : Int) : Option (Bool) := if a0 ≥ 97 then (if a0 ≤ 122 then (some true) else (if a0 ≥ 65 then (some (decide (a0 ≤ 90))) else (some false))) else (if a0 ≥ 65 then (some (decide (a0 ≤ 90))) else (some false))
set_option maxHeartbeats 8000000 in
set_option maxRecDepth 100000 in
theorem spec_l1Letter.calls (a0 : Int) (r : Bool) (w : World) (h : spec_l1Letter.f a0 = some r) :
  Calls Tryz.prog 55 #[.int .u8 a0] w fun e w' => e = .returned (.bool r) ∧ Drawn0 w w' := by
 have H : (if a0 ≥ 97 then (if a0 ≤ 122 then (some true) else (if a0 ≥ 65 then (some (decide (a0 ≤ 90))) else (some false))) else (if a0 ≥ 65 then (some (decide (a0 ≤ 90))) else (some false))) = some r := h
 clear h
 by_cases c2 : a0 ≥ 97
 ·rw [if_pos c2] at H
  have c2b0 : decide (97 ≤ a0) = true := decide_eq_true c2
  clear c2
  by_cases c3 : a0 ≤ 122
  ·rw [if_pos c3] at H
   have c3b0 : decide (a0 ≤ 122) = true := decide_eq_true c3
   clear c3
   obtain rfl := Option.some.inj H
   go_enter Tryz.func55, Tryz.ntmps55
   go_wp2
   go_ret
   exact ⟨by first | rfl | (simp; done) | (simp [*]; done), by repeat (first | exact Drawn0.refl _ | apply Drawn0.step)⟩
  ·rw [if_neg c3] at H
   have c3b0 : decide (a0 ≤ 122) = false := decide_eq_false c3
   clear c3
   by_cases c4 : a0 ≥ 65
   ·rw [if_pos c4] at H
    have c4b0 : decide (65 ≤ a0) = true := decide_eq_true c4
    clear c4
    obtain rfl := Option.some.inj H
    go_enter Tryz.func55, Tryz.ntmps55
    go_wp2
    go_ret
    exact ⟨by first | rfl | (simp; done) | (simp [*]; done), by repeat (first | exact Drawn0.refl _ | apply Drawn0.step)⟩
   ·rw [if_neg c4] at H
    have c4b0 : decide (65 ≤ a0) = false := decide_eq_false c4
    clear c4
    obtain rfl := Option.some.inj H
    go_enter Tryz.func55, Tryz.ntmps55
    go_wp2
    go_ret
    exact ⟨by first | rfl | (simp; done) | (simp [*]; done), by repeat (first | exact Drawn0.refl _ | apply Drawn0.step)⟩
 ·rw [if_neg c2] at H
  have c2b0 : decide (97 ≤ a0) = false := decide_eq_false c2
  clear c2
  by_cases c5 : a0 ≥ 65
  ·rw [if_pos c5] at H
   have c5b0 : decide (65 ≤ a0) = true := decide_eq_true c5
   clear c5
   obtain rfl := Option.some.inj H
   go_enter Tryz.func55, Tryz.ntmps55
   go_wp2
   go_ret
   exact ⟨by first | rfl | (simp; done) | (simp [*]; done), by repeat (first | exact Drawn0.refl _ | apply Drawn0.step)⟩
  ·rw [if_neg c5] at H
   have c5b0 : decide (65 ≤ a0) = false := decide_eq_false c5
   clear c5
   obtain rfl := Option.some.inj H
   go_enter Tryz.func55, Tryz.ntmps55
   go_wp2
   go_ret
   exact ⟨by first | rfl | (simp; done) | (simp [*]; done), by repeat (first | exact Drawn0.refl _ | apply Drawn0.step)⟩

/-! ### spec_l1Digit: function 56 -/
def spec_l1Digit.f (a0 : Int) : Option (Bool) := if a0 ≥ 48 then (some (decide (a0 ≤ 57))) else (some false)
set_option maxHeartbeats 8000000 in
set_option maxRecDepth 100000 in
theorem spec_l1Digit.calls (a0 : Int) (r : Bool) (w : World) (h : spec_l1Digit.f a0 = some r) :
  Calls Tryz.prog 56 #[.int .u8 a0] w fun e w' => e = .returned (.bool r) ∧ Drawn0 w w' := by
 have H : (if a0 ≥ 48 then (some (decide (a0 ≤ 57))) else (some false)) = some r := h
 clear h
 by_cases c2 : a0 ≥ 48
 ·rw [if_pos c2] at H
  have c2b0 : decide (48 ≤ a0) = true := decide_eq_true c2
  clear c2
  obtain rfl := Option.some.inj H
  go_enter Tryz.func56, Tryz.ntmps56
  go_wp2
  go_ret
  exact ⟨by first | rfl | (simp; done) | (simp [*]; done), by repeat (first | exact Drawn0.refl _ | apply Drawn0.step)⟩
 ·rw [if_neg c2] at H
  have c2b0 : decide (48 ≤ a0) = false := decide_eq_false c2
  clear c2
  obtain rfl := Option.some.inj H
  go_enter Tryz.func56, Tryz.ntmps56
  go_wp2
  go_ret
  exact ⟨by first | rfl | (simp; done) | (simp [*]; done), by repeat (first | exact Drawn0.refl _ | apply Drawn0.step)⟩

/-! ### spec_l1Host: function 35 -/
def spec_l1Host.l0 : Nat → ByteArray → Int → Option (Bool)
 | 0, _, _ => none
 | k + 1, x0, x3 => if x3 < (x0.size : Int) then (if 0 ≤ x3 then ((spec_l1Letter.f (bt x0 x3)).bind fun t321 => (if t321 = true then (spec_l1Host.l0 k x0 (wrap64 (x3 + 1))) else ((spec_l1Digit.f (bt x0 x3)).bind fun t322 => (if t322 = true then (spec_l1Host.l0 k x0 (wrap64 (x3 + 1))) else (if (bt x0 x3) = 45 then (spec_l1Host.l0 k x0 (wrap64 (x3 + 1))) else (if (bt x0 x3) = 46 then (spec_l1Host.l0 k x0 (wrap64 (x3 + 1))) else (some false))))))) else (none)) else ((spec_l1In.f (x0.size : Int) 1 60).bind fun t320 => (some t320))
def spec_l1Host.f (k : Nat) (a0 : ByteArray) : Option (Bool) := spec_l1Host.l0 k a0 0
theorem spec_l1Host.mono_l : ∀ k, (∀ y0 y1, LeO (spec_l1Host.l0 k y0 y1) (spec_l1Host.l0 (k + 1) y0 y1))
 | 0 => fun _ _ r h => by simp [spec_l1Host.l0] at h
 | k + 1 => by
  have ih0 := spec_l1Host.mono_l k
  ·intro y0 y1
   unfold spec_l1Host.l0
   repeat' first
   | (with_reducible exact ih0 _ _)
   | (with_reducible exact LeO.refl _)
   | (with_reducible exact LeO.none _)
   | (with_reducible refine LeO.ite ?_ ?_)
   | (with_reducible refine LeO.bind ?_ (fun _ => ?_))
   | exact ih0 _ _
   | exact LeO.none _
   | refine LeO.ite ?_ ?_
   | refine LeO.bind ?_ (fun _ => ?_)
theorem spec_l1Host.mono : ∀ a0 k, LeO (spec_l1Host.f k a0) (spec_l1Host.f (k + 1) a0) := by
 intro a0 k
 have ih0 := spec_l1Host.mono_l k
 unfold spec_l1Host.f
 repeat' first
   | (with_reducible exact ih0 _ _)
   | (with_reducible exact LeO.refl _)
   | (with_reducible exact LeO.none _)
   | (with_reducible refine LeO.ite ?_ ?_)
   | (with_reducible refine LeO.bind ?_ (fun _ => ?_))
   | exact ih0 _ _
   | exact LeO.none _
   | refine LeO.ite ?_ ?_
   | refine LeO.bind ?_ (fun _ => ?_)
set_option maxHeartbeats 8000000 in
set_option maxRecDepth 100000 in
theorem spec_l1Host.calls (k : Nat) (a0 : ByteArray) (r : Bool) (w : World) (h : spec_l1Host.f k a0 = some r) :
  Calls Tryz.prog 35 #[.string a0] w fun e w' => e = .returned (.bool r) ∧ Drawn0 w w' := by
 have H : (spec_l1Host.l0 k a0 0) = some r := h
 clear h
 have H' := Aside0.mk H
 clear H
 go_enter Tryz.func35, Tryz.ntmps35
 go_wp2
 go_loopg [3] k (fun kq v3 w' => ∃ (x3_1 : Int), v3 = .int .i64 x3_1 ∧ Aside0 (spec_l1Host.l0 kq a0 x3_1 = some r) ∧ Aside0 (kq ≤ k) ∧ Drawn0 w w')
 case atStart => exact ⟨(0), (by first | rfl | (simp; done) | (simp [*]; done)), H', ⟨Nat.le_refl _⟩, by repeat (first | exact Drawn0.refl _ | apply Drawn0.step)⟩
 case round =>
  clear H'
  obtain ⟨x3_1, rfl, HA, HK1, ⟨m1, rfl⟩⟩ := hrel
  cases gk with
  | zero => exact absurd HA.out (by simp [spec_l1Host.l0])
  | succ k1 =>
   have H := HA.out
   clear HA
   simp only [spec_l1Host.l0] at H
   by_cases c2 : x3_1 < (a0.size : Int)
   ·rw [if_pos c2] at H
    have c2b0 : decide (x3_1 < (a0.size : Int)) = true := decide_eq_true c2
    clear c2
    by_cases c3 : 0 ≤ x3_1
    ·rw [if_pos c3] at H
     have c3b0 : decide (0 ≤ x3_1) = true := decide_eq_true c3
     clear c3
     replace H := Option.bind_eq_some_iff.mp H
     obtain ⟨t321, A50, H⟩ := H
     replace H : (if t321 = true then (spec_l1Host.l0 k1 a0 (wrap64 (x3_1 + 1))) else ((spec_l1Digit.f (bt a0 x3_1)).bind fun t322 => (if t322 = true then (spec_l1Host.l0 k1 a0 (wrap64 (x3_1 + 1))) else (if (bt a0 x3_1) = 45 then (spec_l1Host.l0 k1 a0 (wrap64 (x3_1 + 1))) else (if (bt a0 x3_1) = 46 then (spec_l1Host.l0 k1 a0 (wrap64 (x3_1 + 1))) else (some false)))))) = some r := H
     have A5 := Aside0.mk A50
     clear A50
     by_cases c6 : t321 = true
     ·subst c6
      have H1 : (spec_l1Host.l0 k1 a0 (wrap64 (x3_1 + 1))) = some r := by rw [if_pos rfl] at H; exact H
      clear H
      have H := H1
      clear H1
      have H' := Aside0.mk H
      clear H
      have p4 : 0 ≤ (x3_1 : Int) := of_decide_eq_true (by first | (with_reducible assumption) | assumption)
      have q4 : x3_1 < (a0.size : Int) := of_decide_eq_true (by first | (with_reducible assumption) | assumption)
      have hx4 := bt_at a0 x3_1
      replace p4 := eq_true p4
      replace q4 := eq_true q4
      go_wp2_with (first | ((with_reducible refine gate_callee (f := 55) rfl ?_); refine xgl_ (some 13) Tryz.func55 #[.int .u8 (bt a0 x3_1)] ?_; (with_reducible refine (spec_l1Letter.calls (bt a0 x3_1) true _ A5.out).mono ?_); rintro e w' ⟨rfl, ⟨nd, rfl⟩⟩; refine ⟨_, rfl, ?_⟩))
      go_roundg k1
      case measure => have := HK1.out; omega
      case rel => exact ⟨(wrap64 (x3_1 + 1)), (by first | rfl | (simp; done) | (simp [*]; done)), H', ⟨by have := HK1.out; omega⟩, by repeat (first | exact Drawn0.refl _ | apply Drawn0.step)⟩
     ·replace c6 := Bool.eq_false_iff.mpr c6
      subst c6
      have H1 : ((spec_l1Digit.f (bt a0 x3_1)).bind fun t322 => (if t322 = true then (spec_l1Host.l0 k1 a0 (wrap64 (x3_1 + 1))) else (if (bt a0 x3_1) = 45 then (spec_l1Host.l0 k1 a0 (wrap64 (x3_1 + 1))) else (if (bt a0 x3_1) = 46 then (spec_l1Host.l0 k1 a0 (wrap64 (x3_1 + 1))) else (some false))))) = some r := by rw [if_neg (show ¬ (false = true) by decide)] at H; exact H
      clear H
      have H := H1
      clear H1
      replace H := Option.bind_eq_some_iff.mp H
      obtain ⟨t322, A80, H⟩ := H
      replace H : (if t322 = true then (spec_l1Host.l0 k1 a0 (wrap64 (x3_1 + 1))) else (if (bt a0 x3_1) = 45 then (spec_l1Host.l0 k1 a0 (wrap64 (x3_1 + 1))) else (if (bt a0 x3_1) = 46 then (spec_l1Host.l0 k1 a0 (wrap64 (x3_1 + 1))) else (some false)))) = some r := H
      have A8 := Aside0.mk A80
      clear A80
      by_cases c9 : t322 = true
      ·subst c9
       have H1 : (spec_l1Host.l0 k1 a0 (wrap64 (x3_1 + 1))) = some r := by rw [if_pos rfl] at H; exact H
       clear H
       have H := H1
       clear H1
       have H' := Aside0.mk H
       clear H
       have p4 : 0 ≤ (x3_1 : Int) := of_decide_eq_true (by first | (with_reducible assumption) | assumption)
       have q4 : x3_1 < (a0.size : Int) := of_decide_eq_true (by first | (with_reducible assumption) | assumption)
       have hx4 := bt_at a0 x3_1
       replace p4 := eq_true p4
       replace q4 := eq_true q4
       go_wp2_with (first | ((with_reducible refine gate_callee (f := 55) rfl ?_); refine xgl_ (some 13) Tryz.func55 #[.int .u8 (bt a0 x3_1)] ?_; (with_reducible refine (spec_l1Letter.calls (bt a0 x3_1) false _ A5.out).mono ?_); rintro e w' ⟨rfl, ⟨nd, rfl⟩⟩; refine ⟨_, rfl, ?_⟩; have p7 : 0 ≤ (x3_1 : Int) := of_decide_eq_true (by first | (with_reducible assumption) | assumption); have q7 : x3_1 < (a0.size : Int) := of_decide_eq_true (by first | (with_reducible assumption) | assumption); have hx7 := bt_at a0 x3_1; replace p7 := eq_true p7; replace q7 := eq_true q7) | (go_at_call 56; (with_reducible refine (spec_l1Digit.calls (bt a0 x3_1) true _ A8.out).mono ?_); rintro e w' ⟨rfl, ⟨nd, rfl⟩⟩))
       go_roundg k1
       case measure => have := HK1.out; omega
       case rel => exact ⟨(wrap64 (x3_1 + 1)), (by first | rfl | (simp; done) | (simp [*]; done)), H', ⟨by have := HK1.out; omega⟩, by repeat (first | exact Drawn0.refl _ | apply Drawn0.step)⟩
      ·replace c9 := Bool.eq_false_iff.mpr c9
       subst c9
       have H1 : (if (bt a0 x3_1) = 45 then (spec_l1Host.l0 k1 a0 (wrap64 (x3_1 + 1))) else (if (bt a0 x3_1) = 46 then (spec_l1Host.l0 k1 a0 (wrap64 (x3_1 + 1))) else (some false))) = some r := by rw [if_neg (show ¬ (false = true) by decide)] at H; exact H
       clear H
       have H := H1
       clear H1
       by_cases c11 : (bt a0 x3_1) = 45
       ·rw [if_pos c11] at H
        have c11b0 : ((bt a0 x3_1) == 45) = true := beq_iff_eq.mpr c11
        have c11b1 : ((bt a0 x3_1) != 45) = false := bne_eq_false_iff_eq.mpr c11
        clear c11
        have H' := Aside0.mk H
        clear H
        have p4 : 0 ≤ (x3_1 : Int) := of_decide_eq_true (by first | (with_reducible assumption) | assumption)
        have q4 : x3_1 < (a0.size : Int) := of_decide_eq_true (by first | (with_reducible assumption) | assumption)
        have hx4 := bt_at a0 x3_1
        replace p4 := eq_true p4
        replace q4 := eq_true q4
        go_wp2_with (first | ((with_reducible refine gate_callee (f := 55) rfl ?_); refine xgl_ (some 13) Tryz.func55 #[.int .u8 (bt a0 x3_1)] ?_; (with_reducible refine (spec_l1Letter.calls (bt a0 x3_1) false _ A5.out).mono ?_); rintro e w' ⟨rfl, ⟨nd, rfl⟩⟩; refine ⟨_, rfl, ?_⟩; have p7 : 0 ≤ (x3_1 : Int) := of_decide_eq_true (by first | (with_reducible assumption) | assumption); have q7 : x3_1 < (a0.size : Int) := of_decide_eq_true (by first | (with_reducible assumption) | assumption); have hx7 := bt_at a0 x3_1; replace p7 := eq_true p7; replace q7 := eq_true q7) | (go_at_call 56; (with_reducible refine (spec_l1Digit.calls (bt a0 x3_1) false _ A8.out).mono ?_); rintro e w' ⟨rfl, ⟨nd, rfl⟩⟩; have p10 : 0 ≤ (x3_1 : Int) := of_decide_eq_true (by first | (with_reducible assumption) | assumption); have q10 : x3_1 < (a0.size : Int) := of_decide_eq_true (by first | (with_reducible assumption) | assumption); have hx10 := bt_at a0 x3_1; replace p10 := eq_true p10; replace q10 := eq_true q10))
        go_roundg k1
        case measure => have := HK1.out; omega
        case rel => exact ⟨(wrap64 (x3_1 + 1)), (by first | rfl | (simp; done) | (simp [*]; done)), H', ⟨by have := HK1.out; omega⟩, by repeat (first | exact Drawn0.refl _ | apply Drawn0.step)⟩
       ·rw [if_neg c11] at H
        have c11b0 : ((bt a0 x3_1) == 45) = false := beq_eq_false_iff_ne.mpr c11
        have c11b1 : ((bt a0 x3_1) != 45) = true := bne_iff_ne.mpr c11
        by_cases c13 : (bt a0 x3_1) = 46
        ·rw [if_pos c13] at H
         have c13b0 : ((bt a0 x3_1) == 46) = true := beq_iff_eq.mpr c13
         have c13b1 : ((bt a0 x3_1) != 46) = false := bne_eq_false_iff_eq.mpr c13
         clear c13
         have H' := Aside0.mk H
         clear H
         have p4 : 0 ≤ (x3_1 : Int) := of_decide_eq_true (by first | (with_reducible assumption) | assumption)
         have q4 : x3_1 < (a0.size : Int) := of_decide_eq_true (by first | (with_reducible assumption) | assumption)
         have hx4 := bt_at a0 x3_1
         replace p4 := eq_true p4
         replace q4 := eq_true q4
         go_wp2_with (first | ((with_reducible refine gate_callee (f := 55) rfl ?_); refine xgl_ (some 13) Tryz.func55 #[.int .u8 (bt a0 x3_1)] ?_; (with_reducible refine (spec_l1Letter.calls (bt a0 x3_1) false _ A5.out).mono ?_); rintro e w' ⟨rfl, ⟨nd, rfl⟩⟩; refine ⟨_, rfl, ?_⟩; have p7 : 0 ≤ (x3_1 : Int) := of_decide_eq_true (by first | (with_reducible assumption) | assumption); have q7 : x3_1 < (a0.size : Int) := of_decide_eq_true (by first | (with_reducible assumption) | assumption); have hx7 := bt_at a0 x3_1; replace p7 := eq_true p7; replace q7 := eq_true q7) | (go_at_call 56; (with_reducible refine (spec_l1Digit.calls (bt a0 x3_1) false _ A8.out).mono ?_); rintro e w' ⟨rfl, ⟨nd, rfl⟩⟩; have p10 : 0 ≤ (x3_1 : Int) := of_decide_eq_true (by first | (with_reducible assumption) | assumption); have q10 : x3_1 < (a0.size : Int) := of_decide_eq_true (by first | (with_reducible assumption) | assumption); have hx10 := bt_at a0 x3_1; replace p10 := eq_true p10; replace q10 := eq_true q10; have p12 : 0 ≤ (x3_1 : Int) := of_decide_eq_true (by first | (with_reducible assumption) | assumption); have q12 : x3_1 < (a0.size : Int) := of_decide_eq_true (by first | (with_reducible assumption) | assumption); have hx12 := bt_at a0 x3_1; replace p12 := eq_true p12; replace q12 := eq_true q12))
         go_roundg k1
         case measure => have := HK1.out; omega
         case rel => exact ⟨(wrap64 (x3_1 + 1)), (by first | rfl | (simp; done) | (simp [*]; done)), H', ⟨by have := HK1.out; omega⟩, by repeat (first | exact Drawn0.refl _ | apply Drawn0.step)⟩
        ·rw [if_neg c13] at H
         have c13b0 : ((bt a0 x3_1) == 46) = false := beq_eq_false_iff_ne.mpr c13
         have c13b1 : ((bt a0 x3_1) != 46) = true := bne_iff_ne.mpr c13
         obtain rfl := Option.some.inj H
         have p4 : 0 ≤ (x3_1 : Int) := of_decide_eq_true (by first | (with_reducible assumption) | assumption)
         have q4 : x3_1 < (a0.size : Int) := of_decide_eq_true (by first | (with_reducible assumption) | assumption)
         have hx4 := bt_at a0 x3_1
         replace p4 := eq_true p4
         replace q4 := eq_true q4
         go_wp2_with (first | ((with_reducible refine gate_callee (f := 55) rfl ?_); refine xgl_ (some 13) Tryz.func55 #[.int .u8 (bt a0 x3_1)] ?_; (with_reducible refine (spec_l1Letter.calls (bt a0 x3_1) false _ A5.out).mono ?_); rintro e w' ⟨rfl, ⟨nd, rfl⟩⟩; refine ⟨_, rfl, ?_⟩; have p7 : 0 ≤ (x3_1 : Int) := of_decide_eq_true (by first | (with_reducible assumption) | assumption); have q7 : x3_1 < (a0.size : Int) := of_decide_eq_true (by first | (with_reducible assumption) | assumption); have hx7 := bt_at a0 x3_1; replace p7 := eq_true p7; replace q7 := eq_true q7) | (go_at_call 56; (with_reducible refine (spec_l1Digit.calls (bt a0 x3_1) false _ A8.out).mono ?_); rintro e w' ⟨rfl, ⟨nd, rfl⟩⟩; have p10 : 0 ≤ (x3_1 : Int) := of_decide_eq_true (by first | (with_reducible assumption) | assumption); have q10 : x3_1 < (a0.size : Int) := of_decide_eq_true (by first | (with_reducible assumption) | assumption); have hx10 := bt_at a0 x3_1; replace p10 := eq_true p10; replace q10 := eq_true q10; have p12 : 0 ≤ (x3_1 : Int) := of_decide_eq_true (by first | (with_reducible assumption) | assumption); have q12 : x3_1 < (a0.size : Int) := of_decide_eq_true (by first | (with_reducible assumption) | assumption); have hx12 := bt_at a0 x3_1; replace p12 := eq_true p12; replace q12 := eq_true q12))
         go_ret
         exact ⟨by first | rfl | (simp; done) | (simp [*]; done), by repeat (first | exact Drawn0.refl _ | apply Drawn0.step)⟩
    ·rw [if_neg c3] at H
     exact absurd H (by simp)
   ·rw [if_neg c2] at H
    have c2b0 : decide (x3_1 < (a0.size : Int)) = false := decide_eq_false c2
    clear c2
    replace H := Option.bind_eq_some_iff.mp H
    obtain ⟨t320, A140, H⟩ := H
    replace H : (some t320) = some r := H
    have A14 := Aside0.mk A140
    clear A140
    obtain rfl := Option.some.inj H
    go_wp2_with (first | ((with_reducible refine gate_callee (f := 36) rfl ?_); refine xgl_ (some 36) Tryz.func36 #[.int .i64 (a0.size : Int), .int .i64 1, .int .i64 60] ?_; (with_reducible refine (spec_l1In.calls (a0.size : Int) 1 60 t320 _ A14.out).mono ?_); rintro e w' ⟨rfl, ⟨nd, rfl⟩⟩; refine ⟨_, rfl, ?_⟩))
    go_ret
    exact ⟨by first | rfl | (simp; done) | (simp [*]; done), by repeat (first | exact Drawn0.refl _ | apply Drawn0.step)⟩

end Go.Proofs.YtklicdjbihmbiaaGreatDoor.PFnResolved
