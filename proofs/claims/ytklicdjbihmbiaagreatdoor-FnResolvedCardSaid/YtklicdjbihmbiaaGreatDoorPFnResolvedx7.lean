-- Written by a program of this project (xprint.py) out of the translation; Lean checks it.
import Derived.Test.YtklicdjbihmbiaaGreatDoorPFnResolvedx0
import Derived.Test.YtklicdjbihmbiaaGreatDoorPFnResolvedx3
import Derived.Test.YtklicdjbihmbiaaGreatDoorPFnResolvedx5
import Derived.Test.YtklicdjbihmbiaaGreatDoorPFnResolvedx6
namespace Go.Proofs.YtklicdjbihmbiaaGreatDoor.PFnResolved
open Go.RowKit Go.Proofs.YtklicdjbihmbiaaGreatDoorW.PrintWords Go.Proofs.YtklicdjbihmbiaaGreatDoorW.PrintLast Go.Proofs.YtklicdjbihmbiaaGreatDoorW.PrintMore
attribute [local go_sem] max2_int min2_int max_two min_two max_three min_three max_four min_four   -- for this text's walks alone
set_option linter.unusedVariables false
set_option linter.unusedSimpArgs false

/-! ### bytealg_LastIndexByteString: function 50 -/
def bytealg_LastIndexByteString.l0 : Nat → ByteArray → Int → Int → Option (Int)
 | 0, _, _, _ => none
 | k + 1, x0, x1, x5 => if x5 ≥ 0 then (if 0 ≤ x5 then (if x5 < (x0.size : Int) then (if (bt x0 x5) = x1 then (some x5) else (bytealg_LastIndexByteString.l0 k x0 x1 (wrap64 (x5 - 1)))) else (none)) else (none)) else (some (-1))
def bytealg_LastIndexByteString.f (k : Nat) (a0 : ByteArray) (a1 : Int) : Option (Int) := bytealg_LastIndexByteString.l0 k a0 a1 (wrap64 ((a0.size : Int) - 1))
theorem bytealg_LastIndexByteString.mono_l : ∀ k, (∀ y0 y1 y2, LeO (bytealg_LastIndexByteString.l0 k y0 y1 y2) (bytealg_LastIndexByteString.l0 (k + 1) y0 y1 y2))
 | 0 => fun _ _ _ r h => by simp [bytealg_LastIndexByteString.l0] at h
 | k + 1 => by
  have ih0 := bytealg_LastIndexByteString.mono_l k
  ·intro y0 y1 y2
   unfold bytealg_LastIndexByteString.l0
   repeat' first
   | (with_reducible exact ih0 _ _ _)
   | (with_reducible exact LeO.refl _)
   | (with_reducible exact LeO.none _)
   | (with_reducible refine LeO.ite ?_ ?_)
   | (with_reducible refine LeO.bind ?_ (fun _ => ?_))
   | exact ih0 _ _ _
   | exact LeO.none _
   | refine LeO.ite ?_ ?_
   | refine LeO.bind ?_ (fun _ => ?_)
theorem bytealg_LastIndexByteString.mono : ∀ a0 a1 k, LeO (bytealg_LastIndexByteString.f k a0 a1) (bytealg_LastIndexByteString.f (k + 1) a0 a1) := by
 intro a0 a1 k
 have ih0 := bytealg_LastIndexByteString.mono_l k
 unfold bytealg_LastIndexByteString.f
 repeat' first
   | (with_reducible exact ih0 _ _ _)
   | (with_reducible exact LeO.refl _)
   | (with_reducible exact LeO.none _)
   | (with_reducible refine LeO.ite ?_ ?_)
   | (with_reducible refine LeO.bind ?_ (fun _ => ?_))
   | exact ih0 _ _ _
   | exact LeO.none _
   | refine LeO.ite ?_ ?_
   | refine LeO.bind ?_ (fun _ => ?_)
set_option maxHeartbeats 8000000 in
set_option maxRecDepth 100000 in
theorem bytealg_LastIndexByteString.calls (k : Nat) (a0 : ByteArray) (a1 : Int) (r : Int) (w : World) (h : bytealg_LastIndexByteString.f k a0 a1 = some r) :
  Calls Tryz.prog 50 #[.string a0, .int .u8 a1] w fun e w' => e = .returned (.int .i64 r) ∧ Drawn0 w w' := by
 have H : (bytealg_LastIndexByteString.l0 k a0 a1 (wrap64 ((a0.size : Int) - 1))) = some r := h
 clear h
 have H' := Aside0.mk H
 clear H
 go_enter Tryz.func50, Tryz.ntmps50
 go_wp2
 go_loopg [5] k (fun kq v5 w' => ∃ (x5_1 : Int), v5 = .int .i64 x5_1 ∧ Aside0 (bytealg_LastIndexByteString.l0 kq a0 a1 x5_1 = some r) ∧ Aside0 (kq ≤ k) ∧ Drawn0 w w')
 case atStart => exact ⟨(wrap64 ((a0.size : Int) - 1)), (by first | rfl | (simp; done) | (simp [*]; done)), H', ⟨Nat.le_refl _⟩, by repeat (first | exact Drawn0.refl _ | apply Drawn0.step)⟩
 case round =>
  clear H'
  try clear p2
  obtain ⟨x5_1, rfl, HA, HK1, ⟨m1, rfl⟩⟩ := hrel
  cases gk with
  | zero => exact absurd HA.out (by simp [bytealg_LastIndexByteString.l0])
  | succ k1 =>
   have H := HA.out
   clear HA
   simp only [bytealg_LastIndexByteString.l0] at H
   by_cases c3 : x5_1 ≥ 0
   ·rw [if_pos c3] at H
    have c3b0 : decide (0 ≤ x5_1) = true := decide_eq_true c3
    clear c3
    by_cases c4 : 0 ≤ x5_1
    ·rw [if_pos c4] at H
     have c4b0 : decide (0 ≤ x5_1) = true := decide_eq_true c4
     clear c4
     by_cases c5 : x5_1 < (a0.size : Int)
     ·rw [if_pos c5] at H
      have c5b0 : decide (x5_1 < (a0.size : Int)) = true := decide_eq_true c5
      clear c5
      by_cases c7 : (bt a0 x5_1) = a1
      ·rw [if_pos c7] at H
       have c7b0 : ((bt a0 x5_1) == a1) = true := beq_iff_eq.mpr c7
       have c7b1 : ((bt a0 x5_1) != a1) = false := bne_eq_false_iff_eq.mpr c7
       clear c7
       obtain rfl := Option.some.inj H
       have p6 : 0 ≤ (x5_1 : Int) := of_decide_eq_true (by first | (with_reducible assumption) | assumption)
       have q6 : x5_1 < (a0.size : Int) := of_decide_eq_true (by first | (with_reducible assumption) | assumption)
       have hx6 := bt_at a0 x5_1
       replace p6 := eq_true p6
       replace q6 := eq_true q6
       go_wp2
       go_ret
       exact ⟨by first | rfl | (simp; done) | (simp [*]; done), by repeat (first | exact Drawn0.refl _ | apply Drawn0.step)⟩
      ·rw [if_neg c7] at H
       have c7b0 : ((bt a0 x5_1) == a1) = false := beq_eq_false_iff_ne.mpr c7
       have c7b1 : ((bt a0 x5_1) != a1) = true := bne_iff_ne.mpr c7
       have H' := Aside0.mk H
       clear H
       have p6 : 0 ≤ (x5_1 : Int) := of_decide_eq_true (by first | (with_reducible assumption) | assumption)
       have q6 : x5_1 < (a0.size : Int) := of_decide_eq_true (by first | (with_reducible assumption) | assumption)
       have hx6 := bt_at a0 x5_1
       replace p6 := eq_true p6
       replace q6 := eq_true q6
       go_wp2
       go_roundg k1
       case measure => have := HK1.out; omega
       case rel => exact ⟨(wrap64 (x5_1 - 1)), (by first | rfl | (simp; done) | (simp [*]; done)), H', ⟨by have := HK1.out; omega⟩, by repeat (first | exact Drawn0.refl _ | apply Drawn0.step)⟩
     ·rw [if_neg c5] at H
      exact absurd H (by simp)
    ·rw [if_neg c4] at H
     exact absurd H (by simp)
   ·rw [if_neg c3] at H
    have c3b0 : decide (0 ≤ x5_1) = false := decide_eq_false c3
    clear c3
    obtain rfl := Option.some.inj H
    go_wp2
    go_ret
    exact ⟨by first | rfl | (simp; done) | (simp [*]; done), by repeat (first | exact Drawn0.refl _ | apply Drawn0.step)⟩

/-! ### strings_LastIndexByte: function 32 -/
def strings_LastIndexByte.f (k : Nat) (a0 : ByteArray) (a1 : Int) : Option (Int) := (bytealg_LastIndexByteString.f k a0 a1).bind fun t265 => (some t265)
theorem strings_LastIndexByte.mono : ∀ a0 a1 k, LeO (strings_LastIndexByte.f k a0 a1) (strings_LastIndexByte.f (k + 1) a0 a1) := by
 intro a0 a1 k
 unfold strings_LastIndexByte.f
 repeat' first
   | (with_reducible exact bytealg_LastIndexByteString.mono _ _ _)
   | (with_reducible exact LeO.refl _)
   | (with_reducible exact LeO.none _)
   | (with_reducible refine LeO.ite ?_ ?_)
   | (with_reducible refine LeO.bind ?_ (fun _ => ?_))
   | exact bytealg_LastIndexByteString.mono _ _ _
   | exact LeO.none _
   | refine LeO.ite ?_ ?_
   | refine LeO.bind ?_ (fun _ => ?_)
set_option maxHeartbeats 8000000 in
set_option maxRecDepth 100000 in
theorem strings_LastIndexByte.calls (k : Nat) (a0 : ByteArray) (a1 : Int) (r : Int) (w : World) (h : strings_LastIndexByte.f k a0 a1 = some r) :
  Calls Tryz.prog 32 #[.string a0, .int .u8 a1] w fun e w' => e = .returned (.int .i64 r) ∧ Drawn0 w w' := by
 have H : ((bytealg_LastIndexByteString.f k a0 a1).bind fun t265 => (some t265)) = some r := h
 clear h
 replace H := Option.bind_eq_some_iff.mp H
 obtain ⟨t265, A30, H⟩ := H
 replace H : (some t265) = some r := H
 have A3 := Aside0.mk A30
 clear A30
 obtain rfl := Option.some.inj H
 go_enter Tryz.func32, Tryz.ntmps32
 go_wp2_with (first | ((with_reducible refine gate_callee (f := 50) rfl ?_); refine xgl_ (some 7) Tryz.func50 #[.string a0, .int .u8 a1] ?_; (with_reducible refine (bytealg_LastIndexByteString.calls k a0 a1 t265 _ A3.out).mono ?_); rintro e w' ⟨rfl, ⟨nd, rfl⟩⟩; refine ⟨_, rfl, ?_⟩))
 go_ret
 exact ⟨by first | rfl | (simp; done) | (simp [*]; done), by repeat (first | exact Drawn0.refl _ | apply Drawn0.step)⟩

/-! ### strings.HasPrefix, its world named anew -/
def has_prefix_in.f (a0 : ByteArray) (a1 : ByteArray) : Option (Bool) := strings_HasPrefix.f a0 a1
theorem has_prefix_in.calls (a0 : ByteArray) (a1 : ByteArray) (r : Bool) (w : World) (h : has_prefix_in.f a0 a1 = some r) :
    Calls Tryz.prog 22 #[.string a0, .string a1] w fun e w' => e = .returned (.bool r) ∧ Below w.heap.size w w' :=
  (strings_HasPrefix.calls a0 a1 r w h).mono fun e w' hq => ⟨hq.1, hq.2.below⟩

/-! ### impl_resolved: function 14 -/
def impl_resolved.f (k : Nat) (a0_0 : ByteArray) (a0_1 : ByteArray) (a0_2 : Int) (a0_3 : ByteArray) (a0_4 : ByteArray) (a0_5 : Bool) (a1 : ByteArray) : Option (ByteArray × ByteArray × Int × ByteArray × ByteArray × Bool × Bool) := (impl_ReadUrl.f k a1).bind fun bt268 => (if bt268.2.2.2.2.2.2 = true then (some (bt268.1, bt268.2.1, bt268.2.2.1, bt268.2.2.2.1, bt268.2.2.2.2.1, bt268.2.2.2.2.2.1, true)) else ((has_prefix_in.f a1 (⟨#[47, 47]⟩ : ByteArray)).bind fun t276 => (if t276 = true then (if a0_0.size + 1 ≤ 9223372036854775807 then (if (a0_0 ++ (⟨#[58]⟩ : ByteArray)).size + a1.size ≤ 9223372036854775807 then ((impl_ReadUrl.f k ((a0_0 ++ (⟨#[58]⟩ : ByteArray)) ++ a1)).bind fun bt277 => (some (bt277.1, bt277.2.1, bt277.2.2.1, bt277.2.2.2.1, bt277.2.2.2.2.1, bt277.2.2.2.2.2.1, bt277.2.2.2.2.2.2))) else (none)) else (none)) else ((strings_Cut.f a1 (⟨#[63]⟩ : ByteArray)).bind fun bt284 => ((has_prefix_in.f bt284.1 (⟨#[47]⟩ : ByteArray)).bind fun t288 => (if t288 = true then (some (a0_0, a0_1, a0_2, bt284.1, bt284.2.1, bt284.2.2, true)) else (if bt284.1.toList = ([] : List UInt8) then (some (a0_0, a0_1, a0_2, a0_3, bt284.2.1, bt284.2.2, true)) else ((strings_LastIndexByte.f k a0_3 47).bind fun t289 => (if 0 ≤ (wrap64 (t289 + 1)) then (if (wrap64 (t289 + 1)) ≤ (a0_3.size : Int) then (if (a0_3.extract 0 ((wrap64 (t289 + 1)) : Int).toNat).size + bt284.1.size ≤ 9223372036854775807 then (some (a0_0, a0_1, a0_2, (a0_3.extract 0 ((wrap64 (t289 + 1)) : Int).toNat) ++ bt284.1, bt284.2.1, bt284.2.2, true)) else (none)) else (none)) else (none))))))))))
theorem impl_resolved.mono : ∀ a0 a1 a2 a3 a4 a5 a6 k, LeO (impl_resolved.f k a0 a1 a2 a3 a4 a5 a6) (impl_resolved.f (k + 1) a0 a1 a2 a3 a4 a5 a6) := by
 intro a0 a1 a2 a3 a4 a5 a6 k
 unfold impl_resolved.f
 repeat' first
   | (with_reducible exact impl_ReadUrl.mono _ _)
   | (with_reducible exact strings_LastIndexByte.mono _ _ _)
   | (with_reducible exact LeO.refl _)
   | (with_reducible exact LeO.none _)
   | (with_reducible refine LeO.ite ?_ ?_)
   | (with_reducible refine LeO.bind ?_ (fun _ => ?_))
   | exact impl_ReadUrl.mono _ _
   | exact strings_LastIndexByte.mono _ _ _
   | exact LeO.none _
   | refine LeO.ite ?_ ?_
   | refine LeO.bind ?_ (fun _ => ?_)
def impl_resolved.T12 : Bool × List (List Nat × List Nat) := (true, [([], []), ([0], [0]), ([], []), ([2], [2]), ([3], [3]), ([4], [4]), ([1, 5], [1, 5]), ([], []), ([6, 7], [6, 7]), ([0, 1, 2, 3, 4, 5, 6, 7, 8], []), ([9, 8, 4, 0, 1, 2, 3, 4, 5, 6, 7, 8], [8, 9])])
def impl_resolved.B12 : List Nat := [0, 1, 0, 4, 12, 28, 63, 0, 255, 511, 1023]
theorem impl_resolved.tab12 : rtab .any (opsOf Tryz.f14 12) = impl_resolved.T12 := by kernel_rfl
theorem impl_resolved.bits12 : waitsOk impl_resolved.T12.2 impl_resolved.B12 = true := by kernel_rfl
set_option maxHeartbeats 8000000 in
set_option maxRecDepth 100000 in
theorem impl_resolved.calls (k : Nat) (a0_0 : ByteArray) (a0_1 : ByteArray) (a0_2 : Int) (a0_3 : ByteArray) (a0_4 : ByteArray) (a0_5 : Bool) (a1 : ByteArray) (r1 : ByteArray) (r2 : ByteArray) (r3 : Int) (r4 : ByteArray) (r5 : ByteArray) (r6 : Bool) (r7 : Bool) (w : World) (h : impl_resolved.f k a0_0 a0_1 a0_2 a0_3 a0_4 a0_5 a1 = some (r1, r2, r3, r4, r5, r6, r7)) (hT_ : TabOk w) :
  Calls Tryz.prog 14 #[.agg #[.string a0_0, .string a0_1, .int .i64 a0_2, .string a0_3, .string a0_4, .bool a0_5], .string a1] w fun e w' => e = .returned (.tuple #[.agg #[.string r1, .string r2, .int .i64 r3, .string r4, .string r5, .bool r6], .bool r7]) ∧ Below w.heap.size w w' := by
 have HTB_ := Aside0.mk hT_
 clear hT_
 have hu24 := Tryz.underlying24
 have HB := Aside0.mk (Below.refl w.heap.size w)
 have H : ((impl_ReadUrl.f k a1).bind fun bt268 => (if bt268.2.2.2.2.2.2 = true then (some (bt268.1, bt268.2.1, bt268.2.2.1, bt268.2.2.2.1, bt268.2.2.2.2.1, bt268.2.2.2.2.2.1, true)) else ((has_prefix_in.f a1 (⟨#[47, 47]⟩ : ByteArray)).bind fun t276 => (if t276 = true then (if a0_0.size + 1 ≤ 9223372036854775807 then (if (a0_0 ++ (⟨#[58]⟩ : ByteArray)).size + a1.size ≤ 9223372036854775807 then ((impl_ReadUrl.f k ((a0_0 ++ (⟨#[58]⟩ : ByteArray)) ++ a1)).bind fun bt277 => (some (bt277.1, bt277.2.1, bt277.2.2.1, bt277.2.2.2.1, bt277.2.2.2.2.1, bt277.2.2.2.2.2.1, bt277.2.2.2.2.2.2))) else (none)) else (none)) else ((strings_Cut.f a1 (⟨#[63]⟩ : ByteArray)).bind fun bt284 => ((has_prefix_in.f bt284.1 (⟨#[47]⟩ : ByteArray)).bind fun t288 => (if t288 = true then (some (a0_0, a0_1, a0_2, bt284.1, bt284.2.1, bt284.2.2, true)) else (if bt284.1.toList = ([] : List UInt8) then (some (a0_0, a0_1, a0_2, a0_3, bt284.2.1, bt284.2.2, true)) else ((strings_LastIndexByte.f k a0_3 47).bind fun t289 => (if 0 ≤ (wrap64 (t289 + 1)) then (if (wrap64 (t289 + 1)) ≤ (a0_3.size : Int) then (if (a0_3.extract 0 ((wrap64 (t289 + 1)) : Int).toNat).size + bt284.1.size ≤ 9223372036854775807 then (some (a0_0, a0_1, a0_2, (a0_3.extract 0 ((wrap64 (t289 + 1)) : Int).toNat) ++ bt284.1, bt284.2.1, bt284.2.2, true)) else (none)) else (none)) else (none))))))))))) = some (r1, r2, r3, r4, r5, r6, r7) := h
 clear h
 replace H := Option.bind_eq_some_iff.mp H
 obtain ⟨⟨t268, t269, t270, t271, t272, t273, t274⟩, A30, H⟩ := H
 replace H : (if t274 = true then (some (t268, t269, t270, t271, t272, t273, true)) else ((has_prefix_in.f a1 (⟨#[47, 47]⟩ : ByteArray)).bind fun t276 => (if t276 = true then (if a0_0.size + 1 ≤ 9223372036854775807 then (if (a0_0 ++ (⟨#[58]⟩ : ByteArray)).size + a1.size ≤ 9223372036854775807 then ((impl_ReadUrl.f k ((a0_0 ++ (⟨#[58]⟩ : ByteArray)) ++ a1)).bind fun bt277 => (some (bt277.1, bt277.2.1, bt277.2.2.1, bt277.2.2.2.1, bt277.2.2.2.2.1, bt277.2.2.2.2.2.1, bt277.2.2.2.2.2.2))) else (none)) else (none)) else ((strings_Cut.f a1 (⟨#[63]⟩ : ByteArray)).bind fun bt284 => ((has_prefix_in.f bt284.1 (⟨#[47]⟩ : ByteArray)).bind fun t288 => (if t288 = true then (some (a0_0, a0_1, a0_2, bt284.1, bt284.2.1, bt284.2.2, true)) else (if bt284.1.toList = ([] : List UInt8) then (some (a0_0, a0_1, a0_2, a0_3, bt284.2.1, bt284.2.2, true)) else ((strings_LastIndexByte.f k a0_3 47).bind fun t289 => (if 0 ≤ (wrap64 (t289 + 1)) then (if (wrap64 (t289 + 1)) ≤ (a0_3.size : Int) then (if (a0_3.extract 0 ((wrap64 (t289 + 1)) : Int).toNat).size + bt284.1.size ≤ 9223372036854775807 then (some (a0_0, a0_1, a0_2, (a0_3.extract 0 ((wrap64 (t289 + 1)) : Int).toNat) ++ bt284.1, bt284.2.1, bt284.2.2, true)) else (none)) else (none)) else (none)))))))))) = some (r1, r2, r3, r4, r5, r6, r7) := H
 have A3 := Aside0.mk A30
 clear A30
 by_cases c4 : t274 = true
 ·subst c4
  have H1 : (some (t268, t269, t270, t271, t272, t273, true)) = some (r1, r2, r3, r4, r5, r6, r7) := by rw [if_pos rfl] at H; exact H
  clear H
  have H := H1
  clear H1
  simp only [Option.some.injEq, Prod.mk.injEq] at H
  obtain ⟨rfl, rfl, rfl, rfl, rfl, rfl, rfl⟩ := H
  go_enter Tryz.func14, Tryz.ntmps14
  go_wp2_with (first | ((with_reducible refine gate_dst (N := 2) rfl ?_); refine xbe_ (N := 2) (cs := #[.string a0_0, .string a0_1, .int .i64 a0_2, .string a0_3, .string a0_4, .bool a0_5]) (t := 24) ?_; intro gb266 hg w5 hbox hb; have BK266 := Aside0.mk (hbox); have GW266 := xge_ HB hg; have GE266 := xge_ HB hg; replace HB := xws_ HB hb; clear hb hbox hg) | ((with_reducible refine gate_dst (N := 4) rfl ?_); refine xbe_ (N := 4) (cs := #[.string (⟨#[]⟩ : ByteArray), .string (⟨#[]⟩ : ByteArray), .int .i64 0, .string (⟨#[]⟩ : ByteArray), .string (⟨#[]⟩ : ByteArray), .bool false]) (t := 24) ?_; intro gb267 hg w6 hbox hb; have BK267 := Aside0.mk (hbox); have GW267 := xge_ HB hg; have GE267 := xge_ HB hg; replace HB := xws_ HB hb; have NB266_267 := xlt_ BK266 hg; have NB267_266 := xgt_ BK266 hg; replace BK266 := xbb_ BK266 hb; clear hb hbox hg) | ((with_reducible refine gate_callee (f := 30) rfl ?_); refine xgl_ (some 14) Tryz.func30 #[.string a1] ?_; (with_reducible refine (impl_ReadUrl.calls k a1 t268 t269 t270 t271 t272 t273 true _ A3.out (HTB_.out.below (by first | (with_reducible exact Below.refl _ _) | (repeat (first | (with_reducible first | exact HB.out | exact Below.refl _ _ | apply below_alloc | apply pw_below_drewN | apply below_drew1 | refine below_set ?_ GE266.out | refine below_set ?_ GE267.out | refine below_set ?_ GE275.out | refine below_set ?_ GE287.out) | exact HB.out)) | (repeat (first | exact Below.refl _ _ | apply below_alloc | apply pw_below_drewN | apply below_drew1 | refine below_set ?_ GE266.out | refine below_set ?_ GE267.out | refine below_set ?_ GE275.out | refine below_set ?_ GE287.out))))).mono ?_); rintro e w7 ⟨rfl, hb⟩; refine ⟨_, rfl, ?_⟩; replace BK266 := xbb_ BK266 hb; replace BK267 := xbb_ BK267 hb; replace HB := xws_ HB hb; (try clear hb); (try clear hb2); (try clear hk); (try clear hi)) | ((with_reducible refine gate_dst (N := 6) rfl ?_); refine xbe_ (N := 6) (cs := #[.string (⟨#[]⟩ : ByteArray), .string (⟨#[]⟩ : ByteArray), .int .i64 0, .string (⟨#[]⟩ : ByteArray), .string (⟨#[]⟩ : ByteArray), .bool false]) (t := 24) ?_; intro gb275 hg w8 hbox hb; have BK275 := Aside0.mk (hbox); have GW275 := xge_ HB hg; have GE275 := xge_ HB hg; replace HB := xws_ HB hb; have NB266_275 := xlt_ BK266 hg; have NB275_266 := xgt_ BK266 hg; replace BK266 := xbb_ BK266 hb; have NB267_275 := xlt_ BK267 hg; have NB275_267 := xgt_ BK267 hg; replace BK267 := xbb_ BK267 hb; clear hb hbox hg; have hnb9 := NB275_266.out; have hnc9 := NB266_275.out; have hnb10 := NB275_267.out; have hnc10 := NB267_275.out; have ⟨_, _, _, _, _, _, _, _, _, _, _, _⟩ := c6_ BK275; have hnb12 := NB267_266.out; have hnc12 := NB266_267.out; have ⟨_, _, _, _, _, _, _, _, _, _, _, _⟩ := c6_ BK267))
  refine bodyPost_ret (results_ct rfl _ _ gb267 24 #[.string t268, .string t269, .int .i64 t270, .string t271, .string t272, .bool t273] (0, 0) _ rfl (by (with_reducible repeat first | apply bN_ | apply bD_ | apply bA_); refine blk_put (cs := #[.string t268, .string t269, .int .i64 t270, .string t271, .string t272, .bool false]) ?_ 5 _ rfl; (with_reducible repeat first | apply bN_ | apply bD_ | apply bA_); refine blk_put (cs := #[.string t268, .string t269, .int .i64 t270, .string t271, .string (⟨#[]⟩ : ByteArray), .bool false]) ?_ 4 _ rfl; (with_reducible repeat first | apply bN_ | apply bD_ | apply bA_); refine blk_put (cs := #[.string t268, .string t269, .int .i64 t270, .string (⟨#[]⟩ : ByteArray), .string (⟨#[]⟩ : ByteArray), .bool false]) ?_ 3 _ rfl; (with_reducible repeat first | apply bN_ | apply bD_ | apply bA_); refine blk_put (cs := #[.string t268, .string t269, .int .i64 0, .string (⟨#[]⟩ : ByteArray), .string (⟨#[]⟩ : ByteArray), .bool false]) ?_ 2 _ rfl; (with_reducible repeat first | apply bN_ | apply bD_ | apply bA_); refine blk_put (cs := #[.string t268, .string (⟨#[]⟩ : ByteArray), .int .i64 0, .string (⟨#[]⟩ : ByteArray), .string (⟨#[]⟩ : ByteArray), .bool false]) ?_ 1 _ rfl; (with_reducible repeat first | apply bN_ | apply bD_ | apply bA_); refine blk_put (cs := #[.string (⟨#[]⟩ : ByteArray), .string (⟨#[]⟩ : ByteArray), .int .i64 0, .string (⟨#[]⟩ : ByteArray), .string (⟨#[]⟩ : ByteArray), .bool false]) ?_ 0 _ rfl; (with_reducible repeat first | apply bN_ | apply bD_ | apply bA_ | refine blk_far ?_ NB267_275.out _); exact BK267.out) Tryz.underlying24 rfl (by kernel_rfl)) rfl ?_
  exact ⟨by first | rfl | (simp [errW_none, errW_some] <;> rfl) | (simp [*, errW_none, errW_some] <;> rfl), xw_ HB⟩
 ·replace c4 := Bool.eq_false_iff.mpr c4
  subst c4
  have H1 : ((has_prefix_in.f a1 (⟨#[47, 47]⟩ : ByteArray)).bind fun t276 => (if t276 = true then (if a0_0.size + 1 ≤ 9223372036854775807 then (if (a0_0 ++ (⟨#[58]⟩ : ByteArray)).size + a1.size ≤ 9223372036854775807 then ((impl_ReadUrl.f k ((a0_0 ++ (⟨#[58]⟩ : ByteArray)) ++ a1)).bind fun bt277 => (some (bt277.1, bt277.2.1, bt277.2.2.1, bt277.2.2.2.1, bt277.2.2.2.2.1, bt277.2.2.2.2.2.1, bt277.2.2.2.2.2.2))) else (none)) else (none)) else ((strings_Cut.f a1 (⟨#[63]⟩ : ByteArray)).bind fun bt284 => ((has_prefix_in.f bt284.1 (⟨#[47]⟩ : ByteArray)).bind fun t288 => (if t288 = true then (some (a0_0, a0_1, a0_2, bt284.1, bt284.2.1, bt284.2.2, true)) else (if bt284.1.toList = ([] : List UInt8) then (some (a0_0, a0_1, a0_2, a0_3, bt284.2.1, bt284.2.2, true)) else ((strings_LastIndexByte.f k a0_3 47).bind fun t289 => (if 0 ≤ (wrap64 (t289 + 1)) then (if (wrap64 (t289 + 1)) ≤ (a0_3.size : Int) then (if (a0_3.extract 0 ((wrap64 (t289 + 1)) : Int).toNat).size + bt284.1.size ≤ 9223372036854775807 then (some (a0_0, a0_1, a0_2, (a0_3.extract 0 ((wrap64 (t289 + 1)) : Int).toNat) ++ bt284.1, bt284.2.1, bt284.2.2, true)) else (none)) else (none)) else (none))))))))) = some (r1, r2, r3, r4, r5, r6, r7) := by rw [if_neg (show ¬ (false = true) by decide)] at H; exact H
  clear H
  have H := H1
  clear H1
  replace H := Option.bind_eq_some_iff.mp H
  obtain ⟨t276, A140, H⟩ := H
  replace H : (if t276 = true then (if a0_0.size + 1 ≤ 9223372036854775807 then (if (a0_0 ++ (⟨#[58]⟩ : ByteArray)).size + a1.size ≤ 9223372036854775807 then ((impl_ReadUrl.f k ((a0_0 ++ (⟨#[58]⟩ : ByteArray)) ++ a1)).bind fun bt277 => (some (bt277.1, bt277.2.1, bt277.2.2.1, bt277.2.2.2.1, bt277.2.2.2.2.1, bt277.2.2.2.2.2.1, bt277.2.2.2.2.2.2))) else (none)) else (none)) else ((strings_Cut.f a1 (⟨#[63]⟩ : ByteArray)).bind fun bt284 => ((has_prefix_in.f bt284.1 (⟨#[47]⟩ : ByteArray)).bind fun t288 => (if t288 = true then (some (a0_0, a0_1, a0_2, bt284.1, bt284.2.1, bt284.2.2, true)) else (if bt284.1.toList = ([] : List UInt8) then (some (a0_0, a0_1, a0_2, a0_3, bt284.2.1, bt284.2.2, true)) else ((strings_LastIndexByte.f k a0_3 47).bind fun t289 => (if 0 ≤ (wrap64 (t289 + 1)) then (if (wrap64 (t289 + 1)) ≤ (a0_3.size : Int) then (if (a0_3.extract 0 ((wrap64 (t289 + 1)) : Int).toNat).size + bt284.1.size ≤ 9223372036854775807 then (some (a0_0, a0_1, a0_2, (a0_3.extract 0 ((wrap64 (t289 + 1)) : Int).toNat) ++ bt284.1, bt284.2.1, bt284.2.2, true)) else (none)) else (none)) else (none)))))))) = some (r1, r2, r3, r4, r5, r6, r7) := H
  have A14 := Aside0.mk A140
  clear A140
  by_cases c15 : t276 = true
  ·subst c15
   have H1 : (if a0_0.size + 1 ≤ 9223372036854775807 then (if (a0_0 ++ (⟨#[58]⟩ : ByteArray)).size + a1.size ≤ 9223372036854775807 then ((impl_ReadUrl.f k ((a0_0 ++ (⟨#[58]⟩ : ByteArray)) ++ a1)).bind fun bt277 => (some (bt277.1, bt277.2.1, bt277.2.2.1, bt277.2.2.2.1, bt277.2.2.2.2.1, bt277.2.2.2.2.2.1, bt277.2.2.2.2.2.2))) else (none)) else (none)) = some (r1, r2, r3, r4, r5, r6, r7) := by rw [if_pos rfl] at H; exact H
   clear H
   have H := H1
   clear H1
   by_cases c16 : a0_0.size + 1 ≤ 9223372036854775807
   ·rw [if_pos c16] at H
    have c16b0 := eq_true c16
    have c16b1 : decide (a0_0.size + 1 ≤ 9223372036854775807) = true := decide_eq_true c16
    try have c16b2 : (9223372036854775807 < a0_0.size + 1) = False := eq_false (Nat.not_lt.2 c16)
    by_cases c17 : (a0_0 ++ (⟨#[58]⟩ : ByteArray)).size + a1.size ≤ 9223372036854775807
    ·rw [if_pos c17] at H
     have c17b0 := eq_true c17
     have c17b1 : decide ((a0_0 ++ (⟨#[58]⟩ : ByteArray)).size + a1.size ≤ 9223372036854775807) = true := decide_eq_true c17
     try have c17b2 : (9223372036854775807 < (a0_0 ++ (⟨#[58]⟩ : ByteArray)).size + a1.size) = False := eq_false (Nat.not_lt.2 c17)
     try have c17b3 : (9223372036854775807 < a0_0.size + 1 + a1.size) = False := eq_false (Nat.not_lt.2 (by have z_ := c17; simp only [ByteArray.size_append] at z_; exact z_))
     replace H := Option.bind_eq_some_iff.mp H
     obtain ⟨⟨t277, t278, t279, t280, t281, t282, t283⟩, A180, H⟩ := H
     replace H : (some (t277, t278, t279, t280, t281, t282, t283)) = some (r1, r2, r3, r4, r5, r6, r7) := H
     have A18 := Aside0.mk A180
     clear A180
     simp only [Option.some.injEq, Prod.mk.injEq] at H
     obtain ⟨rfl, rfl, rfl, rfl, rfl, rfl, rfl⟩ := H
     go_enter Tryz.func14, Tryz.ntmps14
     go_wp2_with (first | ((with_reducible refine gate_dst (N := 2) rfl ?_); refine xbe_ (N := 2) (cs := #[.string a0_0, .string a0_1, .int .i64 a0_2, .string a0_3, .string a0_4, .bool a0_5]) (t := 24) ?_; intro gb266 hg w19 hbox hb; have BK266 := Aside0.mk (hbox); have GW266 := xge_ HB hg; have GE266 := xge_ HB hg; replace HB := xws_ HB hb; clear hb hbox hg) | ((with_reducible refine gate_dst (N := 4) rfl ?_); refine xbe_ (N := 4) (cs := #[.string (⟨#[]⟩ : ByteArray), .string (⟨#[]⟩ : ByteArray), .int .i64 0, .string (⟨#[]⟩ : ByteArray), .string (⟨#[]⟩ : ByteArray), .bool false]) (t := 24) ?_; intro gb267 hg w20 hbox hb; have BK267 := Aside0.mk (hbox); have GW267 := xge_ HB hg; have GE267 := xge_ HB hg; replace HB := xws_ HB hb; have NB266_267 := xlt_ BK266 hg; have NB267_266 := xgt_ BK266 hg; replace BK266 := xbb_ BK266 hb; clear hb hbox hg) | ((with_reducible refine gate_callee (f := 30) rfl ?_); refine xgl_ (some 14) Tryz.func30 #[.string a1] ?_; (with_reducible refine (impl_ReadUrl.calls k a1 t268 t269 t270 t271 t272 t273 false _ A3.out (HTB_.out.below (by first | (with_reducible exact Below.refl _ _) | (repeat (first | (with_reducible first | exact HB.out | exact Below.refl _ _ | apply below_alloc | apply pw_below_drewN | apply below_drew1 | refine below_set ?_ GE266.out | refine below_set ?_ GE267.out | refine below_set ?_ GE275.out | refine below_set ?_ GE287.out) | exact HB.out)) | (repeat (first | exact Below.refl _ _ | apply below_alloc | apply pw_below_drewN | apply below_drew1 | refine below_set ?_ GE266.out | refine below_set ?_ GE267.out | refine below_set ?_ GE275.out | refine below_set ?_ GE287.out))))).mono ?_); rintro e w21 ⟨rfl, hb⟩; refine ⟨_, rfl, ?_⟩; replace BK266 := xbb_ BK266 hb; replace BK267 := xbb_ BK267 hb; replace HB := xws_ HB hb; (try clear hb); (try clear hb2); (try clear hk); (try clear hi)) | ((with_reducible refine gate_dst (N := 6) rfl ?_); refine xbe_ (N := 6) (cs := #[.string (⟨#[]⟩ : ByteArray), .string (⟨#[]⟩ : ByteArray), .int .i64 0, .string (⟨#[]⟩ : ByteArray), .string (⟨#[]⟩ : ByteArray), .bool false]) (t := 24) ?_; intro gb275 hg w22 hbox hb; have BK275 := Aside0.mk (hbox); have GW275 := xge_ HB hg; have GE275 := xge_ HB hg; replace HB := xws_ HB hb; have NB266_275 := xlt_ BK266 hg; have NB275_266 := xgt_ BK266 hg; replace BK266 := xbb_ BK266 hb; have NB267_275 := xlt_ BK267 hg; have NB275_267 := xgt_ BK267 hg; replace BK267 := xbb_ BK267 hb; clear hb hbox hg; have hnb23 := NB275_266.out; have hnc23 := NB266_275.out; have hnb24 := NB275_267.out; have hnc24 := NB267_275.out; have ⟨_, _, _, _, _, _, _, _, _, _, _, _⟩ := c6_ BK275) | ((with_reducible refine gate_callee (f := 22) rfl ?_); refine xgl_ (some 20) Tryz.func22 #[.string a1, .string (⟨#[47, 47]⟩ : ByteArray)] ?_; (with_reducible refine (has_prefix_in.calls a1 (⟨#[47, 47]⟩ : ByteArray) true _ A14.out).mono ?_); rintro e w26 ⟨rfl, hb⟩; refine ⟨_, rfl, ?_⟩; replace BK266 := Aside0.mk (blk_below (g := gb266) (o := .cells #[.string a0_0, .string a0_1, .int .i64 a0_2, .string a0_3, .string a0_4, .bool a0_5] 24 (0, 0)) (by (with_reducible repeat first | apply bN_ | apply bD_ | apply bA_ | refine blk_far ?_ NB266_275.out _); exact BK266.out) hb); replace BK267 := Aside0.mk (blk_below (g := gb267) (o := .cells #[.string (⟨#[]⟩ : ByteArray), .string (⟨#[]⟩ : ByteArray), .int .i64 0, .string (⟨#[]⟩ : ByteArray), .string (⟨#[]⟩ : ByteArray), .bool false] 24 (0, 0)) (by (with_reducible repeat first | apply bN_ | apply bD_ | apply bA_ | refine blk_far ?_ NB267_275.out _); exact BK267.out) hb); replace BK275 := Aside0.mk (blk_below (g := gb275) (o := .cells #[.string t268, .string t269, .int .i64 t270, .string t271, .string t272, .bool t273] 24 (0, 0)) (by (with_reducible repeat first | apply bN_ | apply bD_ | apply bA_); refine blk_put (cs := #[.string t268, .string t269, .int .i64 t270, .string t271, .string t272, .bool false]) ?_ 5 _ rfl; (with_reducible repeat first | apply bN_ | apply bD_ | apply bA_); refine blk_put (cs := #[.string t268, .string t269, .int .i64 t270, .string t271, .string (⟨#[]⟩ : ByteArray), .bool false]) ?_ 4 _ rfl; (with_reducible repeat first | apply bN_ | apply bD_ | apply bA_); refine blk_put (cs := #[.string t268, .string t269, .int .i64 t270, .string (⟨#[]⟩ : ByteArray), .string (⟨#[]⟩ : ByteArray), .bool false]) ?_ 3 _ rfl; (with_reducible repeat first | apply bN_ | apply bD_ | apply bA_); refine blk_put (cs := #[.string t268, .string t269, .int .i64 0, .string (⟨#[]⟩ : ByteArray), .string (⟨#[]⟩ : ByteArray), .bool false]) ?_ 2 _ rfl; (with_reducible repeat first | apply bN_ | apply bD_ | apply bA_); refine blk_put (cs := #[.string t268, .string (⟨#[]⟩ : ByteArray), .int .i64 0, .string (⟨#[]⟩ : ByteArray), .string (⟨#[]⟩ : ByteArray), .bool false]) ?_ 1 _ rfl; (with_reducible repeat first | apply bN_ | apply bD_ | apply bA_); refine blk_put (cs := #[.string (⟨#[]⟩ : ByteArray), .string (⟨#[]⟩ : ByteArray), .int .i64 0, .string (⟨#[]⟩ : ByteArray), .string (⟨#[]⟩ : ByteArray), .bool false]) ?_ 0 _ rfl; (with_reducible repeat first | apply bN_ | apply bD_ | apply bA_); exact BK275.out) hb); replace HB := xws_ HB hb; (try clear hb); (try clear hb2); (try clear hk); (try clear hi); have hnb27 := NB266_267.out; have hnc27 := NB267_266.out; have ⟨_, _, _, _, _, _, _, _, _, _, _, _⟩ := c6_ BK266) | ((with_reducible refine gate_callee (f := 30) rfl ?_); refine xgl_ (some 26) Tryz.func30 #[.string ((a0_0 ++ (⟨#[58]⟩ : ByteArray)) ++ a1)] ?_; (with_reducible refine (impl_ReadUrl.calls k ((a0_0 ++ (⟨#[58]⟩ : ByteArray)) ++ a1) t277 t278 t279 t280 t281 t282 t283 _ A18.out (HTB_.out.below (by first | (with_reducible exact Below.refl _ _) | (repeat (first | (with_reducible first | exact HB.out | exact Below.refl _ _ | apply below_alloc | apply pw_below_drewN | apply below_drew1 | refine below_set ?_ GE266.out | refine below_set ?_ GE267.out | refine below_set ?_ GE275.out | refine below_set ?_ GE287.out) | exact HB.out)) | (repeat (first | exact Below.refl _ _ | apply below_alloc | apply pw_below_drewN | apply below_drew1 | refine below_set ?_ GE266.out | refine below_set ?_ GE267.out | refine below_set ?_ GE275.out | refine below_set ?_ GE287.out))))).mono ?_); rintro e w29 ⟨rfl, hb⟩; refine ⟨_, rfl, ?_⟩; replace BK266 := xbb_ BK266 hb; replace BK267 := xbb_ BK267 hb; replace BK275 := xbb_ BK275 hb; replace HB := xws_ HB hb; (try clear hb); (try clear hb2); (try clear hk); (try clear hi); have ⟨_, _, _, _, _, _, _, _, _, _, _, _⟩ := c6_ BK267))
     refine bodyPost_ret (results_ct rfl _ _ gb267 24 #[.string t277, .string t278, .int .i64 t279, .string t280, .string t281, .bool t282] (0, 0) _ rfl (by (with_reducible repeat first | apply bN_ | apply bD_ | apply bA_); refine blk_put (cs := #[.string t277, .string t278, .int .i64 t279, .string t280, .string t281, .bool false]) ?_ 5 _ rfl; (with_reducible repeat first | apply bN_ | apply bD_ | apply bA_); refine blk_put (cs := #[.string t277, .string t278, .int .i64 t279, .string t280, .string (⟨#[]⟩ : ByteArray), .bool false]) ?_ 4 _ rfl; (with_reducible repeat first | apply bN_ | apply bD_ | apply bA_); refine blk_put (cs := #[.string t277, .string t278, .int .i64 t279, .string (⟨#[]⟩ : ByteArray), .string (⟨#[]⟩ : ByteArray), .bool false]) ?_ 3 _ rfl; (with_reducible repeat first | apply bN_ | apply bD_ | apply bA_); refine blk_put (cs := #[.string t277, .string t278, .int .i64 0, .string (⟨#[]⟩ : ByteArray), .string (⟨#[]⟩ : ByteArray), .bool false]) ?_ 2 _ rfl; (with_reducible repeat first | apply bN_ | apply bD_ | apply bA_); refine blk_put (cs := #[.string t277, .string (⟨#[]⟩ : ByteArray), .int .i64 0, .string (⟨#[]⟩ : ByteArray), .string (⟨#[]⟩ : ByteArray), .bool false]) ?_ 1 _ rfl; (with_reducible repeat first | apply bN_ | apply bD_ | apply bA_); refine blk_put (cs := #[.string (⟨#[]⟩ : ByteArray), .string (⟨#[]⟩ : ByteArray), .int .i64 0, .string (⟨#[]⟩ : ByteArray), .string (⟨#[]⟩ : ByteArray), .bool false]) ?_ 0 _ rfl; (with_reducible repeat first | apply bN_ | apply bD_ | apply bA_); exact BK267.out) Tryz.underlying24 rfl (by kernel_rfl)) rfl ?_
     exact ⟨by first | rfl | (simp [errW_none, errW_some] <;> rfl) | (simp [*, errW_none, errW_some] <;> rfl), xw_ HB⟩
    ·rw [if_neg c17] at H
     exact absurd H (by simp)
   ·rw [if_neg c16] at H
    exact absurd H (by simp)
  ·replace c15 := Bool.eq_false_iff.mpr c15
   subst c15
   have H1 : ((strings_Cut.f a1 (⟨#[63]⟩ : ByteArray)).bind fun bt284 => ((has_prefix_in.f bt284.1 (⟨#[47]⟩ : ByteArray)).bind fun t288 => (if t288 = true then (some (a0_0, a0_1, a0_2, bt284.1, bt284.2.1, bt284.2.2, true)) else (if bt284.1.toList = ([] : List UInt8) then (some (a0_0, a0_1, a0_2, a0_3, bt284.2.1, bt284.2.2, true)) else ((strings_LastIndexByte.f k a0_3 47).bind fun t289 => (if 0 ≤ (wrap64 (t289 + 1)) then (if (wrap64 (t289 + 1)) ≤ (a0_3.size : Int) then (if (a0_3.extract 0 ((wrap64 (t289 + 1)) : Int).toNat).size + bt284.1.size ≤ 9223372036854775807 then (some (a0_0, a0_1, a0_2, (a0_3.extract 0 ((wrap64 (t289 + 1)) : Int).toNat) ++ bt284.1, bt284.2.1, bt284.2.2, true)) else (none)) else (none)) else (none))))))) = some (r1, r2, r3, r4, r5, r6, r7) := by rw [if_neg (show ¬ (false = true) by decide)] at H; exact H
   clear H
   have H := H1
   clear H1
   replace H := Option.bind_eq_some_iff.mp H
   obtain ⟨⟨t284, t285, t286⟩, A310, H⟩ := H
   replace H : ((has_prefix_in.f t284 (⟨#[47]⟩ : ByteArray)).bind fun t288 => (if t288 = true then (some (a0_0, a0_1, a0_2, t284, t285, t286, true)) else (if t284.toList = ([] : List UInt8) then (some (a0_0, a0_1, a0_2, a0_3, t285, t286, true)) else ((strings_LastIndexByte.f k a0_3 47).bind fun t289 => (if 0 ≤ (wrap64 (t289 + 1)) then (if (wrap64 (t289 + 1)) ≤ (a0_3.size : Int) then (if (a0_3.extract 0 ((wrap64 (t289 + 1)) : Int).toNat).size + t284.size ≤ 9223372036854775807 then (some (a0_0, a0_1, a0_2, (a0_3.extract 0 ((wrap64 (t289 + 1)) : Int).toNat) ++ t284, t285, t286, true)) else (none)) else (none)) else (none)))))) = some (r1, r2, r3, r4, r5, r6, r7) := H
   have A31 := Aside0.mk A310
   clear A310
   replace H := Option.bind_eq_some_iff.mp H
   obtain ⟨t288, A320, H⟩ := H
   replace H : (if t288 = true then (some (a0_0, a0_1, a0_2, t284, t285, t286, true)) else (if t284.toList = ([] : List UInt8) then (some (a0_0, a0_1, a0_2, a0_3, t285, t286, true)) else ((strings_LastIndexByte.f k a0_3 47).bind fun t289 => (if 0 ≤ (wrap64 (t289 + 1)) then (if (wrap64 (t289 + 1)) ≤ (a0_3.size : Int) then (if (a0_3.extract 0 ((wrap64 (t289 + 1)) : Int).toNat).size + t284.size ≤ 9223372036854775807 then (some (a0_0, a0_1, a0_2, (a0_3.extract 0 ((wrap64 (t289 + 1)) : Int).toNat) ++ t284, t285, t286, true)) else (none)) else (none)) else (none))))) = some (r1, r2, r3, r4, r5, r6, r7) := H
   have A32 := Aside0.mk A320
   clear A320
   by_cases c33 : t288 = true
   ·subst c33
    have H1 : (some (a0_0, a0_1, a0_2, t284, t285, t286, true)) = some (r1, r2, r3, r4, r5, r6, r7) := by rw [if_pos rfl] at H; exact H
    clear H
    have H := H1
    clear H1
    simp only [Option.some.injEq, Prod.mk.injEq] at H
    obtain ⟨rfl, rfl, rfl, rfl, rfl, rfl, rfl⟩ := H
    go_enter Tryz.func14, Tryz.ntmps14
    go_wp2_with (first | ((with_reducible refine gate_dst (N := 2) rfl ?_); refine xbe_ (N := 2) (cs := #[.string a0_0, .string a0_1, .int .i64 a0_2, .string a0_3, .string a0_4, .bool a0_5]) (t := 24) ?_; intro gb266 hg w34 hbox hb; have BK266 := Aside0.mk (hbox); have GW266 := xge_ HB hg; have GE266 := xge_ HB hg; replace HB := xws_ HB hb; clear hb hbox hg) | ((with_reducible refine gate_dst (N := 4) rfl ?_); refine xbe_ (N := 4) (cs := #[.string (⟨#[]⟩ : ByteArray), .string (⟨#[]⟩ : ByteArray), .int .i64 0, .string (⟨#[]⟩ : ByteArray), .string (⟨#[]⟩ : ByteArray), .bool false]) (t := 24) ?_; intro gb267 hg w35 hbox hb; have BK267 := Aside0.mk (hbox); have GW267 := xge_ HB hg; have GE267 := xge_ HB hg; replace HB := xws_ HB hb; have NB266_267 := xlt_ BK266 hg; have NB267_266 := xgt_ BK266 hg; replace BK266 := xbb_ BK266 hb; clear hb hbox hg) | ((with_reducible refine gate_callee (f := 30) rfl ?_); refine xgl_ (some 14) Tryz.func30 #[.string a1] ?_; (with_reducible refine (impl_ReadUrl.calls k a1 t268 t269 t270 t271 t272 t273 false _ A3.out (HTB_.out.below (by first | (with_reducible exact Below.refl _ _) | (repeat (first | (with_reducible first | exact HB.out | exact Below.refl _ _ | apply below_alloc | apply pw_below_drewN | apply below_drew1 | refine below_set ?_ GE266.out | refine below_set ?_ GE267.out | refine below_set ?_ GE275.out | refine below_set ?_ GE287.out) | exact HB.out)) | (repeat (first | exact Below.refl _ _ | apply below_alloc | apply pw_below_drewN | apply below_drew1 | refine below_set ?_ GE266.out | refine below_set ?_ GE267.out | refine below_set ?_ GE275.out | refine below_set ?_ GE287.out))))).mono ?_); rintro e w36 ⟨rfl, hb⟩; refine ⟨_, rfl, ?_⟩; replace BK266 := xbb_ BK266 hb; replace BK267 := xbb_ BK267 hb; replace HB := xws_ HB hb; (try clear hb); (try clear hb2); (try clear hk); (try clear hi)) | ((with_reducible refine gate_dst (N := 6) rfl ?_); refine xbe_ (N := 6) (cs := #[.string (⟨#[]⟩ : ByteArray), .string (⟨#[]⟩ : ByteArray), .int .i64 0, .string (⟨#[]⟩ : ByteArray), .string (⟨#[]⟩ : ByteArray), .bool false]) (t := 24) ?_; intro gb275 hg w37 hbox hb; have BK275 := Aside0.mk (hbox); have GW275 := xge_ HB hg; have GE275 := xge_ HB hg; replace HB := xws_ HB hb; have NB266_275 := xlt_ BK266 hg; have NB275_266 := xgt_ BK266 hg; replace BK266 := xbb_ BK266 hb; have NB267_275 := xlt_ BK267 hg; have NB275_267 := xgt_ BK267 hg; replace BK267 := xbb_ BK267 hb; clear hb hbox hg; have hnb38 := NB275_266.out; have hnc38 := NB266_275.out; have hnb39 := NB275_267.out; have hnc39 := NB267_275.out; have ⟨_, _, _, _, _, _, _, _, _, _, _, _⟩ := c6_ BK275) | ((with_reducible refine gate_callee (f := 22) rfl ?_); refine xgl_ (some 20) Tryz.func22 #[.string a1, .string (⟨#[47, 47]⟩ : ByteArray)] ?_; (with_reducible refine (has_prefix_in.calls a1 (⟨#[47, 47]⟩ : ByteArray) false _ A14.out).mono ?_); rintro e w41 ⟨rfl, hb⟩; refine ⟨_, rfl, ?_⟩; replace BK266 := Aside0.mk (blk_below (g := gb266) (o := .cells #[.string a0_0, .string a0_1, .int .i64 a0_2, .string a0_3, .string a0_4, .bool a0_5] 24 (0, 0)) (by (with_reducible repeat first | apply bN_ | apply bD_ | apply bA_ | refine blk_far ?_ NB266_275.out _); exact BK266.out) hb); replace BK267 := Aside0.mk (blk_below (g := gb267) (o := .cells #[.string (⟨#[]⟩ : ByteArray), .string (⟨#[]⟩ : ByteArray), .int .i64 0, .string (⟨#[]⟩ : ByteArray), .string (⟨#[]⟩ : ByteArray), .bool false] 24 (0, 0)) (by (with_reducible repeat first | apply bN_ | apply bD_ | apply bA_ | refine blk_far ?_ NB267_275.out _); exact BK267.out) hb); replace BK275 := Aside0.mk (blk_below (g := gb275) (o := .cells #[.string t268, .string t269, .int .i64 t270, .string t271, .string t272, .bool t273] 24 (0, 0)) (by (with_reducible repeat first | apply bN_ | apply bD_ | apply bA_); refine blk_put (cs := #[.string t268, .string t269, .int .i64 t270, .string t271, .string t272, .bool false]) ?_ 5 _ rfl; (with_reducible repeat first | apply bN_ | apply bD_ | apply bA_); refine blk_put (cs := #[.string t268, .string t269, .int .i64 t270, .string t271, .string (⟨#[]⟩ : ByteArray), .bool false]) ?_ 4 _ rfl; (with_reducible repeat first | apply bN_ | apply bD_ | apply bA_); refine blk_put (cs := #[.string t268, .string t269, .int .i64 t270, .string (⟨#[]⟩ : ByteArray), .string (⟨#[]⟩ : ByteArray), .bool false]) ?_ 3 _ rfl; (with_reducible repeat first | apply bN_ | apply bD_ | apply bA_); refine blk_put (cs := #[.string t268, .string t269, .int .i64 0, .string (⟨#[]⟩ : ByteArray), .string (⟨#[]⟩ : ByteArray), .bool false]) ?_ 2 _ rfl; (with_reducible repeat first | apply bN_ | apply bD_ | apply bA_); refine blk_put (cs := #[.string t268, .string (⟨#[]⟩ : ByteArray), .int .i64 0, .string (⟨#[]⟩ : ByteArray), .string (⟨#[]⟩ : ByteArray), .bool false]) ?_ 1 _ rfl; (with_reducible repeat first | apply bN_ | apply bD_ | apply bA_); refine blk_put (cs := #[.string (⟨#[]⟩ : ByteArray), .string (⟨#[]⟩ : ByteArray), .int .i64 0, .string (⟨#[]⟩ : ByteArray), .string (⟨#[]⟩ : ByteArray), .bool false]) ?_ 0 _ rfl; (with_reducible repeat first | apply bN_ | apply bD_ | apply bA_); exact BK275.out) hb); replace HB := xws_ HB hb; (try clear hb); (try clear hb2); (try clear hk); (try clear hi)) | ((with_reducible refine gate_callee (f := 31) rfl ?_); refine xgl_ (some 31) Tryz.func31 #[.string a1, .string (⟨#[63]⟩ : ByteArray)] ?_; (with_reducible refine (strings_Cut.calls a1 (⟨#[63]⟩ : ByteArray) t284 t285 t286 _ A31.out (HTB_.out.below (by first | (with_reducible exact Below.refl _ _) | (repeat (first | (with_reducible first | exact HB.out | exact Below.refl _ _ | apply below_alloc | apply pw_below_drewN | apply below_drew1 | refine below_set ?_ GE266.out | refine below_set ?_ GE267.out | refine below_set ?_ GE275.out | refine below_set ?_ GE287.out) | exact HB.out)) | (repeat (first | exact Below.refl _ _ | apply below_alloc | apply pw_below_drewN | apply below_drew1 | refine below_set ?_ GE266.out | refine below_set ?_ GE267.out | refine below_set ?_ GE275.out | refine below_set ?_ GE287.out))))).mono ?_); rintro e w42 ⟨rfl, hb⟩; refine ⟨_, rfl, ?_⟩; replace BK266 := xbb_ BK266 hb; replace BK267 := xbb_ BK267 hb; replace BK275 := xbb_ BK275 hb; replace HB := xws_ HB hb; (try clear hb); (try clear hb2); (try clear hk); (try clear hi); have hnb43 := NB266_267.out; have hnc43 := NB267_266.out; have ⟨_, _, _, _, _, _, _, _, _, _, _, _⟩ := c6_ BK266) | ((with_reducible refine gate_dst (N := 11) rfl ?_); refine xbe_ (N := 11) (cs := #[.string (⟨#[]⟩ : ByteArray), .string (⟨#[]⟩ : ByteArray), .int .i64 0, .string (⟨#[]⟩ : ByteArray), .string (⟨#[]⟩ : ByteArray), .bool false]) (t := 24) ?_; intro gb287 hg w45 hbox hb; have BK287 := Aside0.mk (hbox); have GW287 := xge_ HB hg; have GE287 := xge_ HB hg; replace HB := xws_ HB hb; have NB266_287 := xlt_ BK266 hg; have NB287_266 := xgt_ BK266 hg; replace BK266 := xbb_ BK266 hb; have NB267_287 := xlt_ BK267 hg; have NB287_267 := xgt_ BK267 hg; replace BK267 := xbb_ BK267 hb; have NB275_287 := xlt_ BK275 hg; have NB287_275 := xgt_ BK275 hg; replace BK275 := xbb_ BK275 hb; clear hb hbox hg; have hnb46 := NB287_266.out; have hnc46 := NB266_287.out; have hnb47 := NB287_267.out; have hnc47 := NB267_287.out; have hnb48 := NB287_275.out; have hnc48 := NB275_287.out; have ⟨_, _, _, _, _, _, _, _, _, _, _, _⟩ := c6_ BK287) | ((with_reducible refine gate_callee (f := 22) rfl ?_); refine xgl_ (some 42) Tryz.func22 #[.string t284, .string (⟨#[47]⟩ : ByteArray)] ?_; (with_reducible refine (has_prefix_in.calls t284 (⟨#[47]⟩ : ByteArray) true _ A32.out).mono ?_); rintro e w50 ⟨rfl, hb⟩; refine ⟨_, rfl, ?_⟩; replace BK266 := Aside0.mk (blk_below (g := gb266) (o := .cells #[.string a0_0, .string a0_1, .int .i64 a0_2, .string a0_3, .string a0_4, .bool a0_5] 24 (0, 0)) (by (with_reducible repeat first | apply bN_ | apply bD_ | apply bA_ | refine blk_far ?_ NB266_287.out _); exact BK266.out) hb); replace BK267 := Aside0.mk (blk_below (g := gb267) (o := .cells #[.string (⟨#[]⟩ : ByteArray), .string (⟨#[]⟩ : ByteArray), .int .i64 0, .string (⟨#[]⟩ : ByteArray), .string (⟨#[]⟩ : ByteArray), .bool false] 24 (0, 0)) (by (with_reducible repeat first | apply bN_ | apply bD_ | apply bA_ | refine blk_far ?_ NB267_287.out _); exact BK267.out) hb); replace BK275 := Aside0.mk (blk_below (g := gb275) (o := .cells #[.string t268, .string t269, .int .i64 t270, .string t271, .string t272, .bool t273] 24 (0, 0)) (by (with_reducible repeat first | apply bN_ | apply bD_ | apply bA_ | refine blk_far ?_ NB275_287.out _); exact BK275.out) hb); replace BK287 := Aside0.mk (blk_below (g := gb287) (o := .cells #[.string a0_0, .string a0_1, .int .i64 a0_2, .string a0_3, .string t285, .bool t286] 24 (0, 0)) (by (with_reducible repeat first | apply bN_ | apply bD_ | apply bA_); refine blk_put (cs := #[.string a0_0, .string a0_1, .int .i64 a0_2, .string a0_3, .string t285, .bool a0_5]) ?_ 5 _ rfl; (with_reducible repeat first | apply bN_ | apply bD_ | apply bA_); refine blk_put (cs := #[.string a0_0, .string a0_1, .int .i64 a0_2, .string a0_3, .string a0_4, .bool a0_5]) ?_ 4 _ rfl; (with_reducible repeat first | apply bN_ | apply bD_ | apply bA_); refine blk_put (cs := #[.string a0_0, .string a0_1, .int .i64 a0_2, .string a0_3, .string a0_4, .bool false]) ?_ 5 _ rfl; (with_reducible repeat first | apply bN_ | apply bD_ | apply bA_); refine blk_put (cs := #[.string a0_0, .string a0_1, .int .i64 a0_2, .string a0_3, .string (⟨#[]⟩ : ByteArray), .bool false]) ?_ 4 _ rfl; (with_reducible repeat first | apply bN_ | apply bD_ | apply bA_); refine blk_put (cs := #[.string a0_0, .string a0_1, .int .i64 a0_2, .string (⟨#[]⟩ : ByteArray), .string (⟨#[]⟩ : ByteArray), .bool false]) ?_ 3 _ rfl; (with_reducible repeat first | apply bN_ | apply bD_ | apply bA_); refine blk_put (cs := #[.string a0_0, .string a0_1, .int .i64 0, .string (⟨#[]⟩ : ByteArray), .string (⟨#[]⟩ : ByteArray), .bool false]) ?_ 2 _ rfl; (with_reducible repeat first | apply bN_ | apply bD_ | apply bA_); refine blk_put (cs := #[.string a0_0, .string (⟨#[]⟩ : ByteArray), .int .i64 0, .string (⟨#[]⟩ : ByteArray), .string (⟨#[]⟩ : ByteArray), .bool false]) ?_ 1 _ rfl; (with_reducible repeat first | apply bN_ | apply bD_ | apply bA_); refine blk_put (cs := #[.string (⟨#[]⟩ : ByteArray), .string (⟨#[]⟩ : ByteArray), .int .i64 0, .string (⟨#[]⟩ : ByteArray), .string (⟨#[]⟩ : ByteArray), .bool false]) ?_ 0 _ rfl; (with_reducible repeat first | apply bN_ | apply bD_ | apply bA_); exact BK287.out) hb); replace HB := xws_ HB hb; (try clear hb); (try clear hb2); (try clear hk); (try clear hi); have ⟨_, _, _, _, _, _, _, _, _, _, _, _⟩ := c6_ BK287; have ⟨_, _, _, _, _, _, _, _, _, _, _, _⟩ := c6_ BK267))
    refine bodyPost_ret (results_ct rfl _ _ gb267 24 #[.string a0_0, .string a0_1, .int .i64 a0_2, .string t284, .string t285, .bool t286] (0, 0) _ rfl (by (with_reducible repeat first | apply bN_ | apply bD_ | apply bA_); refine blk_put (cs := #[.string a0_0, .string a0_1, .int .i64 a0_2, .string t284, .string t285, .bool false]) ?_ 5 _ rfl; (with_reducible repeat first | apply bN_ | apply bD_ | apply bA_); refine blk_put (cs := #[.string a0_0, .string a0_1, .int .i64 a0_2, .string t284, .string (⟨#[]⟩ : ByteArray), .bool false]) ?_ 4 _ rfl; (with_reducible repeat first | apply bN_ | apply bD_ | apply bA_); refine blk_put (cs := #[.string a0_0, .string a0_1, .int .i64 a0_2, .string (⟨#[]⟩ : ByteArray), .string (⟨#[]⟩ : ByteArray), .bool false]) ?_ 3 _ rfl; (with_reducible repeat first | apply bN_ | apply bD_ | apply bA_); refine blk_put (cs := #[.string a0_0, .string a0_1, .int .i64 0, .string (⟨#[]⟩ : ByteArray), .string (⟨#[]⟩ : ByteArray), .bool false]) ?_ 2 _ rfl; (with_reducible repeat first | apply bN_ | apply bD_ | apply bA_); refine blk_put (cs := #[.string a0_0, .string (⟨#[]⟩ : ByteArray), .int .i64 0, .string (⟨#[]⟩ : ByteArray), .string (⟨#[]⟩ : ByteArray), .bool false]) ?_ 1 _ rfl; (with_reducible repeat first | apply bN_ | apply bD_ | apply bA_); refine blk_put (cs := #[.string (⟨#[]⟩ : ByteArray), .string (⟨#[]⟩ : ByteArray), .int .i64 0, .string (⟨#[]⟩ : ByteArray), .string (⟨#[]⟩ : ByteArray), .bool false]) ?_ 0 _ rfl; (with_reducible repeat first | apply bN_ | apply bD_ | apply bA_ | refine blk_far ?_ NB267_287.out _); exact BK267.out) Tryz.underlying24 rfl (by kernel_rfl)) rfl ?_
    exact ⟨by first | rfl | (simp [errW_none, errW_some] <;> rfl) | (simp [*, errW_none, errW_some] <;> rfl), xw_ HB⟩
   ·replace c33 := Bool.eq_false_iff.mpr c33
    subst c33
    have H1 : (if t284.toList = ([] : List UInt8) then (some (a0_0, a0_1, a0_2, a0_3, t285, t286, true)) else ((strings_LastIndexByte.f k a0_3 47).bind fun t289 => (if 0 ≤ (wrap64 (t289 + 1)) then (if (wrap64 (t289 + 1)) ≤ (a0_3.size : Int) then (if (a0_3.extract 0 ((wrap64 (t289 + 1)) : Int).toNat).size + t284.size ≤ 9223372036854775807 then (some (a0_0, a0_1, a0_2, (a0_3.extract 0 ((wrap64 (t289 + 1)) : Int).toNat) ++ t284, t285, t286, true)) else (none)) else (none)) else (none)))) = some (r1, r2, r3, r4, r5, r6, r7) := by rw [if_neg (show ¬ (false = true) by decide)] at H; exact H
    clear H
    have H := H1
    clear H1
    by_cases c53 : t284.toList = ([] : List UInt8)
    ·rw [if_pos c53] at H
     have c53b0 : (t284.toList == ([] : List UInt8)) = true := beq_iff_eq.mpr c53
     have c53b1 : (t284.toList != ([] : List UInt8)) = false := bne_eq_false_iff_eq.mpr c53
     clear c53
     simp only [Option.some.injEq, Prod.mk.injEq] at H
     obtain ⟨rfl, rfl, rfl, rfl, rfl, rfl, rfl⟩ := H
     go_enter Tryz.func14, Tryz.ntmps14
     go_wp2_with (first | ((with_reducible refine gate_dst (N := 2) rfl ?_); refine xbe_ (N := 2) (cs := #[.string a0_0, .string a0_1, .int .i64 a0_2, .string a0_3, .string a0_4, .bool a0_5]) (t := 24) ?_; intro gb266 hg w54 hbox hb; have BK266 := Aside0.mk (hbox); have GW266 := xge_ HB hg; have GE266 := xge_ HB hg; replace HB := xws_ HB hb; clear hb hbox hg) | ((with_reducible refine gate_dst (N := 4) rfl ?_); refine xbe_ (N := 4) (cs := #[.string (⟨#[]⟩ : ByteArray), .string (⟨#[]⟩ : ByteArray), .int .i64 0, .string (⟨#[]⟩ : ByteArray), .string (⟨#[]⟩ : ByteArray), .bool false]) (t := 24) ?_; intro gb267 hg w55 hbox hb; have BK267 := Aside0.mk (hbox); have GW267 := xge_ HB hg; have GE267 := xge_ HB hg; replace HB := xws_ HB hb; have NB266_267 := xlt_ BK266 hg; have NB267_266 := xgt_ BK266 hg; replace BK266 := xbb_ BK266 hb; clear hb hbox hg) | ((with_reducible refine gate_callee (f := 30) rfl ?_); refine xgl_ (some 14) Tryz.func30 #[.string a1] ?_; (with_reducible refine (impl_ReadUrl.calls k a1 t268 t269 t270 t271 t272 t273 false _ A3.out (HTB_.out.below (by first | (with_reducible exact Below.refl _ _) | (repeat (first | (with_reducible first | exact HB.out | exact Below.refl _ _ | apply below_alloc | apply pw_below_drewN | apply below_drew1 | refine below_set ?_ GE266.out | refine below_set ?_ GE267.out | refine below_set ?_ GE275.out | refine below_set ?_ GE287.out) | exact HB.out)) | (repeat (first | exact Below.refl _ _ | apply below_alloc | apply pw_below_drewN | apply below_drew1 | refine below_set ?_ GE266.out | refine below_set ?_ GE267.out | refine below_set ?_ GE275.out | refine below_set ?_ GE287.out))))).mono ?_); rintro e w56 ⟨rfl, hb⟩; refine ⟨_, rfl, ?_⟩; replace BK266 := xbb_ BK266 hb; replace BK267 := xbb_ BK267 hb; replace HB := xws_ HB hb; (try clear hb); (try clear hb2); (try clear hk); (try clear hi)) | ((with_reducible refine gate_dst (N := 6) rfl ?_); refine xbe_ (N := 6) (cs := #[.string (⟨#[]⟩ : ByteArray), .string (⟨#[]⟩ : ByteArray), .int .i64 0, .string (⟨#[]⟩ : ByteArray), .string (⟨#[]⟩ : ByteArray), .bool false]) (t := 24) ?_; intro gb275 hg w57 hbox hb; have BK275 := Aside0.mk (hbox); have GW275 := xge_ HB hg; have GE275 := xge_ HB hg; replace HB := xws_ HB hb; have NB266_275 := xlt_ BK266 hg; have NB275_266 := xgt_ BK266 hg; replace BK266 := xbb_ BK266 hb; have NB267_275 := xlt_ BK267 hg; have NB275_267 := xgt_ BK267 hg; replace BK267 := xbb_ BK267 hb; clear hb hbox hg; have hnb58 := NB275_266.out; have hnc58 := NB266_275.out; have hnb59 := NB275_267.out; have hnc59 := NB267_275.out; have ⟨_, _, _, _, _, _, _, _, _, _, _, _⟩ := c6_ BK275) | ((with_reducible refine gate_callee (f := 22) rfl ?_); refine xgl_ (some 20) Tryz.func22 #[.string a1, .string (⟨#[47, 47]⟩ : ByteArray)] ?_; (with_reducible refine (has_prefix_in.calls a1 (⟨#[47, 47]⟩ : ByteArray) false _ A14.out).mono ?_); rintro e w61 ⟨rfl, hb⟩; refine ⟨_, rfl, ?_⟩; replace BK266 := Aside0.mk (blk_below (g := gb266) (o := .cells #[.string a0_0, .string a0_1, .int .i64 a0_2, .string a0_3, .string a0_4, .bool a0_5] 24 (0, 0)) (by (with_reducible repeat first | apply bN_ | apply bD_ | apply bA_ | refine blk_far ?_ NB266_275.out _); exact BK266.out) hb); replace BK267 := Aside0.mk (blk_below (g := gb267) (o := .cells #[.string (⟨#[]⟩ : ByteArray), .string (⟨#[]⟩ : ByteArray), .int .i64 0, .string (⟨#[]⟩ : ByteArray), .string (⟨#[]⟩ : ByteArray), .bool false] 24 (0, 0)) (by (with_reducible repeat first | apply bN_ | apply bD_ | apply bA_ | refine blk_far ?_ NB267_275.out _); exact BK267.out) hb); replace BK275 := Aside0.mk (blk_below (g := gb275) (o := .cells #[.string t268, .string t269, .int .i64 t270, .string t271, .string t272, .bool t273] 24 (0, 0)) (by (with_reducible repeat first | apply bN_ | apply bD_ | apply bA_); refine blk_put (cs := #[.string t268, .string t269, .int .i64 t270, .string t271, .string t272, .bool false]) ?_ 5 _ rfl; (with_reducible repeat first | apply bN_ | apply bD_ | apply bA_); refine blk_put (cs := #[.string t268, .string t269, .int .i64 t270, .string t271, .string (⟨#[]⟩ : ByteArray), .bool false]) ?_ 4 _ rfl; (with_reducible repeat first | apply bN_ | apply bD_ | apply bA_); refine blk_put (cs := #[.string t268, .string t269, .int .i64 t270, .string (⟨#[]⟩ : ByteArray), .string (⟨#[]⟩ : ByteArray), .bool false]) ?_ 3 _ rfl; (with_reducible repeat first | apply bN_ | apply bD_ | apply bA_); refine blk_put (cs := #[.string t268, .string t269, .int .i64 0, .string (⟨#[]⟩ : ByteArray), .string (⟨#[]⟩ : ByteArray), .bool false]) ?_ 2 _ rfl; (with_reducible repeat first | apply bN_ | apply bD_ | apply bA_); refine blk_put (cs := #[.string t268, .string (⟨#[]⟩ : ByteArray), .int .i64 0, .string (⟨#[]⟩ : ByteArray), .string (⟨#[]⟩ : ByteArray), .bool false]) ?_ 1 _ rfl; (with_reducible repeat first | apply bN_ | apply bD_ | apply bA_); refine blk_put (cs := #[.string (⟨#[]⟩ : ByteArray), .string (⟨#[]⟩ : ByteArray), .int .i64 0, .string (⟨#[]⟩ : ByteArray), .string (⟨#[]⟩ : ByteArray), .bool false]) ?_ 0 _ rfl; (with_reducible repeat first | apply bN_ | apply bD_ | apply bA_); exact BK275.out) hb); replace HB := xws_ HB hb; (try clear hb); (try clear hb2); (try clear hk); (try clear hi)) | ((with_reducible refine gate_callee (f := 31) rfl ?_); refine xgl_ (some 31) Tryz.func31 #[.string a1, .string (⟨#[63]⟩ : ByteArray)] ?_; (with_reducible refine (strings_Cut.calls a1 (⟨#[63]⟩ : ByteArray) t284 t285 t286 _ A31.out (HTB_.out.below (by first | (with_reducible exact Below.refl _ _) | (repeat (first | (with_reducible first | exact HB.out | exact Below.refl _ _ | apply below_alloc | apply pw_below_drewN | apply below_drew1 | refine below_set ?_ GE266.out | refine below_set ?_ GE267.out | refine below_set ?_ GE275.out | refine below_set ?_ GE287.out) | exact HB.out)) | (repeat (first | exact Below.refl _ _ | apply below_alloc | apply pw_below_drewN | apply below_drew1 | refine below_set ?_ GE266.out | refine below_set ?_ GE267.out | refine below_set ?_ GE275.out | refine below_set ?_ GE287.out))))).mono ?_); rintro e w62 ⟨rfl, hb⟩; refine ⟨_, rfl, ?_⟩; replace BK266 := xbb_ BK266 hb; replace BK267 := xbb_ BK267 hb; replace BK275 := xbb_ BK275 hb; replace HB := xws_ HB hb; (try clear hb); (try clear hb2); (try clear hk); (try clear hi); have hnb63 := NB266_267.out; have hnc63 := NB267_266.out; have ⟨_, _, _, _, _, _, _, _, _, _, _, _⟩ := c6_ BK266) | ((with_reducible refine gate_dst (N := 11) rfl ?_); refine xbe_ (N := 11) (cs := #[.string (⟨#[]⟩ : ByteArray), .string (⟨#[]⟩ : ByteArray), .int .i64 0, .string (⟨#[]⟩ : ByteArray), .string (⟨#[]⟩ : ByteArray), .bool false]) (t := 24) ?_; intro gb287 hg w65 hbox hb; have BK287 := Aside0.mk (hbox); have GW287 := xge_ HB hg; have GE287 := xge_ HB hg; replace HB := xws_ HB hb; have NB266_287 := xlt_ BK266 hg; have NB287_266 := xgt_ BK266 hg; replace BK266 := xbb_ BK266 hb; have NB267_287 := xlt_ BK267 hg; have NB287_267 := xgt_ BK267 hg; replace BK267 := xbb_ BK267 hb; have NB275_287 := xlt_ BK275 hg; have NB287_275 := xgt_ BK275 hg; replace BK275 := xbb_ BK275 hb; clear hb hbox hg; have hnb66 := NB287_266.out; have hnc66 := NB266_287.out; have hnb67 := NB287_267.out; have hnc67 := NB267_287.out; have hnb68 := NB287_275.out; have hnc68 := NB275_287.out; have ⟨_, _, _, _, _, _, _, _, _, _, _, _⟩ := c6_ BK287) | ((with_reducible refine gate_callee (f := 22) rfl ?_); refine xgl_ (some 42) Tryz.func22 #[.string t284, .string (⟨#[47]⟩ : ByteArray)] ?_; (with_reducible refine (has_prefix_in.calls t284 (⟨#[47]⟩ : ByteArray) false _ A32.out).mono ?_); rintro e w70 ⟨rfl, hb⟩; refine ⟨_, rfl, ?_⟩; replace BK266 := Aside0.mk (blk_below (g := gb266) (o := .cells #[.string a0_0, .string a0_1, .int .i64 a0_2, .string a0_3, .string a0_4, .bool a0_5] 24 (0, 0)) (by (with_reducible repeat first | apply bN_ | apply bD_ | apply bA_ | refine blk_far ?_ NB266_287.out _); exact BK266.out) hb); replace BK267 := Aside0.mk (blk_below (g := gb267) (o := .cells #[.string (⟨#[]⟩ : ByteArray), .string (⟨#[]⟩ : ByteArray), .int .i64 0, .string (⟨#[]⟩ : ByteArray), .string (⟨#[]⟩ : ByteArray), .bool false] 24 (0, 0)) (by (with_reducible repeat first | apply bN_ | apply bD_ | apply bA_ | refine blk_far ?_ NB267_287.out _); exact BK267.out) hb); replace BK275 := Aside0.mk (blk_below (g := gb275) (o := .cells #[.string t268, .string t269, .int .i64 t270, .string t271, .string t272, .bool t273] 24 (0, 0)) (by (with_reducible repeat first | apply bN_ | apply bD_ | apply bA_ | refine blk_far ?_ NB275_287.out _); exact BK275.out) hb); replace BK287 := Aside0.mk (blk_below (g := gb287) (o := .cells #[.string a0_0, .string a0_1, .int .i64 a0_2, .string a0_3, .string t285, .bool t286] 24 (0, 0)) (by (with_reducible repeat first | apply bN_ | apply bD_ | apply bA_); refine blk_put (cs := #[.string a0_0, .string a0_1, .int .i64 a0_2, .string a0_3, .string t285, .bool a0_5]) ?_ 5 _ rfl; (with_reducible repeat first | apply bN_ | apply bD_ | apply bA_); refine blk_put (cs := #[.string a0_0, .string a0_1, .int .i64 a0_2, .string a0_3, .string a0_4, .bool a0_5]) ?_ 4 _ rfl; (with_reducible repeat first | apply bN_ | apply bD_ | apply bA_); refine blk_put (cs := #[.string a0_0, .string a0_1, .int .i64 a0_2, .string a0_3, .string a0_4, .bool false]) ?_ 5 _ rfl; (with_reducible repeat first | apply bN_ | apply bD_ | apply bA_); refine blk_put (cs := #[.string a0_0, .string a0_1, .int .i64 a0_2, .string a0_3, .string (⟨#[]⟩ : ByteArray), .bool false]) ?_ 4 _ rfl; (with_reducible repeat first | apply bN_ | apply bD_ | apply bA_); refine blk_put (cs := #[.string a0_0, .string a0_1, .int .i64 a0_2, .string (⟨#[]⟩ : ByteArray), .string (⟨#[]⟩ : ByteArray), .bool false]) ?_ 3 _ rfl; (with_reducible repeat first | apply bN_ | apply bD_ | apply bA_); refine blk_put (cs := #[.string a0_0, .string a0_1, .int .i64 0, .string (⟨#[]⟩ : ByteArray), .string (⟨#[]⟩ : ByteArray), .bool false]) ?_ 2 _ rfl; (with_reducible repeat first | apply bN_ | apply bD_ | apply bA_); refine blk_put (cs := #[.string a0_0, .string (⟨#[]⟩ : ByteArray), .int .i64 0, .string (⟨#[]⟩ : ByteArray), .string (⟨#[]⟩ : ByteArray), .bool false]) ?_ 1 _ rfl; (with_reducible repeat first | apply bN_ | apply bD_ | apply bA_); refine blk_put (cs := #[.string (⟨#[]⟩ : ByteArray), .string (⟨#[]⟩ : ByteArray), .int .i64 0, .string (⟨#[]⟩ : ByteArray), .string (⟨#[]⟩ : ByteArray), .bool false]) ?_ 0 _ rfl; (with_reducible repeat first | apply bN_ | apply bD_ | apply bA_); exact BK287.out) hb); replace HB := xws_ HB hb; (try clear hb); (try clear hb2); (try clear hk); (try clear hi); have ⟨_, _, _, _, _, _, _, _, _, _, _, _⟩ := c6_ BK287; have ⟨_, _, _, _, _, _, _, _, _, _, _, _⟩ := c6_ BK267))
     refine bodyPost_ret (results_ct rfl _ _ gb267 24 #[.string a0_0, .string a0_1, .int .i64 a0_2, .string a0_3, .string t285, .bool t286] (0, 0) _ rfl (by (with_reducible repeat first | apply bN_ | apply bD_ | apply bA_); refine blk_put (cs := #[.string a0_0, .string a0_1, .int .i64 a0_2, .string a0_3, .string t285, .bool false]) ?_ 5 _ rfl; (with_reducible repeat first | apply bN_ | apply bD_ | apply bA_); refine blk_put (cs := #[.string a0_0, .string a0_1, .int .i64 a0_2, .string a0_3, .string (⟨#[]⟩ : ByteArray), .bool false]) ?_ 4 _ rfl; (with_reducible repeat first | apply bN_ | apply bD_ | apply bA_); refine blk_put (cs := #[.string a0_0, .string a0_1, .int .i64 a0_2, .string (⟨#[]⟩ : ByteArray), .string (⟨#[]⟩ : ByteArray), .bool false]) ?_ 3 _ rfl; (with_reducible repeat first | apply bN_ | apply bD_ | apply bA_); refine blk_put (cs := #[.string a0_0, .string a0_1, .int .i64 0, .string (⟨#[]⟩ : ByteArray), .string (⟨#[]⟩ : ByteArray), .bool false]) ?_ 2 _ rfl; (with_reducible repeat first | apply bN_ | apply bD_ | apply bA_); refine blk_put (cs := #[.string a0_0, .string (⟨#[]⟩ : ByteArray), .int .i64 0, .string (⟨#[]⟩ : ByteArray), .string (⟨#[]⟩ : ByteArray), .bool false]) ?_ 1 _ rfl; (with_reducible repeat first | apply bN_ | apply bD_ | apply bA_); refine blk_put (cs := #[.string (⟨#[]⟩ : ByteArray), .string (⟨#[]⟩ : ByteArray), .int .i64 0, .string (⟨#[]⟩ : ByteArray), .string (⟨#[]⟩ : ByteArray), .bool false]) ?_ 0 _ rfl; (with_reducible repeat first | apply bN_ | apply bD_ | apply bA_); exact BK267.out) Tryz.underlying24 rfl (by kernel_rfl)) rfl ?_
     exact ⟨by first | rfl | (simp [errW_none, errW_some] <;> rfl) | (simp [*, errW_none, errW_some] <;> rfl), xw_ HB⟩
    ·rw [if_neg c53] at H
     have c53b0 : (t284.toList == ([] : List UInt8)) = false := beq_eq_false_iff_ne.mpr c53
     have c53b1 : (t284.toList != ([] : List UInt8)) = true := bne_iff_ne.mpr c53
     replace H := Option.bind_eq_some_iff.mp H
     obtain ⟨t289, A730, H⟩ := H
     replace H : (if 0 ≤ (wrap64 (t289 + 1)) then (if (wrap64 (t289 + 1)) ≤ (a0_3.size : Int) then (if (a0_3.extract 0 ((wrap64 (t289 + 1)) : Int).toNat).size + t284.size ≤ 9223372036854775807 then (some (a0_0, a0_1, a0_2, (a0_3.extract 0 ((wrap64 (t289 + 1)) : Int).toNat) ++ t284, t285, t286, true)) else (none)) else (none)) else (none)) = some (r1, r2, r3, r4, r5, r6, r7) := H
     have A73 := Aside0.mk A730
     clear A730
     obtain ⟨ji74, hji74⟩ : ∃ j_ : Int, (wrap64 (t289 + 1)) = j_ := ⟨_, rfl⟩
     replace H : (if 0 ≤ (ji74) then (if (ji74) ≤ (a0_3.size : Int) then (if (a0_3.extract 0 ((ji74) : Int).toNat).size + t284.size ≤ 9223372036854775807 then (some (a0_0, a0_1, a0_2, (a0_3.extract 0 ((ji74) : Int).toNat) ++ t284, t285, t286, true)) else (none)) else (none)) else (none)) = some (r1, r2, r3, r4, r5, r6, r7) := by first | (rw [hji74] at H; exact H) | (simp only [hji74] at H ⊢; exact H)
     (try rw [hji74] at A3)
     (try rw [hji74] at A14)
     (try rw [hji74] at A31)
     (try rw [hji74] at A32)
     (try rw [hji74] at A73)
     have hji74w : (IntKind.i64.wrap (t289 + 1)) = ji74 := (i64_w _).trans hji74
     by_cases c75 : 0 ≤ (ji74)
     ·rw [if_pos c75] at H
      have c75b0 := eq_true c75
      have c75b1 : decide (0 ≤ (ji74)) = true := decide_eq_true c75
      clear c75
      by_cases c76 : (ji74) ≤ (a0_3.size : Int)
      ·rw [if_pos c76] at H
       have c76b0 := eq_true c76
       have c76b1 : decide ((ji74) ≤ (a0_3.size : Int)) = true := decide_eq_true c76
       clear c76
       by_cases c77 : (a0_3.extract 0 ((ji74) : Int).toNat).size + t284.size ≤ 9223372036854775807
       ·rw [if_pos c77] at H
        have c77b0 := eq_true c77
        have c77b1 : decide ((a0_3.extract 0 ((ji74) : Int).toNat).size + t284.size ≤ 9223372036854775807) = true := decide_eq_true c77
        try have c77b2 : (9223372036854775807 < (a0_3.extract 0 ((ji74) : Int).toNat).size + t284.size) = False := eq_false (Nat.not_lt.2 c77)
        try have c77b4 : (9223372036854775807 < (ji74 : Int).toNat + t284.size) = False := eq_false (fun hh_ => absurd c77 (by rw [ByteArray.size_extract]; have hm_ := of_decide_eq_true c76b1; omega))
        simp only [Option.some.injEq, Prod.mk.injEq] at H
        obtain ⟨rfl, rfl, rfl, rfl, rfl, rfl, rfl⟩ := H
        go_enter Tryz.func14, Tryz.ntmps14
        try go_wp2_with (first | ((with_reducible refine gate_dst (N := 2) rfl ?_); refine xbe_ (N := 2) (cs := #[.string a0_0, .string a0_1, .int .i64 a0_2, .string a0_3, .string a0_4, .bool a0_5]) (t := 24) ?_; intro gb266 hg w78 hbox hb; have BK266 := Aside0.mk (hbox); have GW266 := xge_ HB hg; have GE266 := xge_ HB hg; replace HB := xws_ HB hb; clear hb hbox hg) | ((with_reducible refine gate_dst (N := 4) rfl ?_); refine xbe_ (N := 4) (cs := #[.string (⟨#[]⟩ : ByteArray), .string (⟨#[]⟩ : ByteArray), .int .i64 0, .string (⟨#[]⟩ : ByteArray), .string (⟨#[]⟩ : ByteArray), .bool false]) (t := 24) ?_; intro gb267 hg w79 hbox hb; have BK267 := Aside0.mk (hbox); have GW267 := xge_ HB hg; have GE267 := xge_ HB hg; replace HB := xws_ HB hb; have NB266_267 := xlt_ BK266 hg; have NB267_266 := xgt_ BK266 hg; replace BK266 := xbb_ BK266 hb; clear hb hbox hg) | ((with_reducible refine gate_callee (f := 30) rfl ?_); refine xgl_ (some 14) Tryz.func30 #[.string a1] ?_; (with_reducible refine (impl_ReadUrl.calls k a1 t268 t269 t270 t271 t272 t273 false _ A3.out (HTB_.out.below (by first | (with_reducible exact Below.refl _ _) | (repeat (first | (with_reducible first | exact HB.out | exact Below.refl _ _ | apply below_alloc | apply pw_below_drewN | apply below_drew1 | refine below_set ?_ GE266.out | refine below_set ?_ GE267.out | refine below_set ?_ GE275.out | refine below_set ?_ GE287.out) | exact HB.out)) | (repeat (first | exact Below.refl _ _ | apply below_alloc | apply pw_below_drewN | apply below_drew1 | refine below_set ?_ GE266.out | refine below_set ?_ GE267.out | refine below_set ?_ GE275.out | refine below_set ?_ GE287.out))))).mono ?_); rintro e w80 ⟨rfl, hb⟩; refine ⟨_, rfl, ?_⟩; replace BK266 := xbb_ BK266 hb; replace BK267 := xbb_ BK267 hb; replace HB := xws_ HB hb; (try clear hb); (try clear hb2); (try clear hk); (try clear hi)) | ((with_reducible refine gate_dst (N := 6) rfl ?_); refine xbe_ (N := 6) (cs := #[.string (⟨#[]⟩ : ByteArray), .string (⟨#[]⟩ : ByteArray), .int .i64 0, .string (⟨#[]⟩ : ByteArray), .string (⟨#[]⟩ : ByteArray), .bool false]) (t := 24) ?_; intro gb275 hg w81 hbox hb; have BK275 := Aside0.mk (hbox); have GW275 := xge_ HB hg; have GE275 := xge_ HB hg; replace HB := xws_ HB hb; have NB266_275 := xlt_ BK266 hg; have NB275_266 := xgt_ BK266 hg; replace BK266 := xbb_ BK266 hb; have NB267_275 := xlt_ BK267 hg; have NB275_267 := xgt_ BK267 hg; replace BK267 := xbb_ BK267 hb; clear hb hbox hg; have hnb82 := NB275_266.out; have hnc82 := NB266_275.out; have hnb83 := NB275_267.out; have hnc83 := NB267_275.out; have ⟨_, _, _, _, _, _, _, _, _, _, _, _⟩ := c6_ BK275) | ((with_reducible refine gate_callee (f := 22) rfl ?_); refine xgl_ (some 20) Tryz.func22 #[.string a1, .string (⟨#[47, 47]⟩ : ByteArray)] ?_; (with_reducible refine (has_prefix_in.calls a1 (⟨#[47, 47]⟩ : ByteArray) false _ A14.out).mono ?_); rintro e w85 ⟨rfl, hb⟩; refine ⟨_, rfl, ?_⟩; replace BK266 := Aside0.mk (blk_below (g := gb266) (o := .cells #[.string a0_0, .string a0_1, .int .i64 a0_2, .string a0_3, .string a0_4, .bool a0_5] 24 (0, 0)) (by (with_reducible repeat first | apply bN_ | apply bD_ | apply bA_ | refine blk_far ?_ NB266_275.out _); exact BK266.out) hb); replace BK267 := Aside0.mk (blk_below (g := gb267) (o := .cells #[.string (⟨#[]⟩ : ByteArray), .string (⟨#[]⟩ : ByteArray), .int .i64 0, .string (⟨#[]⟩ : ByteArray), .string (⟨#[]⟩ : ByteArray), .bool false] 24 (0, 0)) (by (with_reducible repeat first | apply bN_ | apply bD_ | apply bA_ | refine blk_far ?_ NB267_275.out _); exact BK267.out) hb); replace BK275 := Aside0.mk (blk_below (g := gb275) (o := .cells #[.string t268, .string t269, .int .i64 t270, .string t271, .string t272, .bool t273] 24 (0, 0)) (by (with_reducible repeat first | apply bN_ | apply bD_ | apply bA_); refine blk_put (cs := #[.string t268, .string t269, .int .i64 t270, .string t271, .string t272, .bool false]) ?_ 5 _ rfl; (with_reducible repeat first | apply bN_ | apply bD_ | apply bA_); refine blk_put (cs := #[.string t268, .string t269, .int .i64 t270, .string t271, .string (⟨#[]⟩ : ByteArray), .bool false]) ?_ 4 _ rfl; (with_reducible repeat first | apply bN_ | apply bD_ | apply bA_); refine blk_put (cs := #[.string t268, .string t269, .int .i64 t270, .string (⟨#[]⟩ : ByteArray), .string (⟨#[]⟩ : ByteArray), .bool false]) ?_ 3 _ rfl; (with_reducible repeat first | apply bN_ | apply bD_ | apply bA_); refine blk_put (cs := #[.string t268, .string t269, .int .i64 0, .string (⟨#[]⟩ : ByteArray), .string (⟨#[]⟩ : ByteArray), .bool false]) ?_ 2 _ rfl; (with_reducible repeat first | apply bN_ | apply bD_ | apply bA_); refine blk_put (cs := #[.string t268, .string (⟨#[]⟩ : ByteArray), .int .i64 0, .string (⟨#[]⟩ : ByteArray), .string (⟨#[]⟩ : ByteArray), .bool false]) ?_ 1 _ rfl; (with_reducible repeat first | apply bN_ | apply bD_ | apply bA_); refine blk_put (cs := #[.string (⟨#[]⟩ : ByteArray), .string (⟨#[]⟩ : ByteArray), .int .i64 0, .string (⟨#[]⟩ : ByteArray), .string (⟨#[]⟩ : ByteArray), .bool false]) ?_ 0 _ rfl; (with_reducible repeat first | apply bN_ | apply bD_ | apply bA_); exact BK275.out) hb); replace HB := xws_ HB hb; (try clear hb); (try clear hb2); (try clear hk); (try clear hi)) | ((with_reducible refine gate_callee (f := 31) rfl ?_); refine xgl_ (some 31) Tryz.func31 #[.string a1, .string (⟨#[63]⟩ : ByteArray)] ?_; (with_reducible refine (strings_Cut.calls a1 (⟨#[63]⟩ : ByteArray) t284 t285 t286 _ A31.out (HTB_.out.below (by first | (with_reducible exact Below.refl _ _) | (repeat (first | (with_reducible first | exact HB.out | exact Below.refl _ _ | apply below_alloc | apply pw_below_drewN | apply below_drew1 | refine below_set ?_ GE266.out | refine below_set ?_ GE267.out | refine below_set ?_ GE275.out | refine below_set ?_ GE287.out) | exact HB.out)) | (repeat (first | exact Below.refl _ _ | apply below_alloc | apply pw_below_drewN | apply below_drew1 | refine below_set ?_ GE266.out | refine below_set ?_ GE267.out | refine below_set ?_ GE275.out | refine below_set ?_ GE287.out))))).mono ?_); rintro e w86 ⟨rfl, hb⟩; refine ⟨_, rfl, ?_⟩; replace BK266 := xbb_ BK266 hb; replace BK267 := xbb_ BK267 hb; replace BK275 := xbb_ BK275 hb; replace HB := xws_ HB hb; (try clear hb); (try clear hb2); (try clear hk); (try clear hi); have hnb87 := NB266_267.out; have hnc87 := NB267_266.out; have ⟨_, _, _, _, _, _, _, _, _, _, _, _⟩ := c6_ BK266) | ((with_reducible refine gate_dst (N := 11) rfl ?_); refine xbe_ (N := 11) (cs := #[.string (⟨#[]⟩ : ByteArray), .string (⟨#[]⟩ : ByteArray), .int .i64 0, .string (⟨#[]⟩ : ByteArray), .string (⟨#[]⟩ : ByteArray), .bool false]) (t := 24) ?_; intro gb287 hg w89 hbox hb; have BK287 := Aside0.mk (hbox); have GW287 := xge_ HB hg; have GE287 := xge_ HB hg; replace HB := xws_ HB hb; have NB266_287 := xlt_ BK266 hg; have NB287_266 := xgt_ BK266 hg; replace BK266 := xbb_ BK266 hb; have NB267_287 := xlt_ BK267 hg; have NB287_267 := xgt_ BK267 hg; replace BK267 := xbb_ BK267 hb; have NB275_287 := xlt_ BK275 hg; have NB287_275 := xgt_ BK275 hg; replace BK275 := xbb_ BK275 hb; clear hb hbox hg; have hnb90 := NB287_266.out; have hnc90 := NB266_287.out; have hnb91 := NB287_267.out; have hnc91 := NB267_287.out; have hnb92 := NB287_275.out; have hnc92 := NB275_287.out; have ⟨_, _, _, _, _, _, _, _, _, _, _, _⟩ := c6_ BK287) | ((with_reducible refine gate_callee (f := 22) rfl ?_); refine xgl_ (some 42) Tryz.func22 #[.string t284, .string (⟨#[47]⟩ : ByteArray)] ?_; (with_reducible refine (has_prefix_in.calls t284 (⟨#[47]⟩ : ByteArray) false _ A32.out).mono ?_); rintro e w94 ⟨rfl, hb⟩; refine ⟨_, rfl, ?_⟩; replace BK266 := Aside0.mk (blk_below (g := gb266) (o := .cells #[.string a0_0, .string a0_1, .int .i64 a0_2, .string a0_3, .string a0_4, .bool a0_5] 24 (0, 0)) (by (with_reducible repeat first | apply bN_ | apply bD_ | apply bA_ | refine blk_far ?_ NB266_287.out _); exact BK266.out) hb); replace BK267 := Aside0.mk (blk_below (g := gb267) (o := .cells #[.string (⟨#[]⟩ : ByteArray), .string (⟨#[]⟩ : ByteArray), .int .i64 0, .string (⟨#[]⟩ : ByteArray), .string (⟨#[]⟩ : ByteArray), .bool false] 24 (0, 0)) (by (with_reducible repeat first | apply bN_ | apply bD_ | apply bA_ | refine blk_far ?_ NB267_287.out _); exact BK267.out) hb); replace BK275 := Aside0.mk (blk_below (g := gb275) (o := .cells #[.string t268, .string t269, .int .i64 t270, .string t271, .string t272, .bool t273] 24 (0, 0)) (by (with_reducible repeat first | apply bN_ | apply bD_ | apply bA_ | refine blk_far ?_ NB275_287.out _); exact BK275.out) hb); replace BK287 := Aside0.mk (blk_below (g := gb287) (o := .cells #[.string a0_0, .string a0_1, .int .i64 a0_2, .string a0_3, .string t285, .bool t286] 24 (0, 0)) (by (with_reducible repeat first | apply bN_ | apply bD_ | apply bA_); refine blk_put (cs := #[.string a0_0, .string a0_1, .int .i64 a0_2, .string a0_3, .string t285, .bool a0_5]) ?_ 5 _ rfl; (with_reducible repeat first | apply bN_ | apply bD_ | apply bA_); refine blk_put (cs := #[.string a0_0, .string a0_1, .int .i64 a0_2, .string a0_3, .string a0_4, .bool a0_5]) ?_ 4 _ rfl; (with_reducible repeat first | apply bN_ | apply bD_ | apply bA_); refine blk_put (cs := #[.string a0_0, .string a0_1, .int .i64 a0_2, .string a0_3, .string a0_4, .bool false]) ?_ 5 _ rfl; (with_reducible repeat first | apply bN_ | apply bD_ | apply bA_); refine blk_put (cs := #[.string a0_0, .string a0_1, .int .i64 a0_2, .string a0_3, .string (⟨#[]⟩ : ByteArray), .bool false]) ?_ 4 _ rfl; (with_reducible repeat first | apply bN_ | apply bD_ | apply bA_); refine blk_put (cs := #[.string a0_0, .string a0_1, .int .i64 a0_2, .string (⟨#[]⟩ : ByteArray), .string (⟨#[]⟩ : ByteArray), .bool false]) ?_ 3 _ rfl; (with_reducible repeat first | apply bN_ | apply bD_ | apply bA_); refine blk_put (cs := #[.string a0_0, .string a0_1, .int .i64 0, .string (⟨#[]⟩ : ByteArray), .string (⟨#[]⟩ : ByteArray), .bool false]) ?_ 2 _ rfl; (with_reducible repeat first | apply bN_ | apply bD_ | apply bA_); refine blk_put (cs := #[.string a0_0, .string (⟨#[]⟩ : ByteArray), .int .i64 0, .string (⟨#[]⟩ : ByteArray), .string (⟨#[]⟩ : ByteArray), .bool false]) ?_ 1 _ rfl; (with_reducible repeat first | apply bN_ | apply bD_ | apply bA_); refine blk_put (cs := #[.string (⟨#[]⟩ : ByteArray), .string (⟨#[]⟩ : ByteArray), .int .i64 0, .string (⟨#[]⟩ : ByteArray), .string (⟨#[]⟩ : ByteArray), .bool false]) ?_ 0 _ rfl; (with_reducible repeat first | apply bN_ | apply bD_ | apply bA_); exact BK287.out) hb); replace HB := xws_ HB hb; (try clear hb); (try clear hb2); (try clear hk); (try clear hi)))
        replace BK266 := Aside0.mk (blk_drew BK266.out)
        replace BK267 := Aside0.mk (blk_drew BK267.out)
        replace BK275 := Aside0.mk (blk_drew BK275.out)
        replace BK287 := Aside0.mk (blk_drew BK287.out)
        replace HB := Aside0.mk (below_drew1 HB.out)
        refine start_ (n := 11) (S := fun w' => w'.cell? ⟨gb266, 0, none⟩ = some (.string a0_0) ∧ w'.cell? ⟨gb266, 1, none⟩ = some (.string a0_1) ∧ w'.cell? ⟨gb266, 2, none⟩ = some (.int .i64 a0_2) ∧ w'.cell? ⟨gb266, 3, none⟩ = some (.string a0_3) ∧ w'.cell? ⟨gb266, 4, none⟩ = some (.string a0_4) ∧ w'.cell? ⟨gb266, 5, none⟩ = some (.bool a0_5)) (ds := []) #[false, false, false, false, false, false, false, false, false, false, false] (by kernel_rfl) rfl rfl ⟨xk_ BK266 0, xk_ BK266 1, xk_ BK266 2, xk_ BK266 3, xk_ BK266 4, xk_ BK266 5⟩ (fun hHeld => ?_); refine with_tabW impl_resolved.tab12 impl_resolved.bits12 (fun HT_ HW_ => ?_)
        generalize w94.drew = w95 at BK266 BK267 BK275 BK287 HB hHeld ⊢
        refine pure_ (i := 0) (N := some 48) (v := ?_) (a' := ?_) #[true, false, false, false, false, false, false, false, false, false, false] rfl rfl (any_of HT_.out (by kernel_rfl)) (fun _ _ _ h => h) (Or.inl ⟨by rfl, ?_⟩) ?_ ?_
        rotate_left
        ·intro w'
         go_simp
         with_reducible rfl
        rotate_left
        ·simp only [Act.put, List.setIfInBounds_toArray, List.set_cons_zero, List.set_cons_succ, i64_w, i32_w]
         rfl
        refine pure_ (i := 2) (N := some 50) (v := ?_) (a' := ?_) #[true, false, true, false, false, false, false, false, false, false, false] rfl rfl (any_of HT_.out (by kernel_rfl)) (fun _ _ _ h => h) (Or.inl ⟨by rfl, ?_⟩) ?_ ?_
        rotate_left
        ·intro w'
         go_simp
         with_reducible rfl
        rotate_left
        ·simp only [Act.put, List.setIfInBounds_toArray, List.set_cons_zero, List.set_cons_succ, i64_w, i32_w]
         rfl
        refine pure_ (i := 7) (N := some 55) (v := ?_) (a' := ?_) #[true, false, true, false, false, false, false, true, false, false, false] rfl rfl (any_of HT_.out (by kernel_rfl)) (fun _ _ _ h => h) (Or.inl ⟨by rfl, ?_⟩) ?_ ?_
        rotate_left
        ·intro w'
         go_simp
         with_reducible rfl
        rotate_left
        ·simp only [Act.put, List.setIfInBounds_toArray, List.set_cons_zero, List.set_cons_succ, i64_w, i32_w]
         rfl
        refine take_ (i := 1) (N := some 49) (v := ?_) (a' := ?_) #[true, true, true, false, false, false, false, true, false, false, false] rfl rfl (take_ofW HT_.out HW_.out (by kernel_rfl)) (fun _ _ _ h => h) (Or.inl ⟨by rfl, ?_⟩) hHeld ?_ ?_
        rotate_left
        ·rintro w' ⟨s0, s1, s2, s3, s4, s5⟩
         go_simp
         with_reducible rfl
        rotate_left
        ·simp only [Act.put, List.setIfInBounds_toArray, List.set_cons_zero, List.set_cons_succ, i64_w, i32_w]
         rfl
        refine take_ (i := 3) (N := some 51) (v := ?_) (a' := ?_) #[true, true, true, true, false, false, false, true, false, false, false] rfl rfl (take_ofW HT_.out HW_.out (by kernel_rfl)) (fun _ _ _ h => h) (Or.inl ⟨by rfl, ?_⟩) hHeld ?_ ?_
        rotate_left
        ·rintro w' ⟨s0, s1, s2, s3, s4, s5⟩
         go_simp
         with_reducible rfl
        rotate_left
        ·simp only [Act.put, List.setIfInBounds_toArray, List.set_cons_zero, List.set_cons_succ, i64_w, i32_w]
         rfl
        refine one_ (i := 4) (N := some 52) #[true, true, true, true, true, false, false, true, false, false, false] rfl rfl (one_of HT_.out (by kernel_rfl)) (by decide) (fun K hK => ?_)
        refine xgo_ Tryz.func32 #[.string a0_3, .int .u8 47] ?_
        with_reducible refine (strings_LastIndexByte.calls k a0_3 47 t289 _ A73.out).mono ?_
        rintro e w' ⟨rfl, ⟨nd, rfl⟩⟩
        refine ⟨_, rfl, ?_⟩
        refine hK.out _ _ ⟨xk_ BK266 0, xk_ BK266 1, xk_ BK266 2, xk_ BK266 3, xk_ BK266 4, xk_ BK266 5⟩ (fun hHeld => ?_)
        clear hK K
        refine norm_ (a' := ?_) ?_ ?_
        rotate_left
        ·show Act.put _ (some 52) _ = _
         simp only [Act.put, List.setIfInBounds_toArray, List.set_cons_zero, List.set_cons_succ, i64_w, i32_w]
         rfl
        refine pure_ (i := 5) (N := some 53) (v := ?_) (a' := ?_) #[true, true, true, true, true, true, false, true, false, false, false] rfl rfl (any_of HT_.out (by kernel_rfl)) (fun _ _ _ h => h) (Or.inl ⟨by rfl, ?_⟩) ?_ ?_
        rotate_left
        ·intro w'
         go_simp
         with_reducible rfl
        rotate_left
        ·simp only [Act.put, List.setIfInBounds_toArray, List.set_cons_zero, List.set_cons_succ, i64_w, i32_w]
         rfl
        refine pure_ (i := 6) (N := some 54) (v := ?_) (a' := ?_) #[true, true, true, true, true, true, true, true, false, false, false] rfl rfl (any_of HT_.out (by kernel_rfl)) (fun _ _ _ h => h) (Or.inl ⟨by rfl, ?_⟩) ?_ ?_
        rotate_left
        ·intro w'
         go_simp
         with_reducible rfl
        rotate_left
        ·simp only [Act.put, List.setIfInBounds_toArray, List.set_cons_zero, List.set_cons_succ, i64_w, i32_w]
         rfl
        refine pure_ (i := 8) (N := some 56) (v := ?_) (a' := ?_) #[true, true, true, true, true, true, true, true, true, false, false] rfl rfl (any_of HT_.out (by kernel_rfl)) (fun _ _ _ h => h) (Or.inl ⟨by rfl, ?_⟩) ?_ ?_
        rotate_left
        ·intro w'
         go_simp
         with_reducible rfl
        rotate_left
        ·simp only [Act.put, List.setIfInBounds_toArray, List.set_cons_zero, List.set_cons_succ, i64_w, i32_w]
         rfl
        refine pure_ (i := 9) (N := some 57) (v := ?_) (a' := ?_) #[true, true, true, true, true, true, true, true, true, true, false] rfl rfl (any_of HT_.out (by kernel_rfl)) (fun _ _ _ h => h) (Or.inl ⟨by rfl, ?_⟩) ?_ ?_
        rotate_left
        ·intro w'
         go_simp
         with_reducible rfl
        rotate_left
        ·simp only [Act.put, List.setIfInBounds_toArray, List.set_cons_zero, List.set_cons_succ, i64_w, i32_w]
         rfl
        refine one_ (i := 10) (N := none) #[true, true, true, true, true, true, true, true, true, true, true] rfl rfl (one_of HT_.out (by kernel_rfl)) (by decide) (fun K hK => ?_)
        have hs96 : w95.cell? ⟨gb287, 3, none⟩ = some (.string a0_3) := xk_ BK287 3
        have hfs96 := blk_frozen BK287.out 3
        have hns96_0 := NB266_287.out
        have hns96_1 := NB267_287.out
        have hns96_2 := NB275_287.out
        have hms96_0 := NB287_266.out
        have hms96_1 := NB287_267.out
        have hms96_2 := NB287_275.out
        refine skip_ (w1 := ?_) (by rfl) rfl ?_ ?_
        rotate_left
        ·go_simp
         rfl
        refine hK.out _ _ ⟨((cell_far (p := ⟨gb287, _, none⟩) NB266_287.out _).trans (hHeld.1)), ((cell_far (p := ⟨gb287, _, none⟩) NB266_287.out _).trans (hHeld.2.1)), ((cell_far (p := ⟨gb287, _, none⟩) NB266_287.out _).trans (hHeld.2.2.1)), ((cell_far (p := ⟨gb287, _, none⟩) NB266_287.out _).trans (hHeld.2.2.2.1)), ((cell_far (p := ⟨gb287, _, none⟩) NB266_287.out _).trans (hHeld.2.2.2.2.1)), ((cell_far (p := ⟨gb287, _, none⟩) NB266_287.out _).trans (hHeld.2.2.2.2.2))⟩ (fun hHeld => ?_)
        clear hK K
        refine done_ (done_of HT_.out (by kernel_rfl)) ?_
        have ⟨_, _, _, _, _, _, _, _, _, _, _, _⟩ := c6_ BK287
        have ⟨_, _, _, _, _, _, _, _, _, _, _, _⟩ := c6_ BK267
        try go_wp2
        refine bodyPost_ret (results_ct rfl _ _ gb267 24 #[.string a0_0, .string a0_1, .int .i64 a0_2, .string ((a0_3.extract 0 ((ji74) : Int).toNat) ++ t284), .string t285, .bool t286] (0, 0) _ rfl (by (with_reducible repeat first | apply bN_ | apply bD_ | apply bA_); refine blk_put (cs := #[.string a0_0, .string a0_1, .int .i64 a0_2, .string ((a0_3.extract 0 ((ji74) : Int).toNat) ++ t284), .string t285, .bool false]) ?_ 5 _ rfl; (with_reducible repeat first | apply bN_ | apply bD_ | apply bA_); refine blk_put (cs := #[.string a0_0, .string a0_1, .int .i64 a0_2, .string ((a0_3.extract 0 ((ji74) : Int).toNat) ++ t284), .string (⟨#[]⟩ : ByteArray), .bool false]) ?_ 4 _ rfl; (with_reducible repeat first | apply bN_ | apply bD_ | apply bA_); refine blk_put (cs := #[.string a0_0, .string a0_1, .int .i64 a0_2, .string (⟨#[]⟩ : ByteArray), .string (⟨#[]⟩ : ByteArray), .bool false]) ?_ 3 _ rfl; (with_reducible repeat first | apply bN_ | apply bD_ | apply bA_); refine blk_put (cs := #[.string a0_0, .string a0_1, .int .i64 0, .string (⟨#[]⟩ : ByteArray), .string (⟨#[]⟩ : ByteArray), .bool false]) ?_ 2 _ rfl; (with_reducible repeat first | apply bN_ | apply bD_ | apply bA_); refine blk_put (cs := #[.string a0_0, .string (⟨#[]⟩ : ByteArray), .int .i64 0, .string (⟨#[]⟩ : ByteArray), .string (⟨#[]⟩ : ByteArray), .bool false]) ?_ 1 _ rfl; (with_reducible repeat first | apply bN_ | apply bD_ | apply bA_); refine blk_put (cs := #[.string (⟨#[]⟩ : ByteArray), .string (⟨#[]⟩ : ByteArray), .int .i64 0, .string (⟨#[]⟩ : ByteArray), .string (⟨#[]⟩ : ByteArray), .bool false]) ?_ 0 _ rfl; (with_reducible repeat first | apply bN_ | apply bD_ | apply bA_ | refine blk_far ?_ NB267_287.out _); exact BK267.out) Tryz.underlying24 rfl (by kernel_rfl)) rfl ?_
        exact ⟨by first | rfl | (simp [errW_none, errW_some] <;> rfl) | (simp only [← hji74]; first | rfl | (simp [errW_none, errW_some] <;> rfl)) | (simp [*, errW_none, errW_some] <;> rfl), xw_ HB⟩
       ·rw [if_neg c77] at H
        exact absurd H (by simp)
      ·rw [if_neg c76] at H
       exact absurd H (by simp)
     ·rw [if_neg c75] at H
      exact absurd H (by simp)

/-! ### strings_Split: function 33 -/
def strings_Split.f (a0 : ByteArray) (a1 : ByteArray) : Option (List ByteArray) := if a0.size < 1000000000 then (if 1 ≤ a1.size then some (Lib.splitB a1 0 (Lib.countB a0 a1) a0) else none) else none
theorem strings_Split.calls (a0 : ByteArray) (a1 : ByteArray) (r : List ByteArray) (w : World) (h : strings_Split.f a0 a1 = some r) (hT : TabOk w) :
    Calls Tryz.prog 33 #[.string a0, .string a1] w fun e w' => ∃ v0_ : Value, e = .returned (v0_) ∧ Kd.R Kd.string 9 w' w.heap.size (fun _ => True) v0_ r ∧ Below w.heap.size w w' := by
  unfold strings_Split.f at h
  by_cases c : a0.size < 1000000000
  · rw [if_pos c] at h
    by_cases c2 : 1 ≤ a1.size
    · rw [if_pos c2] at h
      obtain rfl := Option.some.inj h
      obtain ⟨m, hm⟩ := hT.1
      refine (Tryz.strings_Split a0 a1 m w (by omega) hm c2).mono fun e w' hq => ⟨_, hq.1, ?_, by rw [hq.2]; exact below_alloc (Below.refl _ _) _⟩
      have hl := Lib.splitB_all a1 c2 0 _ a0 rfl
      have hle := Lib.countB_le a1 c2 _ a0 (Nat.le_refl _)
      rw [hq.2, ← hl]
      refine Kd.R_of_own ?_ (fun _ _ => trivial)
      refine ⟨by simp [encs], Or.inr ⟨w.heap.size, (Lib.splitB a1 0 (Lib.countB a0 a1) a0).length, ((Lib.splitB a1 0 (Lib.countB a0 a1) a0).map Value.string).toArray, rfl, Nat.le_refl _, ?_, Nat.le_refl _, ?_, ?_, ?_⟩⟩
      · show (w.heap.push _)[w.heap.size]? = _
        rw [Array.getElem?_push_size]
      · rw [hl]; unfold maxLen; omega
      · simp
      · simp only [encs, Nat.mul_one]
        exact List.take_of_length_le (by simp)
    · rw [if_neg c2] at h; cases h
  · rw [if_neg c] at h; cases h

/-! ### strings_Join: function 34 -/
def strings_Join.f (l0 : List ByteArray) (a1 : ByteArray) : Option (ByteArray) := if l0.length < 1000000 then (if (Lib.join (l0.map (·.data.toList)) a1.data.toList).length < 1000000000 then some ⟨(Lib.join (l0.map (·.data.toList)) a1.data.toList).toArray⟩ else none) else none
theorem strings_Join.calls (A0 : Option Addr) (c0 : Nat) (l0 : List ByteArray) (a1 : ByteArray) (r : ByteArray) (w : World) (hr0 : Kd.C Kd.string w A0 l0.length l0) (hc0 : l0.length ≤ c0) (h : strings_Join.f l0 a1 = some r) :
    Calls Tryz.prog 34 #[.slice A0 l0.length c0, .string a1] w fun e w' => e = .returned (.string r) ∧ Below w.heap.size w w' := by
  unfold strings_Join.f at h
  by_cases c : l0.length < 1000000
  · rw [if_pos c] at h
    by_cases c2 : (Lib.join (l0.map (·.data.toList)) a1.data.toList).length < 1000000000
    · rw [if_pos c2] at h
      obtain rfl := Option.some.inj h
      cases l0 with
      | nil => exact (Tryz.strings_Join_none A0 c0 a1 w).mono fun e w' hq => ⟨hq.1, by rw [hq.2]; exact Below.refl _ _⟩
      | cons x0 xs =>
        obtain ⟨ad, rfl, h0⟩ := Kd.at_string hr0 0 (by omega) (by simp)
        have h0' : w.cell? ad = some (.string (rdOf ByteArray.empty (x0 :: xs) 0)) := by
          have : ad.add (0 : Int).toNat = ad := by simp [Addr.add]
          rw [this] at h0; exact h0
        obtain ⟨bk, o, sp⟩ := ad
        have hsp : sp = none := by
          cases sp with
          | none => rfl
          | some q =>
            unfold World.cell? at h0'
            simp at h0'
            split at h0' <;> cases h0'
        subst hsp
        have hbk : bk < w.heap.size := World.block_lt_of_cell? w _ h0'
        refine Tryz.strings_Join bk o c0 (x0 :: xs) a1 w ?_ hbk (by omega) hc0 (by omega)
        intro j x hx
        have hj : j < (x0 :: xs).length := (List.getElem?_eq_some_iff.mp hx).1
        obtain ⟨ad2, e2, h2⟩ := Kd.at_string hr0 (j : Int) (by omega) (by omega)
        cases e2
        have hv : rdOf ByteArray.empty (x0 :: xs) (j : Int) = x := by
          unfold rdOf
          rw [List.getD_eq_getElem?_getD, Int.toNat_natCast, hx]; rfl
        rw [hv, Int.toNat_natCast] at h2
        have ha : (⟨bk, o, none⟩ : Addr).add j = ⟨bk, o + j, none⟩ := by
          unfold Addr.add
          split
          · rename_i hz; subst hz; rfl
          · rfl
        rw [ha] at h2
        exact h2
    · rw [if_neg c2] at h; cases h
  · rw [if_neg c] at h; cases h

end Go.Proofs.YtklicdjbihmbiaaGreatDoor.PFnResolved
