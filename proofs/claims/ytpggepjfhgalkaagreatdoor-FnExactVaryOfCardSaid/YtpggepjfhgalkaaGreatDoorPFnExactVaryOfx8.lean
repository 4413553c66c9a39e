-- Written by a program of this project (xprint.py) out of the translation; Lean checks it.
import Derived.Test.YtpggepjfhgalkaaGreatDoorPFnExactVaryOfx0
namespace Go.Proofs.YtpggepjfhgalkaaGreatDoor.PFnExactVaryOf
open Go.RowKit Go.Proofs.YtpggepjfhgalkaaGreatDoorW.PrintWords Go.Proofs.YtpggepjfhgalkaaGreatDoorW.PrintLast Go.Proofs.YtpggepjfhgalkaaGreatDoorW.PrintMore
attribute [local go_sem] max2_int min2_int max_two min_two max_three min_three max_four min_four   -- for this text's walks alone
set_option linter.unusedVariables false
set_option linter.unusedSimpArgs false

/-! ### impl_within: function 119 -/
def impl_within.f (a0 : Int) (a1 : Int) (a2 : Int) : Option (Bool) := if a1 ≤ a0 then (some (decide (a0 ≤ a2))) else (some false)
set_option maxHeartbeats 8000000 in
set_option maxRecDepth 100000 in
theorem impl_within.calls (a0 : Int) (a1 : Int) (a2 : Int) (r : Bool) (w : World) (h : impl_within.f a0 a1 a2 = some r) :
  Calls Tryz.prog 119 #[.int .i64 a0, .int .i64 a1, .int .i64 a2] w fun e w' => e = .returned (.bool r) ∧ Drawn0 w w' := by
 have H : (if a1 ≤ a0 then (some (decide (a0 ≤ a2))) else (some false)) = some r := h
 clear h
 by_cases c4 : a1 ≤ a0
 ·rw [if_pos c4] at H
  have c4b0 : decide (a1 ≤ a0) = true := decide_eq_true c4
  clear c4
  obtain rfl := Option.some.inj H
  go_enter Tryz.func119, Tryz.ntmps119
  go_wp2
  go_ret
  exact ⟨by first | rfl | (simp; done) | (simp [*]; done), by repeat (first | exact Drawn0.refl _ | apply Drawn0.step)⟩
 ·rw [if_neg c4] at H
  have c4b0 : decide (a1 ≤ a0) = false := decide_eq_false c4
  clear c4
  obtain rfl := Option.some.inj H
  go_enter Tryz.func119, Tryz.ntmps119
  go_wp2
  go_ret
  exact ⟨by first | rfl | (simp; done) | (simp [*]; done), by repeat (first | exact Drawn0.refl _ | apply Drawn0.step)⟩

/-! ### impl_isLetter: function 159 -/
def impl_isLetter.f (a0 : Int) : Option (Bool) := if (Go.bits .or .u8 a0 32) ≥ 97 then (some (decide ((Go.bits .or .u8 a0 32) ≤ 122))) else (some false)
set_option maxHeartbeats 8000000 in
set_option maxRecDepth 100000 in
theorem impl_isLetter.calls (a0 : Int) (r : Bool) (w : World) (h : impl_isLetter.f a0 = some r) :
  Calls Tryz.prog 159 #[.int .u8 a0] w fun e w' => e = .returned (.bool r) ∧ Drawn0 w w' := by
 have H : (if (Go.bits .or .u8 a0 32) ≥ 97 then (some (decide ((Go.bits .or .u8 a0 32) ≤ 122))) else (some false)) = some r := h
 clear h
 by_cases c2 : (Go.bits .or .u8 a0 32) ≥ 97
 ·rw [if_pos c2] at H
  have c2b0 : decide (97 ≤ (Go.bits .or .u8 a0 32)) = true := decide_eq_true c2
  clear c2
  obtain rfl := Option.some.inj H
  go_enter Tryz.func159, Tryz.ntmps159
  go_wp2
  go_ret
  exact ⟨by first | rfl | (simp; done) | (simp [*]; done), by repeat (first | exact Drawn0.refl _ | apply Drawn0.step)⟩
 ·rw [if_neg c2] at H
  have c2b0 : decide (97 ≤ (Go.bits .or .u8 a0 32)) = false := decide_eq_false c2
  clear c2
  obtain rfl := Option.some.inj H
  go_enter Tryz.func159, Tryz.ntmps159
  go_wp2
  go_ret
  exact ⟨by first | rfl | (simp; done) | (simp [*]; done), by repeat (first | exact Drawn0.refl _ | apply Drawn0.step)⟩

/-! ### impl_isDigit: function 160 -/
def impl_isDigit.f (a0 : Int) : Option (Bool) := if a0 ≥ 48 then (some (decide (a0 ≤ 57))) else (some false)
set_option maxHeartbeats 8000000 in
set_option maxRecDepth 100000 in
theorem impl_isDigit.calls (a0 : Int) (r : Bool) (w : World) (h : impl_isDigit.f a0 = some r) :
  Calls Tryz.prog 160 #[.int .u8 a0] w fun e w' => e = .returned (.bool r) ∧ Drawn0 w w' := by
 have H : (if a0 ≥ 48 then (some (decide (a0 ≤ 57))) else (some false)) = some r := h
 clear h
 by_cases c2 : a0 ≥ 48
 ·rw [if_pos c2] at H
  have c2b0 : decide (48 ≤ a0) = true := decide_eq_true c2
  clear c2
  obtain rfl := Option.some.inj H
  go_enter Tryz.func160, Tryz.ntmps160
  go_wp2
  go_ret
  exact ⟨by first | rfl | (simp; done) | (simp [*]; done), by repeat (first | exact Drawn0.refl _ | apply Drawn0.step)⟩
 ·rw [if_neg c2] at H
  have c2b0 : decide (48 ≤ a0) = false := decide_eq_false c2
  clear c2
  obtain rfl := Option.some.inj H
  go_enter Tryz.func160, Tryz.ntmps160
  go_wp2
  go_ret
  exact ⟨by first | rfl | (simp; done) | (simp [*]; done), by repeat (first | exact Drawn0.refl _ | apply Drawn0.step)⟩

/-! ### strings_IndexByte: function 161 -/
def strings_IndexByte.f (a0 : ByteArray) (a1 : Int) : Option (Int) := some (Lib.indexByte a0.data.toList a1.toNat.toUInt8)
theorem strings_IndexByte.calls (a0 : ByteArray) (a1 : Int) (r : Int) (w : World) (h : strings_IndexByte.f a0 a1 = some r) :
    Calls Tryz.prog 161 #[.string a0, .int .u8 a1] w fun e w' => e = .returned (.int .i64 r) ∧ Drawn0 w w' := by
  unfold strings_IndexByte.f at h
  obtain rfl := Option.some.inj h
  exact (Tryz.strings_IndexByte a0 a1 w).mono fun e w' hq => ⟨hq.1, by rw [hq.2]; exact Drawn0.refl _⟩

/-! ### impl_isAmong: function 122 -/
def impl_isAmong.f (a0 : Int) (a1 : ByteArray) : Option (Bool) := (impl_isLetter.f a0).bind fun t240 => (if t240 = true then (some true) else ((impl_isDigit.f a0).bind fun t241 => (if t241 = true then (some true) else ((strings_IndexByte.f a1 a0).bind fun t242 => (some (decide (t242 ≥ 0)))))))
set_option maxHeartbeats 8000000 in
set_option maxRecDepth 100000 in
theorem impl_isAmong.calls (a0 : Int) (a1 : ByteArray) (r : Bool) (w : World) (h : impl_isAmong.f a0 a1 = some r) :
  Calls Tryz.prog 122 #[.int .u8 a0, .string a1] w fun e w' => e = .returned (.bool r) ∧ Drawn0 w w' := by
 have H : ((impl_isLetter.f a0).bind fun t240 => (if t240 = true then (some true) else ((impl_isDigit.f a0).bind fun t241 => (if t241 = true then (some true) else ((strings_IndexByte.f a1 a0).bind fun t242 => (some (decide (t242 ≥ 0)))))))) = some r := h
 clear h
 replace H := Option.bind_eq_some_iff.mp H
 obtain ⟨t240, A30, H⟩ := H
 replace H : (if t240 = true then (some true) else ((impl_isDigit.f a0).bind fun t241 => (if t241 = true then (some true) else ((strings_IndexByte.f a1 a0).bind fun t242 => (some (decide (t242 ≥ 0))))))) = some r := H
 have A3 := Aside0.mk A30
 clear A30
 by_cases c4 : t240 = true
 ·subst c4
  have H1 : (some true) = some r := by rw [if_pos rfl] at H; exact H
  clear H
  have H := H1
  clear H1
  obtain rfl := Option.some.inj H
  go_enter Tryz.func122, Tryz.ntmps122
  go_wp2_with (first | ((with_reducible refine gate_callee (f := 159) rfl ?_); refine xgl_ (some 6) Tryz.func159 #[.int .u8 a0] ?_; (with_reducible refine (impl_isLetter.calls a0 true _ A3.out).mono ?_); rintro e w' ⟨rfl, ⟨nd, rfl⟩⟩; refine ⟨_, rfl, ?_⟩))
  go_ret
  exact ⟨by first | rfl | (simp; done) | (simp [*]; done), by repeat (first | exact Drawn0.refl _ | apply Drawn0.step)⟩
 ·replace c4 := Bool.eq_false_iff.mpr c4
  subst c4
  have H1 : ((impl_isDigit.f a0).bind fun t241 => (if t241 = true then (some true) else ((strings_IndexByte.f a1 a0).bind fun t242 => (some (decide (t242 ≥ 0)))))) = some r := by rw [if_neg (show ¬ (false = true) by decide)] at H; exact H
  clear H
  have H := H1
  clear H1
  replace H := Option.bind_eq_some_iff.mp H
  obtain ⟨t241, A50, H⟩ := H
  replace H : (if t241 = true then (some true) else ((strings_IndexByte.f a1 a0).bind fun t242 => (some (decide (t242 ≥ 0))))) = some r := H
  have A5 := Aside0.mk A50
  clear A50
  by_cases c6 : t241 = true
  ·subst c6
   have H1 : (some true) = some r := by rw [if_pos rfl] at H; exact H
   clear H
   have H := H1
   clear H1
   obtain rfl := Option.some.inj H
   go_enter Tryz.func122, Tryz.ntmps122
   go_wp2_with (first | ((with_reducible refine gate_callee (f := 159) rfl ?_); refine xgl_ (some 6) Tryz.func159 #[.int .u8 a0] ?_; (with_reducible refine (impl_isLetter.calls a0 false _ A3.out).mono ?_); rintro e w' ⟨rfl, ⟨nd, rfl⟩⟩; refine ⟨_, rfl, ?_⟩) | (go_at_call 160; (with_reducible refine (impl_isDigit.calls a0 true _ A5.out).mono ?_); rintro e w' ⟨rfl, ⟨nd, rfl⟩⟩))
   go_ret
   exact ⟨by first | rfl | (simp; done) | (simp [*]; done), by repeat (first | exact Drawn0.refl _ | apply Drawn0.step)⟩
  ·replace c6 := Bool.eq_false_iff.mpr c6
   subst c6
   have H1 : ((strings_IndexByte.f a1 a0).bind fun t242 => (some (decide (t242 ≥ 0)))) = some r := by rw [if_neg (show ¬ (false = true) by decide)] at H; exact H
   clear H
   have H := H1
   clear H1
   replace H := Option.bind_eq_some_iff.mp H
   obtain ⟨t242, A70, H⟩ := H
   replace H : (some (decide (t242 ≥ 0))) = some r := H
   have A7 := Aside0.mk A70
   clear A70
   obtain rfl := Option.some.inj H
   go_enter Tryz.func122, Tryz.ntmps122
   go_wp2_with (first | ((with_reducible refine gate_callee (f := 159) rfl ?_); refine xgl_ (some 6) Tryz.func159 #[.int .u8 a0] ?_; (with_reducible refine (impl_isLetter.calls a0 false _ A3.out).mono ?_); rintro e w' ⟨rfl, ⟨nd, rfl⟩⟩; refine ⟨_, rfl, ?_⟩) | (go_at_call 160; (with_reducible refine (impl_isDigit.calls a0 false _ A5.out).mono ?_); rintro e w' ⟨rfl, ⟨nd, rfl⟩⟩) | (go_at_call 161; (with_reducible refine (strings_IndexByte.calls a1 a0 t242 _ A7.out).mono ?_); rintro e w' ⟨rfl, ⟨nd, rfl⟩⟩))
   go_ret
   exact ⟨by first | rfl | (simp; done) | (simp [*]; done), by repeat (first | exact Drawn0.refl _ | apply Drawn0.step)⟩

/-! ### impl_isToken_1: function 148 -/
def impl_isToken_1.f (a0 : Int) : Option (Bool) := (impl_isAmong.f a0 (⟨#[33, 35, 36, 37, 38, 39, 42, 43, 45, 46, 94, 95, 124, 126, 96]⟩ : ByteArray)).bind fun t243 => (some t243)
set_option maxHeartbeats 8000000 in
set_option maxRecDepth 100000 in
theorem impl_isToken_1.calls (a0 : Int) (r : Bool) (w : World) (h : impl_isToken_1.f a0 = some r) :
  Calls Tryz.prog 148 #[.int .u8 a0] w fun e w' => e = .returned (.bool r) ∧ Drawn0 w w' := by
 have H : ((impl_isAmong.f a0 (⟨#[33, 35, 36, 37, 38, 39, 42, 43, 45, 46, 94, 95, 124, 126, 96]⟩ : ByteArray)).bind fun t243 => (some t243)) = some r := h
 clear h
 replace H := Option.bind_eq_some_iff.mp H
 obtain ⟨t243, A20, H⟩ := H
 replace H : (some t243) = some r := H
 have A2 := Aside0.mk A20
 clear A20
 obtain rfl := Option.some.inj H
 go_enter Tryz.func148, Tryz.ntmps148
 go_wp2_with (first | ((with_reducible refine gate_callee (f := 122) rfl ?_); refine xgl_ (some 4) Tryz.func122 #[.int .u8 a0, .string (⟨#[33, 35, 36, 37, 38, 39, 42, 43, 45, 46, 94, 95, 124, 126, 96]⟩ : ByteArray)] ?_; (with_reducible refine (impl_isAmong.calls a0 (⟨#[33, 35, 36, 37, 38, 39, 42, 43, 45, 46, 94, 95, 124, 126, 96]⟩ : ByteArray) t243 _ A2.out).mono ?_); rintro e w' ⟨rfl, ⟨nd, rfl⟩⟩; refine ⟨_, rfl, ?_⟩))
 go_ret
 exact ⟨by first | rfl | (simp; done) | (simp [*]; done), by repeat (first | exact Drawn0.refl _ | apply Drawn0.step)⟩

/-- the first place, counted from n, at which p holds; -1 if there is none -/
def idxO {α : Type} (p : α → Option Bool) : List α → Int → Option Int
  | [], _ => some (-1)
  | x :: xs, n => (p x).bind fun b => if b = true then some n else idxO p xs (n + 1)
theorem idxO_at {α : Type} (p : α → Option Bool) (l : List α) (n : Nat) (h : n < l.length) : idxO p (l.drop n) (n : Int) = (p l[n]).bind fun b => if b = true then some (n : Int) else idxO p (l.drop (n + 1)) ((n + 1 : Nat) : Int) := by
  rw [List.drop_eq_getElem_cons h]; rfl
theorem idxO_mono {α : Type} (p q : α → Option Bool) (h : ∀ x, LeO (p x) (q x)) (l : List α) : ∀ n, LeO (idxO p l n) (idxO q l n) := by
  induction l with
  | nil => intro n; exact LeO.refl _
  | cons x xs ih => intro n; unfold idxO; exact LeO.bind (h x) (fun b => LeO.ite (LeO.refl _) (ih _))
set_option maxHeartbeats 4000000 in
/-- slices.IndexFunc: the first place at which the predicate holds -/
theorem xIndexFunc_u8 (p : Int → Option Bool) (g : Nat) (lb : Array Value) (eg : ∀ args w, (callFunc g args).run Tryz.prog w = .ok (.enter g args) w) (A0 : Option Addr) (c0 : Nat) (l0 : List Int) (i : Int) (w : World)
    (hr0 : Kd.C (Kd.int .u8) w A0 l0.length l0) (hc0 : l0.length ≤ c0) (hbig : l0.length < 9223372036854775807)
    (hp : ∀ (W : World) (x : Int) (b : Bool), Below w.heap.size w W → p x = some b → Calls Tryz.prog g (#[.int .u8 x] ++ lb) W fun e w' => e = .returned (.bool b) ∧ Below w.heap.size w w')
    (h : idxO p l0 0 = some i) :
    Calls Tryz.prog 218 #[.slice A0 l0.length c0, .func (.func g) #[] lb] w fun e w' => e = .returned (.int .i64 i) ∧ Below w.heap.size w w' := by
  have HR0 := Aside0.mk hr0
  have HC0 := Aside0.mk hc0
  have HP := Aside0.mk hp
  have HI := Aside0.mk h
  clear hr0 hc0 hp h
  go_enter Tryz.func218, Tryz.ntmps218
  go_wp2
  go_loopg [5, 8] l0.length (fun gg _ s8 wr => ∃ kk : Nat, kk ≤ l0.length ∧ l0.length - kk ≤ gg ∧ s8 = .int .i64 kk ∧ Aside0 (Below w.heap.size w wr) ∧ Aside0 (idxO p (l0.drop kk) (kk : Int) = some i))
  case atStart => exact ⟨0, Nat.zero_le _, by omega, rfl, ⟨Below.refl _ w⟩, HI⟩
  case round =>
    obtain ⟨kk, hkk, hg, rfl, BW, A⟩ := hrel
    clear HI
    by_cases hlt : kk < l0.length
    · have hltz : (kk : Int) < (l0.length : Int) := by omega
      have H := A.out
      clear A
      rw [idxO_at p l0 kk hlt] at H
      obtain ⟨b, hb, H⟩ := Option.bind_eq_some_iff.mp H
      have hcall := HP.out wr l0[kk] b BW.out hb
      have hrd : rd l0 (kk : Int) = l0[kk] := by unfold rd; simp [List.getD_eq_getElem?_getD, hlt]
      obtain ⟨ad, he, hy0⟩ := Kd.at_int (Kd.C_below HR0.out BW.out) (kk : Int) (by omega) hltz
      cases he
      have hx0 : wr.cell? (ad.add kk) = some (.int .u8 (l0[kk])) := by rw [← hrd]; exact hy0
      clear hy0
      generalize l0[kk] = x at *
      cases b with
      | true =>
        obtain rfl : (kk : Int) = i := Option.some.inj H
        clear H hb
        go_wp2_with (go_at_fn g; refine hcall.mono ?_; rintro e w' ⟨rfl, hb'⟩)
        go_ret
        exact ⟨rfl, hb'⟩
      | false =>
        have H' := Aside0.mk H
        clear H hb
        go_wp2_with (go_at_fn g; refine hcall.mono ?_; rintro e w' ⟨rfl, hb'⟩)
        go_roundg (l0.length - (kk + 1))
        case measure => omega
        case rel => exact ⟨kk + 1, by omega, by omega, by go_num, ⟨hb'⟩, ⟨by have z := H'.out; rw [if_neg (by decide)] at z; exact z⟩⟩
    · have hltz : ¬ (kk : Int) < (l0.length : Int) := by omega
      have H := A.out
      rw [List.drop_of_length_le (by omega)] at H
      obtain rfl : (-1 : Int) = i := Option.some.inj H
      clear H A
      go_wp2
      go_ret
      exact ⟨rfl, BW.out⟩
set_option maxHeartbeats 4000000 in
theorem xContainsFunc_u8 (p : Int → Option Bool) (g : Nat) (lb : Array Value) (eg : ∀ args w, (callFunc g args).run Tryz.prog w = .ok (.enter g args) w) (A0 : Option Addr) (c0 : Nat) (l0 : List Int) (i : Int) (w : World)
    (hr0 : Kd.C (Kd.int .u8) w A0 l0.length l0) (hc0 : l0.length ≤ c0) (hbig : l0.length < 9223372036854775807)
    (hp : ∀ (W : World) (x : Int) (b : Bool), Below w.heap.size w W → p x = some b → Calls Tryz.prog g (#[.int .u8 x] ++ lb) W fun e w' => e = .returned (.bool b) ∧ Below w.heap.size w w')
    (h : idxO p l0 0 = some i) :
    Calls Tryz.prog 196 #[.slice A0 l0.length c0, .func (.func g) #[] lb] w fun e w' => e = .returned (.bool (decide (i ≥ 0))) ∧ Below w.heap.size w w' := by
  have hcall := xIndexFunc_u8 p g lb eg A0 c0 l0 i w hr0 hc0 hbig hp h
  clear hr0 hc0 hbig hp h
  go_enter Tryz.func196, Tryz.ntmps196
  go_wp2_with (go_at_call 218; refine hcall.mono ?_; rintro e w' ⟨rfl, hb'⟩)
  go_ret
  exact ⟨rfl, hb'⟩
/-! ### xAll_u8_impl_isToken_1: function 158, with function 148 -/
def xAll_u8_impl_isToken_1.z (x : Int) : Option Bool := (impl_isToken_1.f x).bind fun b => some (!b)
def xAll_u8_impl_isToken_1.f (l0 : List Int) : Option (Bool) := if l0.length < 9223372036854775807 then ((idxO (xAll_u8_impl_isToken_1.z) l0 0).bind fun i => some (!decide (i ≥ 0))) else none
set_option maxHeartbeats 8000000 in
set_option maxRecDepth 100000 in
theorem xAll_u8_impl_isToken_1.calls (A0 : Option Addr) (c0 : Nat) (l0 : List Int) (r : Bool) (w : World) (hr0 : Kd.C (Kd.int .u8) w A0 l0.length l0) (hc0 : l0.length ≤ c0) (h : xAll_u8_impl_isToken_1.f l0 = some r) :
    Calls Tryz.prog 158 #[.slice A0 l0.length c0, .func (.func 148) #[] #[]] w fun e w' => e = .returned (.bool r) ∧ Below w.heap.size w w' := by
  have hbig : l0.length < 9223372036854775807 := by
    by_cases c : l0.length < 9223372036854775807
    · exact c
    · unfold xAll_u8_impl_isToken_1.f at h; rw [if_neg c] at h; cases h
  have h1 : ((idxO (xAll_u8_impl_isToken_1.z) l0 0).bind fun i => some (!decide (i ≥ 0))) = some r := by unfold xAll_u8_impl_isToken_1.f at h; rw [if_pos hbig] at h; exact h
  clear h
  obtain ⟨i, hi1, hi2⟩ := Option.bind_eq_some_iff.mp h1
  clear h1
  obtain rfl := Option.some.inj hi2
  clear hi2
  have eg : ∀ args w, (callFunc 197 args).run Tryz.prog w = .ok (.enter 197 args) w := enters_of Tryz.func197 (by kernel_rfl) rfl
  have hb1 : Below w.heap.size w (w.alloc (.cells #[.func (.func 148) #[] #[]] 123)) := (Below.refl _ w).alloc (Nat.le_refl _) _
  have hcall := xContainsFunc_u8 (xAll_u8_impl_isToken_1.z) 197 #[.pointer (some ⟨w.heap.size, 0, none⟩)] eg A0 c0 l0 i (w.alloc (.cells #[.func (.func 148) #[] #[]] 123)) (Kd.C_below hr0 hb1) hc0 hbig
    (by
      intro W x b hb hz
      have hcell : W.cell? ⟨w.heap.size, 0, none⟩ = some (.func (.func 148) #[] #[]) := (hb.cell (p := ⟨w.heap.size, 0, none⟩) (by simp)).trans (by simp)
      obtain ⟨b2, hq, hb2⟩ := Option.bind_eq_some_iff.mp hz
      obtain rfl : (!b2) = b := Option.some.inj hb2
      have hq' := Aside0.mk hq
      have hb' := Aside0.mk hb
      clear hb hz hb2 hq
      show Calls Tryz.prog 197 #[.int .u8 x, .pointer (some ⟨w.heap.size, 0, none⟩)] W _
      go_enter Tryz.func197, Tryz.ntmps197
      go_wp2_with (go_at_call 148; refine (impl_isToken_1.calls x b2 _ hq'.out).mono ?_; rintro e w' ⟨rfl, ⟨nd, rfl⟩⟩)
      go_ret
      exact ⟨rfl, by repeat (first | (with_reducible first | exact hb'.out | apply below_alloc | apply pw_below_drewN | apply below_drew1) | exact hb'.out)⟩)
    hi1
  have hb1' := Aside0.mk hb1
  clear hr0 hc0 hbig hi1 hb1 eg
  go_enter Tryz.func158, Tryz.ntmps158
  go_wp2_with (go_at_call 196; refine hcall.mono ?_; rintro e w' ⟨rfl, hb'⟩)
  go_ret
  exact ⟨rfl, below_then hb1'.out (by simp) hb'⟩
/-! ### xBytes_impl_isToken_1: function 120, with function 148 -/
def xBytes_impl_isToken_1.f (a0 : ByteArray) : Option (Bool) := if a0.size < 1000000 then xAll_u8_impl_isToken_1.f (bytesOf a0) else none
set_option maxHeartbeats 4000000 in
theorem xBytes_impl_isToken_1.calls (a0 : ByteArray) (r : Bool) (w : World) (h : xBytes_impl_isToken_1.f a0 = some r) :
    Calls Tryz.prog 120 #[.string a0, .func (.func 148) #[] #[]] w fun e w' => e = .returned (.bool r) ∧ Below w.heap.size w w' := by
  unfold xBytes_impl_isToken_1.f at h
  by_cases c : a0.size < 1000000
  · rw [if_pos c] at h
    have hcv := Lib.run_convert_string_bytes (P := Tryz.prog) w 9 120 5 a0 Tryz.underlying9 Tryz.underlying120 Tryz.underlying5
    have hC : (Kd.int .u8).C (Lib.bytesWorld w 5 a0) (some ⟨w.heap.size, 0, none⟩) (bytesOf a0).length (bytesOf a0) := by
      rw [bytesOf_length]
      exact Kd.C_of_reads (d := (0 : Int)) (bytes_reads w 5 a0 (by omega))
    have hbe := Lib.bytesWorld_below w 5 a0
    have hcall := xAll_u8_impl_isToken_1.calls (some ⟨w.heap.size, 0, none⟩) (grownCap w a0.size 0 5) (bytesOf a0) r (Lib.bytesWorld w 5 a0) hC (by rw [bytesOf_length]; exact grownCap_ge w a0.size 0 5) h
    rw [bytesOf_length] at hcall
    obtain ⟨W0, hW0⟩ : ∃ W0, W0 = Lib.bytesWorld w 5 a0 := ⟨_, rfl⟩
    rw [← hW0] at hcv hcall hbe
    have HB0 := Aside0.mk hbe
    clear hW0 hbe c h hC
    go_enter Tryz.func120, Tryz.ntmps120
    go_wp2_with (go_at_call 158; refine hcall.mono ?_; rintro e w' ⟨rfl, hb'⟩)
    go_ret
    exact ⟨rfl, below_step HB0.out hb'⟩
  · rw [if_neg c] at h; cases h

/-! ### impl_isToken: function 97 -/
def impl_isToken.f (a0 : ByteArray) : Option (Bool) := (impl_within.f (a0.size : Int) 1 60).bind fun t244 => (if t244 = true then ((xBytes_impl_isToken_1.f a0).bind fun t245 => (some t245)) else (some false))
set_option maxHeartbeats 8000000 in
set_option maxRecDepth 100000 in
theorem impl_isToken.calls (a0 : ByteArray) (r : Bool) (w : World) (h : impl_isToken.f a0 = some r) :
  Calls Tryz.prog 97 #[.string a0] w fun e w' => e = .returned (.bool r) ∧ Below w.heap.size w w' := by
 have HB := Aside0.mk (Below.refl w.heap.size w)
 have H : ((impl_within.f (a0.size : Int) 1 60).bind fun t244 => (if t244 = true then ((xBytes_impl_isToken_1.f a0).bind fun t245 => (some t245)) else (some false))) = some r := h
 clear h
 replace H := Option.bind_eq_some_iff.mp H
 obtain ⟨t244, A20, H⟩ := H
 replace H : (if t244 = true then ((xBytes_impl_isToken_1.f a0).bind fun t245 => (some t245)) else (some false)) = some r := H
 have A2 := Aside0.mk A20
 clear A20
 by_cases c3 : t244 = true
 ·subst c3
  have H1 : ((xBytes_impl_isToken_1.f a0).bind fun t245 => (some t245)) = some r := by rw [if_pos rfl] at H; exact H
  clear H
  have H := H1
  clear H1
  replace H := Option.bind_eq_some_iff.mp H
  obtain ⟨t245, A40, H⟩ := H
  replace H : (some t245) = some r := H
  have A4 := Aside0.mk A40
  clear A40
  obtain rfl := Option.some.inj H
  go_enter Tryz.func97, Tryz.ntmps97
  go_wp2_with (first | ((with_reducible refine gate_callee (f := 119) rfl ?_); refine xgl_ (some 5) Tryz.func119 #[.int .i64 (a0.size : Int), .int .i64 1, .int .i64 60] ?_; (with_reducible refine (impl_within.calls (a0.size : Int) 1 60 true _ A2.out).mono ?_); rintro e w' ⟨rfl, ⟨nd, rfl⟩⟩; refine ⟨_, rfl, ?_⟩) | (go_at_call 120; (with_reducible refine (xBytes_impl_isToken_1.calls a0  t245 _ A4.out).mono ?_); rintro e w5 ⟨rfl, hb⟩; replace HB := xws_ HB hb; (try clear hb); (try clear hb2); (try clear hk); (try clear hi)))
  go_ret
  exact ⟨by first | rfl | (simp [errW_none, errW_some] <;> rfl) | (simp [*, errW_none, errW_some] <;> rfl), xw_ HB⟩
 ·replace c3 := Bool.eq_false_iff.mpr c3
  subst c3
  have H1 : (some false) = some r := by rw [if_neg (show ¬ (false = true) by decide)] at H; exact H
  clear H
  have H := H1
  clear H1
  obtain rfl := Option.some.inj H
  go_enter Tryz.func97, Tryz.ntmps97
  go_wp2_with (first | ((with_reducible refine gate_callee (f := 119) rfl ?_); refine xgl_ (some 5) Tryz.func119 #[.int .i64 (a0.size : Int), .int .i64 1, .int .i64 60] ?_; (with_reducible refine (impl_within.calls (a0.size : Int) 1 60 false _ A2.out).mono ?_); rintro e w' ⟨rfl, ⟨nd, rfl⟩⟩; refine ⟨_, rfl, ?_⟩))
  go_ret
  exact ⟨by first | rfl | (simp [errW_none, errW_some] <;> rfl) | (simp [*, errW_none, errW_some] <;> rfl), xw_ HB⟩

/-! ### impl_isPrinted_1: function 172 -/
def impl_isPrinted_1.f (a0 : Int) : Option (Bool) := if a0 ≥ 32 then (some (decide (a0 ≤ 126))) else (some false)
set_option maxHeartbeats 8000000 in
set_option maxRecDepth 100000 in
theorem impl_isPrinted_1.calls (a0 : Int) (r : Bool) (w : World) (h : impl_isPrinted_1.f a0 = some r) :
  Calls Tryz.prog 172 #[.int .u8 a0] w fun e w' => e = .returned (.bool r) ∧ Drawn0 w w' := by
 have H : (if a0 ≥ 32 then (some (decide (a0 ≤ 126))) else (some false)) = some r := h
 clear h
 by_cases c2 : a0 ≥ 32
 ·rw [if_pos c2] at H
  have c2b0 : decide (32 ≤ a0) = true := decide_eq_true c2
  clear c2
  obtain rfl := Option.some.inj H
  go_enter Tryz.func172, Tryz.ntmps172
  go_wp2
  go_ret
  exact ⟨by first | rfl | (simp; done) | (simp [*]; done), by repeat (first | exact Drawn0.refl _ | apply Drawn0.step)⟩
 ·rw [if_neg c2] at H
  have c2b0 : decide (32 ≤ a0) = false := decide_eq_false c2
  clear c2
  obtain rfl := Option.some.inj H
  go_enter Tryz.func172, Tryz.ntmps172
  go_wp2
  go_ret
  exact ⟨by first | rfl | (simp; done) | (simp [*]; done), by repeat (first | exact Drawn0.refl _ | apply Drawn0.step)⟩

/-! ### xAll_u8_impl_isPrinted_1: function 158, with function 172 -/
def xAll_u8_impl_isPrinted_1.z (x : Int) : Option Bool := (impl_isPrinted_1.f x).bind fun b => some (!b)
def xAll_u8_impl_isPrinted_1.f (l0 : List Int) : Option (Bool) := if l0.length < 9223372036854775807 then ((idxO (xAll_u8_impl_isPrinted_1.z) l0 0).bind fun i => some (!decide (i ≥ 0))) else none
set_option maxHeartbeats 8000000 in
set_option maxRecDepth 100000 in
theorem xAll_u8_impl_isPrinted_1.calls (A0 : Option Addr) (c0 : Nat) (l0 : List Int) (r : Bool) (w : World) (hr0 : Kd.C (Kd.int .u8) w A0 l0.length l0) (hc0 : l0.length ≤ c0) (h : xAll_u8_impl_isPrinted_1.f l0 = some r) :
    Calls Tryz.prog 158 #[.slice A0 l0.length c0, .func (.func 172) #[] #[]] w fun e w' => e = .returned (.bool r) ∧ Below w.heap.size w w' := by
  have hbig : l0.length < 9223372036854775807 := by
    by_cases c : l0.length < 9223372036854775807
    · exact c
    · unfold xAll_u8_impl_isPrinted_1.f at h; rw [if_neg c] at h; cases h
  have h1 : ((idxO (xAll_u8_impl_isPrinted_1.z) l0 0).bind fun i => some (!decide (i ≥ 0))) = some r := by unfold xAll_u8_impl_isPrinted_1.f at h; rw [if_pos hbig] at h; exact h
  clear h
  obtain ⟨i, hi1, hi2⟩ := Option.bind_eq_some_iff.mp h1
  clear h1
  obtain rfl := Option.some.inj hi2
  clear hi2
  have eg : ∀ args w, (callFunc 197 args).run Tryz.prog w = .ok (.enter 197 args) w := enters_of Tryz.func197 (by kernel_rfl) rfl
  have hb1 : Below w.heap.size w (w.alloc (.cells #[.func (.func 172) #[] #[]] 123)) := (Below.refl _ w).alloc (Nat.le_refl _) _
  have hcall := xContainsFunc_u8 (xAll_u8_impl_isPrinted_1.z) 197 #[.pointer (some ⟨w.heap.size, 0, none⟩)] eg A0 c0 l0 i (w.alloc (.cells #[.func (.func 172) #[] #[]] 123)) (Kd.C_below hr0 hb1) hc0 hbig
    (by
      intro W x b hb hz
      have hcell : W.cell? ⟨w.heap.size, 0, none⟩ = some (.func (.func 172) #[] #[]) := (hb.cell (p := ⟨w.heap.size, 0, none⟩) (by simp)).trans (by simp)
      obtain ⟨b2, hq, hb2⟩ := Option.bind_eq_some_iff.mp hz
      obtain rfl : (!b2) = b := Option.some.inj hb2
      have hq' := Aside0.mk hq
      have hb' := Aside0.mk hb
      clear hb hz hb2 hq
      show Calls Tryz.prog 197 #[.int .u8 x, .pointer (some ⟨w.heap.size, 0, none⟩)] W _
      go_enter Tryz.func197, Tryz.ntmps197
      go_wp2_with (go_at_call 172; refine (impl_isPrinted_1.calls x b2 _ hq'.out).mono ?_; rintro e w' ⟨rfl, ⟨nd, rfl⟩⟩)
      go_ret
      exact ⟨rfl, by repeat (first | (with_reducible first | exact hb'.out | apply below_alloc | apply pw_below_drewN | apply below_drew1) | exact hb'.out)⟩)
    hi1
  have hb1' := Aside0.mk hb1
  clear hr0 hc0 hbig hi1 hb1 eg
  go_enter Tryz.func158, Tryz.ntmps158
  go_wp2_with (go_at_call 196; refine hcall.mono ?_; rintro e w' ⟨rfl, hb'⟩)
  go_ret
  exact ⟨rfl, below_then hb1'.out (by simp) hb'⟩
/-! ### xBytes_impl_isPrinted_1: function 120, with function 172 -/
def xBytes_impl_isPrinted_1.f (a0 : ByteArray) : Option (Bool) := if a0.size < 1000000 then xAll_u8_impl_isPrinted_1.f (bytesOf a0) else none
set_option maxHeartbeats 4000000 in
theorem xBytes_impl_isPrinted_1.calls (a0 : ByteArray) (r : Bool) (w : World) (h : xBytes_impl_isPrinted_1.f a0 = some r) :
    Calls Tryz.prog 120 #[.string a0, .func (.func 172) #[] #[]] w fun e w' => e = .returned (.bool r) ∧ Below w.heap.size w w' := by
  unfold xBytes_impl_isPrinted_1.f at h
  by_cases c : a0.size < 1000000
  · rw [if_pos c] at h
    have hcv := Lib.run_convert_string_bytes (P := Tryz.prog) w 9 120 5 a0 Tryz.underlying9 Tryz.underlying120 Tryz.underlying5
    have hC : (Kd.int .u8).C (Lib.bytesWorld w 5 a0) (some ⟨w.heap.size, 0, none⟩) (bytesOf a0).length (bytesOf a0) := by
      rw [bytesOf_length]
      exact Kd.C_of_reads (d := (0 : Int)) (bytes_reads w 5 a0 (by omega))
    have hbe := Lib.bytesWorld_below w 5 a0
    have hcall := xAll_u8_impl_isPrinted_1.calls (some ⟨w.heap.size, 0, none⟩) (grownCap w a0.size 0 5) (bytesOf a0) r (Lib.bytesWorld w 5 a0) hC (by rw [bytesOf_length]; exact grownCap_ge w a0.size 0 5) h
    rw [bytesOf_length] at hcall
    obtain ⟨W0, hW0⟩ : ∃ W0, W0 = Lib.bytesWorld w 5 a0 := ⟨_, rfl⟩
    rw [← hW0] at hcv hcall hbe
    have HB0 := Aside0.mk hbe
    clear hW0 hbe c h hC
    go_enter Tryz.func120, Tryz.ntmps120
    go_wp2_with (go_at_call 158; refine hcall.mono ?_; rintro e w' ⟨rfl, hb'⟩)
    go_ret
    exact ⟨rfl, below_step HB0.out hb'⟩
  · rw [if_neg c] at h; cases h

/-! ### impl_isPrinted: function 141 -/
def impl_isPrinted.f (a0 : ByteArray) (a1 : Int) : Option (Bool) := if (a0.size : Int) ≤ a1 then ((xBytes_impl_isPrinted_1.f a0).bind fun t246 => (some t246)) else (some false)
set_option maxHeartbeats 8000000 in
set_option maxRecDepth 100000 in
theorem impl_isPrinted.calls (a0 : ByteArray) (a1 : Int) (r : Bool) (w : World) (h : impl_isPrinted.f a0 a1 = some r) :
  Calls Tryz.prog 141 #[.string a0, .int .i64 a1] w fun e w' => e = .returned (.bool r) ∧ Below w.heap.size w w' := by
 have HB := Aside0.mk (Below.refl w.heap.size w)
 have H : (if (a0.size : Int) ≤ a1 then ((xBytes_impl_isPrinted_1.f a0).bind fun t246 => (some t246)) else (some false)) = some r := h
 clear h
 by_cases c3 : (a0.size : Int) ≤ a1
 ·rw [if_pos c3] at H
  have c3b0 : decide ((a0.size : Int) ≤ a1) = true := decide_eq_true c3
  clear c3
  replace H := Option.bind_eq_some_iff.mp H
  obtain ⟨t246, A40, H⟩ := H
  replace H : (some t246) = some r := H
  have A4 := Aside0.mk A40
  clear A40
  obtain rfl := Option.some.inj H
  go_enter Tryz.func141, Tryz.ntmps141
  go_wp2_with (first | (go_at_call 120; (with_reducible refine (xBytes_impl_isPrinted_1.calls a0  t246 _ A4.out).mono ?_); rintro e w5 ⟨rfl, hb⟩; replace HB := xws_ HB hb; (try clear hb); (try clear hb2); (try clear hk); (try clear hi)))
  go_ret
  exact ⟨by first | rfl | (simp [errW_none, errW_some] <;> rfl) | (simp [*, errW_none, errW_some] <;> rfl), xw_ HB⟩
 ·rw [if_neg c3] at H
  have c3b0 : decide ((a0.size : Int) ≤ a1) = false := decide_eq_false c3
  clear c3
  obtain rfl := Option.some.inj H
  go_enter Tryz.func141, Tryz.ntmps141
  go_wp2
  go_ret
  exact ⟨by first | rfl | (simp [errW_none, errW_some] <;> rfl) | (simp [*, errW_none, errW_some] <;> rfl), xw_ HB⟩

/-! ### strings_trimLeftByte: function 173 -/
def strings_trimLeftByte.l0 : Nat → ByteArray → Int → Option (ByteArray)
 | 0, _, _ => none
 | k + 1, x0, x1 => if (x0.size : Int) > 0 then (if 0 < (x0.size : Int) then (if (bt x0 0) = x1 then (if 1 ≤ (x0.size : Int) then (strings_trimLeftByte.l0 k (x0.extract 1 x0.size) x1) else (none)) else (some x0)) else (none)) else (some x0)
def strings_trimLeftByte.f (k : Nat) (a0 : ByteArray) (a1 : Int) : Option (ByteArray) := strings_trimLeftByte.l0 k a0 a1
theorem strings_trimLeftByte.mono_l : ∀ k, (∀ y0 y1, LeO (strings_trimLeftByte.l0 k y0 y1) (strings_trimLeftByte.l0 (k + 1) y0 y1))
 | 0 => fun _ _ r h => by simp [strings_trimLeftByte.l0] at h
 | k + 1 => by
  have ih0 := strings_trimLeftByte.mono_l k
  ·intro y0 y1
   unfold strings_trimLeftByte.l0
   repeat' first
   | (with_reducible exact ih0 _ _)
   | (with_reducible exact LeO.refl _)
   | (with_reducible exact LeO.none _)
   | (with_reducible refine LeO.ite ?_ ?_)
   | (with_reducible refine LeO.bind ?_ (fun _ => ?_))
   | exact ih0 _ _
   | exact LeO.none _
   | refine LeO.ite ?_ ?_
   | refine LeO.bind ?_ (fun _ => ?_)
theorem strings_trimLeftByte.mono : ∀ a0 a1 k, LeO (strings_trimLeftByte.f k a0 a1) (strings_trimLeftByte.f (k + 1) a0 a1) := by
 intro a0 a1 k
 have ih0 := strings_trimLeftByte.mono_l k
 unfold strings_trimLeftByte.f
 repeat' first
   | (with_reducible exact ih0 _ _)
   | (with_reducible exact LeO.refl _)
   | (with_reducible exact LeO.none _)
   | (with_reducible refine LeO.ite ?_ ?_)
   | (with_reducible refine LeO.bind ?_ (fun _ => ?_))
   | exact ih0 _ _
   | exact LeO.none _
   | refine LeO.ite ?_ ?_
   | refine LeO.bind ?_ (fun _ => ?_)
set_option maxHeartbeats 8000000 in
set_option maxRecDepth 100000 in
theorem strings_trimLeftByte.calls (k : Nat) (a0 : ByteArray) (a1 : Int) (r : ByteArray) (w : World) (h : strings_trimLeftByte.f k a0 a1 = some r) :
  Calls Tryz.prog 173 #[.string a0, .int .u8 a1] w fun e w' => e = .returned (.string r) ∧ Drawn0 w w' := by
 have H : (strings_trimLeftByte.l0 k a0 a1) = some r := h
 clear h
 have H' := Aside0.mk H
 clear H
 go_enter Tryz.func173, Tryz.ntmps173
 go_wp2
 go_loopg [0] k (fun kq v0 w' => ∃ (x0_1 : ByteArray), v0 = .string x0_1 ∧ Aside0 (strings_trimLeftByte.l0 kq x0_1 a1 = some r) ∧ Aside0 (kq ≤ k) ∧ Drawn0 w w')
 case atStart => exact ⟨(a0), (by first | rfl | (simp; done) | (simp [*]; done)), H', ⟨Nat.le_refl _⟩, by repeat (first | exact Drawn0.refl _ | apply Drawn0.step)⟩
 case round =>
  clear H'
  try clear c1
  try clear p2
  obtain ⟨x0_1, rfl, HA, HK1, ⟨m1, rfl⟩⟩ := hrel
  cases gk with
  | zero => exact absurd HA.out (by simp [strings_trimLeftByte.l0])
  | succ k1 =>
   have H := HA.out
   clear HA
   simp only [strings_trimLeftByte.l0] at H
   by_cases c3 : (x0_1.size : Int) > 0
   ·rw [if_pos c3] at H
    have c3b0 : decide (0 < (x0_1.size : Int)) = true := decide_eq_true c3
    have c3b1 : decide (0 < x0_1.size) = true := decide_eq_true (by omega)
    clear c3
    by_cases c4 : 0 < (x0_1.size : Int)
    ·rw [if_pos c4] at H
     have c4b0 : decide (0 < (x0_1.size : Int)) = true := decide_eq_true c4
     have c4b1 : decide (0 < x0_1.size) = true := decide_eq_true (by omega)
     clear c4
     by_cases c6 : (bt x0_1 0) = a1
     ·rw [if_pos c6] at H
      have c6b0 : ((bt x0_1 0) == a1) = true := beq_iff_eq.mpr c6
      have c6b1 : ((bt x0_1 0) != a1) = false := bne_eq_false_iff_eq.mpr c6
      clear c6
      by_cases c7 : 1 ≤ (x0_1.size : Int)
      ·rw [if_pos c7] at H
       have c7b0 := eq_true c7
       have c7b1 : decide (1 ≤ (x0_1.size : Int)) = true := decide_eq_true c7
       clear c7
       have H' := Aside0.mk H
       clear H
       have p5 : 0 ≤ (0 : Int) := (by omega)
       have q5 : 0 < x0_1.size := (by have : (0 : Int) < (x0_1.size : Int) := of_decide_eq_true (by first | (with_reducible assumption) | assumption); omega)
       have hx5 : ∀ h : 0 < x0_1.size, ((x0_1[0]'h).toNat : Int) = bt x0_1 0 := bt_at x0_1 0
       clear p5
       have qi5 : (0 < (x0_1.size : Int)) = True := eq_true (of_decide_eq_true (by first | (with_reducible assumption) | assumption))
       replace q5 := eq_true q5
       go_wp2
       go_roundg k1
       case measure => have := HK1.out; omega
       case rel => exact ⟨(x0_1.extract 1 x0_1.size), (by first | rfl | (simp; done) | (simp [*]; done)), H', ⟨by have := HK1.out; omega⟩, by repeat (first | exact Drawn0.refl _ | apply Drawn0.step)⟩
      ·rw [if_neg c7] at H
       exact absurd H (by simp)
     ·rw [if_neg c6] at H
      have c6b0 : ((bt x0_1 0) == a1) = false := beq_eq_false_iff_ne.mpr c6
      have c6b1 : ((bt x0_1 0) != a1) = true := bne_iff_ne.mpr c6
      obtain rfl := Option.some.inj H
      have p5 : 0 ≤ (0 : Int) := (by omega)
      have q5 : 0 < x0_1.size := (by have : (0 : Int) < (x0_1.size : Int) := of_decide_eq_true (by first | (with_reducible assumption) | assumption); omega)
      have hx5 : ∀ h : 0 < x0_1.size, ((x0_1[0]'h).toNat : Int) = bt x0_1 0 := bt_at x0_1 0
      clear p5
      have qi5 : (0 < (x0_1.size : Int)) = True := eq_true (of_decide_eq_true (by first | (with_reducible assumption) | assumption))
      replace q5 := eq_true q5
      go_wp2
      go_ret
      exact ⟨by first | rfl | (simp; done) | (simp [*]; done), by repeat (first | exact Drawn0.refl _ | apply Drawn0.step)⟩
    ·rw [if_neg c4] at H
     exact absurd H (by simp)
   ·rw [if_neg c3] at H
    have c3b0 : decide (0 < (x0_1.size : Int)) = false := decide_eq_false c3
    have c3b1 : decide (0 < x0_1.size) = false := decide_eq_false (by omega)
    clear c3
    obtain rfl := Option.some.inj H
    go_wp2
    go_ret
    exact ⟨by first | rfl | (simp; done) | (simp [*]; done), by repeat (first | exact Drawn0.refl _ | apply Drawn0.step)⟩

/-! ### strings_trimRightByte: function 174 -/
def strings_trimRightByte.l0 : Nat → ByteArray → Int → Option (ByteArray)
 | 0, _, _ => none
 | k + 1, x0, x1 => if (x0.size : Int) > 0 then (if 0 ≤ (wrap64 ((x0.size : Int) - 1)) then (if (wrap64 ((x0.size : Int) - 1)) < (x0.size : Int) then (if (bt x0 (wrap64 ((x0.size : Int) - 1))) = x1 then (if (wrap64 ((x0.size : Int) - 1)) ≤ (x0.size : Int) then (strings_trimRightByte.l0 k (x0.extract 0 ((wrap64 ((x0.size : Int) - 1)) : Int).toNat) x1) else (none)) else (some x0)) else (none)) else (none)) else (some x0)
def strings_trimRightByte.f (k : Nat) (a0 : ByteArray) (a1 : Int) : Option (ByteArray) := strings_trimRightByte.l0 k a0 a1
theorem strings_trimRightByte.mono_l : ∀ k, (∀ y0 y1, LeO (strings_trimRightByte.l0 k y0 y1) (strings_trimRightByte.l0 (k + 1) y0 y1))
 | 0 => fun _ _ r h => by simp [strings_trimRightByte.l0] at h
 | k + 1 => by
  have ih0 := strings_trimRightByte.mono_l k
  ·intro y0 y1
   unfold strings_trimRightByte.l0
   repeat' first
   | (with_reducible exact ih0 _ _)
   | (with_reducible exact LeO.refl _)
   | (with_reducible exact LeO.none _)
   | (with_reducible refine LeO.ite ?_ ?_)
   | (with_reducible refine LeO.bind ?_ (fun _ => ?_))
   | exact ih0 _ _
   | exact LeO.none _
   | refine LeO.ite ?_ ?_
   | refine LeO.bind ?_ (fun _ => ?_)
theorem strings_trimRightByte.mono : ∀ a0 a1 k, LeO (strings_trimRightByte.f k a0 a1) (strings_trimRightByte.f (k + 1) a0 a1) := by
 intro a0 a1 k
 have ih0 := strings_trimRightByte.mono_l k
 unfold strings_trimRightByte.f
 repeat' first
   | (with_reducible exact ih0 _ _)
   | (with_reducible exact LeO.refl _)
   | (with_reducible exact LeO.none _)
   | (with_reducible refine LeO.ite ?_ ?_)
   | (with_reducible refine LeO.bind ?_ (fun _ => ?_))
   | exact ih0 _ _
   | exact LeO.none _
   | refine LeO.ite ?_ ?_
   | refine LeO.bind ?_ (fun _ => ?_)
set_option maxHeartbeats 8000000 in
set_option maxRecDepth 100000 in
theorem strings_trimRightByte.calls (k : Nat) (a0 : ByteArray) (a1 : Int) (r : ByteArray) (w : World) (h : strings_trimRightByte.f k a0 a1 = some r) :
  Calls Tryz.prog 174 #[.string a0, .int .u8 a1] w fun e w' => e = .returned (.string r) ∧ Drawn0 w w' := by
 have H : (strings_trimRightByte.l0 k a0 a1) = some r := h
 clear h
 have H' := Aside0.mk H
 clear H
 go_enter Tryz.func174, Tryz.ntmps174
 go_wp2
 go_loopg [0] k (fun kq v0 w' => ∃ (x0_1 : ByteArray), v0 = .string x0_1 ∧ Aside0 (strings_trimRightByte.l0 kq x0_1 a1 = some r) ∧ Aside0 (kq ≤ k) ∧ Drawn0 w w')
 case atStart => exact ⟨(a0), (by first | rfl | (simp; done) | (simp [*]; done)), H', ⟨Nat.le_refl _⟩, by repeat (first | exact Drawn0.refl _ | apply Drawn0.step)⟩
 case round =>
  clear H'
  try clear c1
  try clear p2
  obtain ⟨x0_1, rfl, HA, HK1, ⟨m1, rfl⟩⟩ := hrel
  cases gk with
  | zero => exact absurd HA.out (by simp [strings_trimRightByte.l0])
  | succ k1 =>
   have H := HA.out
   clear HA
   simp only [strings_trimRightByte.l0] at H
   by_cases c3 : (x0_1.size : Int) > 0
   ·rw [if_pos c3] at H
    have c3b0 : decide (0 < (x0_1.size : Int)) = true := decide_eq_true c3
    have c3b1 : decide (0 < x0_1.size) = true := decide_eq_true (by omega)
    clear c3
    obtain ⟨ji4, hji4⟩ : ∃ j_ : Int, (wrap64 ((x0_1.size : Int) - 1)) = j_ := ⟨_, rfl⟩
    replace H : (if 0 ≤ (ji4) then (if (ji4) < (x0_1.size : Int) then (if (bt x0_1 (ji4)) = a1 then (if (ji4) ≤ (x0_1.size : Int) then (strings_trimRightByte.l0 k1 (x0_1.extract 0 ((ji4) : Int).toNat) a1) else (none)) else (some x0_1)) else (none)) else (none)) = some r := by first | (rw [hji4] at H; exact H) | (simp only [hji4] at H ⊢; exact H)
    have hji4w : (IntKind.i64.wrap ((x0_1.size : Int) - 1)) = ji4 := (i64_w _).trans hji4
    by_cases c5 : 0 ≤ (ji4)
    ·rw [if_pos c5] at H
     have c5b0 : decide (0 ≤ (ji4)) = true := decide_eq_true c5
     clear c5
     by_cases c6 : (ji4) < (x0_1.size : Int)
     ·rw [if_pos c6] at H
      have c6b0 : decide ((ji4) < (x0_1.size : Int)) = true := decide_eq_true c6
      clear c6
      by_cases c8 : (bt x0_1 (ji4)) = a1
      ·rw [if_pos c8] at H
       have c8b0 : ((bt x0_1 (ji4)) == a1) = true := beq_iff_eq.mpr c8
       have c8b1 : ((bt x0_1 (ji4)) != a1) = false := bne_eq_false_iff_eq.mpr c8
       clear c8
       have c9b0 := eq_true (of_decide_eq_true (by first | (with_reducible assumption) | assumption) : 0 ≤ (ji4))
       by_cases c10 : (ji4) ≤ (x0_1.size : Int)
       ·rw [if_pos c10] at H
        have c10b0 := eq_true c10
        have c10b1 : decide ((ji4) ≤ (x0_1.size : Int)) = true := decide_eq_true c10
        clear c10
        have H' := Aside0.mk H
        clear H
        have p7 : 0 ≤ ((ji4) : Int) := of_decide_eq_true (by first | (with_reducible assumption) | assumption)
        have q7 : (ji4) < (x0_1.size : Int) := of_decide_eq_true (by first | (with_reducible assumption) | assumption)
        have hx7 := bt_at x0_1 (ji4)
        replace p7 := eq_true p7
        replace q7 := eq_true q7
        go_wp2
        go_roundg k1
        case measure => have := HK1.out; omega
        case rel => exact ⟨(x0_1.extract 0 ((ji4) : Int).toNat), (by first | rfl | (simp; done) | (simp only [← hji4] <;> (first | rfl | simp)) | (simp [*]; done)), H', ⟨by have := HK1.out; omega⟩, by repeat (first | exact Drawn0.refl _ | apply Drawn0.step)⟩
       ·rw [if_neg c10] at H
        exact absurd H (by simp)
      ·rw [if_neg c8] at H
       have c8b0 : ((bt x0_1 (ji4)) == a1) = false := beq_eq_false_iff_ne.mpr c8
       have c8b1 : ((bt x0_1 (ji4)) != a1) = true := bne_iff_ne.mpr c8
       obtain rfl := Option.some.inj H
       have p7 : 0 ≤ ((ji4) : Int) := of_decide_eq_true (by first | (with_reducible assumption) | assumption)
       have q7 : (ji4) < (x0_1.size : Int) := of_decide_eq_true (by first | (with_reducible assumption) | assumption)
       have hx7 := bt_at x0_1 (ji4)
       replace p7 := eq_true p7
       replace q7 := eq_true q7
       go_wp2
       go_ret
       exact ⟨by first | rfl | (simp; done) | (simp only [← hji4] <;> (first | rfl | simp)) | (simp [*]; done), by repeat (first | exact Drawn0.refl _ | apply Drawn0.step)⟩
     ·rw [if_neg c6] at H
      exact absurd H (by simp)
    ·rw [if_neg c5] at H
     exact absurd H (by simp)
   ·rw [if_neg c3] at H
    have c3b0 : decide (0 < (x0_1.size : Int)) = false := decide_eq_false c3
    have c3b1 : decide (0 < x0_1.size) = false := decide_eq_false (by omega)
    clear c3
    obtain rfl := Option.some.inj H
    go_wp2
    go_ret
    exact ⟨by first | rfl | (simp; done) | (simp [*]; done), by repeat (first | exact Drawn0.refl _ | apply Drawn0.step)⟩

-- NOT PRINTED: function 175 (strings_makeASCIISet)

-- NOT PRINTED: function 205 (strings_asciiSet_contains)

-- NOT PRINTED: function 176 (strings_trimLeftASCII)

-- NOT PRINTED: function 177 (strings_trimRightASCII)

-- NOT PRINTED: function 232 (strings_IndexRune)

-- NOT PRINTED: function 207 (strings_ContainsRune)

-- NOT PRINTED: function 178 (strings_trimLeftUnicode)

-- NOT PRINTED: function 179 (strings_trimRightUnicode)

end Go.Proofs.YtpggepjfhgalkaaGreatDoor.PFnExactVaryOf
