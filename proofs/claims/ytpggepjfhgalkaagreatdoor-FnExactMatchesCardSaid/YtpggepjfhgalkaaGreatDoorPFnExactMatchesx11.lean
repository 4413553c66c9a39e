-- Written by a program of this project (xprint.py) out of the translation; Lean checks it.
import Derived.Test.YtpggepjfhgalkaaGreatDoorPFnExactMatchesx0
import Derived.Test.YtpggepjfhgalkaaGreatDoorPFnExactMatchesx10
namespace Go.Proofs.YtpggepjfhgalkaaGreatDoor.PFnExactMatches
open Go.RowKit Go.Proofs.YtpggepjfhgalkaaGreatDoorW.PrintWords Go.Proofs.YtpggepjfhgalkaaGreatDoorW.PrintLast Go.Proofs.YtpggepjfhgalkaaGreatDoorW.PrintMore
attribute [local go_sem] max2_int min2_int max_two min_two max_three min_three max_four min_four   -- for this text's walks alone
set_option linter.unusedVariables false
set_option linter.unusedSimpArgs false

/-- the first place, counted from n, at which p holds; -1 if there is none -/
def idxO {α : Type} (p : α → Option Bool) : List α → Int → Option Int
  | [], _ => some (-1)
  | x :: xs, n => (p x).bind fun b => if b = true then some n else idxO p xs (n + 1)
theorem idxO_at {α : Type} (p : α → Option Bool) (l : List α) (n : Nat) (h : n < l.length) : idxO p (l.drop n) (n : Int) = (p l[n]).bind fun b => if b = true then some (n : Int) else idxO p (l.drop (n + 1)) ((n + 1 : Nat) : Int) := by
  rw [List.drop_eq_getElem_cons h]; rfl
theorem idxO_mono {α : Type} (p q : α → Option Bool) (h : ∀ x, LeO (p x) (q x)) (l : List α) : ∀ n, LeO (idxO p l n) (idxO q l n) := by
  induction l with
  | nil => intro n; exact LeO.refl _
  | cons x xs ih => intro n; unfold idxO; exact LeO.bind (h x) (fun b => LeO.ite (LeO.refl _) (ih _))
set_option maxHeartbeats 4000000 in
/-- slices.IndexFunc: the first place at which the predicate holds -/
theorem xIndexFunc_u8 (p : Int → Option Bool) (g : Nat) (lb : Array Value) (eg : ∀ args w, (callFunc g args).run Tryz.prog w = .ok (.enter g args) w) (A0 : Option Addr) (c0 : Nat) (l0 : List Int) (i : Int) (w : World)
    (hr0 : Kd.C (Kd.int .u8) w A0 l0.length l0) (hc0 : l0.length ≤ c0) (hbig : l0.length < 9223372036854775807)
    (hp : ∀ (W : World) (x : Int) (b : Bool), Below w.heap.size w W → p x = some b → Calls Tryz.prog g (#[.int .u8 x] ++ lb) W fun e w' => e = .returned (.bool b) ∧ Below w.heap.size w w')
    (h : idxO p l0 0 = some i) :
    Calls Tryz.prog 218 #[.slice A0 l0.length c0, .func (.func g) #[] lb] w fun e w' => e = .returned (.int .i64 i) ∧ Below w.heap.size w w' := by
  have HR0 := Aside0.mk hr0
  have HC0 := Aside0.mk hc0
  have HP := Aside0.mk hp
  have HI := Aside0.mk h
  clear hr0 hc0 hp h
  go_enter Tryz.func218, Tryz.ntmps218
  go_wp2
  go_loopg [5, 8] l0.length (fun gg _ s8 wr => ∃ kk : Nat, kk ≤ l0.length ∧ l0.length - kk ≤ gg ∧ s8 = .int .i64 kk ∧ Aside0 (Below w.heap.size w wr) ∧ Aside0 (idxO p (l0.drop kk) (kk : Int) = some i))
  case atStart => exact ⟨0, Nat.zero_le _, by omega, rfl, ⟨Below.refl _ w⟩, HI⟩
  case round =>
    obtain ⟨kk, hkk, hg, rfl, BW, A⟩ := hrel
    clear HI
    by_cases hlt : kk < l0.length
    · have hltz : (kk : Int) < (l0.length : Int) := by omega
      have H := A.out
      clear A
      rw [idxO_at p l0 kk hlt] at H
      obtain ⟨b, hb, H⟩ := Option.bind_eq_some_iff.mp H
      have hcall := HP.out wr l0[kk] b BW.out hb
      have hrd : rd l0 (kk : Int) = l0[kk] := by unfold rd; simp [List.getD_eq_getElem?_getD, hlt]
      obtain ⟨ad, he, hy0⟩ := Kd.at_int (Kd.C_below HR0.out BW.out) (kk : Int) (by omega) hltz
      cases he
      have hx0 : wr.cell? (ad.add kk) = some (.int .u8 (l0[kk])) := by rw [← hrd]; exact hy0
      clear hy0
      generalize l0[kk] = x at *
      cases b with
      | true =>
        obtain rfl : (kk : Int) = i := Option.some.inj H
        clear H hb
        go_wp2_with (go_at_fn g; refine hcall.mono ?_; rintro e w' ⟨rfl, hb'⟩)
        go_ret
        exact ⟨rfl, hb'⟩
      | false =>
        have H' := Aside0.mk H
        clear H hb
        go_wp2_with (go_at_fn g; refine hcall.mono ?_; rintro e w' ⟨rfl, hb'⟩)
        go_roundg (l0.length - (kk + 1))
        case measure => omega
        case rel => exact ⟨kk + 1, by omega, by omega, by go_num, ⟨hb'⟩, ⟨by have z := H'.out; rw [if_neg (by decide)] at z; exact z⟩⟩
    · have hltz : ¬ (kk : Int) < (l0.length : Int) := by omega
      have H := A.out
      rw [List.drop_of_length_le (by omega)] at H
      obtain rfl : (-1 : Int) = i := Option.some.inj H
      clear H A
      go_wp2
      go_ret
      exact ⟨rfl, BW.out⟩
set_option maxHeartbeats 4000000 in
theorem xContainsFunc_u8 (p : Int → Option Bool) (g : Nat) (lb : Array Value) (eg : ∀ args w, (callFunc g args).run Tryz.prog w = .ok (.enter g args) w) (A0 : Option Addr) (c0 : Nat) (l0 : List Int) (i : Int) (w : World)
    (hr0 : Kd.C (Kd.int .u8) w A0 l0.length l0) (hc0 : l0.length ≤ c0) (hbig : l0.length < 9223372036854775807)
    (hp : ∀ (W : World) (x : Int) (b : Bool), Below w.heap.size w W → p x = some b → Calls Tryz.prog g (#[.int .u8 x] ++ lb) W fun e w' => e = .returned (.bool b) ∧ Below w.heap.size w w')
    (h : idxO p l0 0 = some i) :
    Calls Tryz.prog 196 #[.slice A0 l0.length c0, .func (.func g) #[] lb] w fun e w' => e = .returned (.bool (decide (i ≥ 0))) ∧ Below w.heap.size w w' := by
  have hcall := xIndexFunc_u8 p g lb eg A0 c0 l0 i w hr0 hc0 hbig hp h
  clear hr0 hc0 hbig hp h
  go_enter Tryz.func196, Tryz.ntmps196
  go_wp2_with (go_at_call 218; refine hcall.mono ?_; rintro e w' ⟨rfl, hb'⟩)
  go_ret
  exact ⟨rfl, hb'⟩
/-! ### xAll_u8_impl_isToken_1: function 158, with function 148 -/
def xAll_u8_impl_isToken_1.z (x : Int) : Option Bool := (impl_isToken_1.f x).bind fun b => some (!b)
def xAll_u8_impl_isToken_1.f (l0 : List Int) : Option (Bool) := if l0.length < 9223372036854775807 then ((idxO (xAll_u8_impl_isToken_1.z) l0 0).bind fun i => some (!decide (i ≥ 0))) else none
set_option maxHeartbeats 8000000 in
set_option maxRecDepth 100000 in
theorem xAll_u8_impl_isToken_1.calls (A0 : Option Addr) (c0 : Nat) (l0 : List Int) (r : Bool) (w : World) (hr0 : Kd.C (Kd.int .u8) w A0 l0.length l0) (hc0 : l0.length ≤ c0) (h : xAll_u8_impl_isToken_1.f l0 = some r) :
    Calls Tryz.prog 158 #[.slice A0 l0.length c0, .func (.func 148) #[] #[]] w fun e w' => e = .returned (.bool r) ∧ Below w.heap.size w w' := by
  have hbig : l0.length < 9223372036854775807 := by
    by_cases c : l0.length < 9223372036854775807
    · exact c
    · unfold xAll_u8_impl_isToken_1.f at h; rw [if_neg c] at h; cases h
  have h1 : ((idxO (xAll_u8_impl_isToken_1.z) l0 0).bind fun i => some (!decide (i ≥ 0))) = some r := by unfold xAll_u8_impl_isToken_1.f at h; rw [if_pos hbig] at h; exact h
  clear h
  obtain ⟨i, hi1, hi2⟩ := Option.bind_eq_some_iff.mp h1
  clear h1
  obtain rfl := Option.some.inj hi2
  clear hi2
  have eg : ∀ args w, (callFunc 197 args).run Tryz.prog w = .ok (.enter 197 args) w := enters_of Tryz.func197 (by kernel_rfl) rfl
  have hb1 : Below w.heap.size w (w.alloc (.cells #[.func (.func 148) #[] #[]] 123)) := (Below.refl _ w).alloc (Nat.le_refl _) _
  have hcall := xContainsFunc_u8 (xAll_u8_impl_isToken_1.z) 197 #[.pointer (some ⟨w.heap.size, 0, none⟩)] eg A0 c0 l0 i (w.alloc (.cells #[.func (.func 148) #[] #[]] 123)) (Kd.C_below hr0 hb1) hc0 hbig
    (by
      intro W x b hb hz
      have hcell : W.cell? ⟨w.heap.size, 0, none⟩ = some (.func (.func 148) #[] #[]) := (hb.cell (p := ⟨w.heap.size, 0, none⟩) (by simp)).trans (by simp)
      obtain ⟨b2, hq, hb2⟩ := Option.bind_eq_some_iff.mp hz
      obtain rfl : (!b2) = b := Option.some.inj hb2
      have hq' := Aside0.mk hq
      have hb' := Aside0.mk hb
      clear hb hz hb2 hq
      show Calls Tryz.prog 197 #[.int .u8 x, .pointer (some ⟨w.heap.size, 0, none⟩)] W _
      go_enter Tryz.func197, Tryz.ntmps197
      go_wp2_with (go_at_call 148; refine (impl_isToken_1.calls x b2 _ hq'.out).mono ?_; rintro e w' ⟨rfl, ⟨nd, rfl⟩⟩)
      go_ret
      exact ⟨rfl, by repeat (first | (with_reducible first | exact hb'.out | apply below_alloc | apply pw_below_drewN | apply below_drew1) | exact hb'.out)⟩)
    hi1
  have hb1' := Aside0.mk hb1
  clear hr0 hc0 hbig hi1 hb1 eg
  go_enter Tryz.func158, Tryz.ntmps158
  go_wp2_with (go_at_call 196; refine hcall.mono ?_; rintro e w' ⟨rfl, hb'⟩)
  go_ret
  exact ⟨rfl, below_then hb1'.out (by simp) hb'⟩
/-! ### xBytes_impl_isToken_1: function 120, with function 148 -/
def xBytes_impl_isToken_1.f (a0 : ByteArray) : Option (Bool) := if a0.size < 100000000 then xAll_u8_impl_isToken_1.f (bytesOf a0) else none
set_option maxHeartbeats 4000000 in
theorem xBytes_impl_isToken_1.calls (a0 : ByteArray) (r : Bool) (w : World) (h : xBytes_impl_isToken_1.f a0 = some r) :
    Calls Tryz.prog 120 #[.string a0, .func (.func 148) #[] #[]] w fun e w' => e = .returned (.bool r) ∧ Below w.heap.size w w' := by
  unfold xBytes_impl_isToken_1.f at h
  by_cases c : a0.size < 100000000
  · rw [if_pos c] at h
    have hcv := Lib.run_convert_string_bytes (P := Tryz.prog) w 9 120 5 a0 Tryz.underlying9 Tryz.underlying120 Tryz.underlying5
    have hC : (Kd.int .u8).C (Lib.bytesWorld w 5 a0) (some ⟨w.heap.size, 0, none⟩) (bytesOf a0).length (bytesOf a0) := by
      rw [bytesOf_length]
      exact Kd.C_of_reads (d := (0 : Int)) (bytes_reads w 5 a0 (by omega))
    have hbe := Lib.bytesWorld_below w 5 a0
    have hcall := xAll_u8_impl_isToken_1.calls (some ⟨w.heap.size, 0, none⟩) (grownCap w a0.size 0 5) (bytesOf a0) r (Lib.bytesWorld w 5 a0) hC (by rw [bytesOf_length]; exact grownCap_ge w a0.size 0 5) h
    rw [bytesOf_length] at hcall
    obtain ⟨W0, hW0⟩ : ∃ W0, W0 = Lib.bytesWorld w 5 a0 := ⟨_, rfl⟩
    rw [← hW0] at hcv hcall hbe
    have HB0 := Aside0.mk hbe
    clear hW0 hbe c h hC
    go_enter Tryz.func120, Tryz.ntmps120
    go_wp2_with (go_at_call 158; refine hcall.mono ?_; rintro e w' ⟨rfl, hb'⟩)
    go_ret
    exact ⟨rfl, below_step HB0.out hb'⟩
  · rw [if_neg c] at h; cases h

/-! ### impl_isToken: function 97 -/
def impl_isToken.f (a0 : ByteArray) : Option (Bool) := (impl_within.f (a0.size : Int) 1 60).bind fun t318 => (if t318 = true then ((xBytes_impl_isToken_1.f a0).bind fun t319 => (some t319)) else (some false))
set_option maxHeartbeats 8000000 in
set_option maxRecDepth 100000 in
theorem impl_isToken.calls (a0 : ByteArray) (r : Bool) (w : World) (h : impl_isToken.f a0 = some r) :
  Calls Tryz.prog 97 #[.string a0] w fun e w' => e = .returned (.bool r) ∧ Below w.heap.size w w' := by
 have HB := Aside0.mk (Below.refl w.heap.size w)
 have H := h
 unfold impl_isToken.f at H
 clear h
 replace H := mb_ H
 obtain ⟨t318, A2, H⟩ := H
 by_cases c3 : t318 = true
 ·subst c3
  rw [if_pos rfl] at H
  replace H := mb_ H
  obtain ⟨t319, A4, H⟩ := H
  obtain rfl := Option.some.inj H
  go_enter Tryz.func97, Tryz.ntmps97
  go_wp2_with (first | ((with_reducible refine gc_ 119 ?_); refine xgl_ (some 5) Tryz.func119 #[.int .i64 (a0.size : Int), .int .i64 1, .int .i64 60] ?_; (with_reducible refine (impl_within.calls (a0.size : Int) 1 60 true _ A2.out).mono ?_); rintro e w' ⟨rfl, ⟨nd, rfl⟩⟩; refine ⟨_, rfl, ?_⟩) | (go_at_call 120; (with_reducible refine (xBytes_impl_isToken_1.calls a0  t319 _ A4.out).mono ?_); rintro e w5 ⟨rfl, hb⟩; replace HB := xws_ HB hb; (try clear hb)))
  go_ret
  exact ⟨mf_, xw_ HB⟩
 ·replace c3 := Bool.eq_false_iff.mpr c3
  subst c3
  rw [if_neg (show ¬ (false = true) by decide)] at H
  obtain rfl := Option.some.inj H
  go_enter Tryz.func97, Tryz.ntmps97
  go_wp2_with (first | ((with_reducible refine gc_ 119 ?_); refine xgl_ (some 5) Tryz.func119 #[.int .i64 (a0.size : Int), .int .i64 1, .int .i64 60] ?_; (with_reducible refine (impl_within.calls (a0.size : Int) 1 60 false _ A2.out).mono ?_); rintro e w' ⟨rfl, ⟨nd, rfl⟩⟩; refine ⟨_, rfl, ?_⟩))
  go_ret
  exact ⟨mf_, xw_ HB⟩

/-! ### impl_isTarget_1: function 167 -/
def impl_isTarget_1.f (a0 : Int) : Option (Bool) := if a0 ≥ 33 then (some (decide (a0 ≤ 126))) else (some false)
set_option maxHeartbeats 8000000 in
set_option maxRecDepth 100000 in
theorem impl_isTarget_1.calls (a0 : Int) (r : Bool) (w : World) (h : impl_isTarget_1.f a0 = some r) :
  Calls Tryz.prog 167 #[.int .u8 a0] w fun e w' => e = .returned (.bool r) ∧ Drawn0 w w' := by
 have H := h
 unfold impl_isTarget_1.f at H
 clear h
 by_cases c2 : a0 ≥ 33
 ·rw [if_pos c2] at H
  have c2b0 : decide (33 ≤ a0) = true := decide_eq_true c2
  clear c2
  obtain rfl := Option.some.inj H
  go_enter Tryz.func167, Tryz.ntmps167
  go_wp2
  go_ret
  exact ⟨by first | rfl | (simp; done) | (simp [*]; done), by repeat (first | exact Drawn0.refl _ | apply Drawn0.step)⟩
 ·rw [if_neg c2] at H
  have c2b0 : decide (33 ≤ a0) = false := decide_eq_false c2
  clear c2
  obtain rfl := Option.some.inj H
  go_enter Tryz.func167, Tryz.ntmps167
  go_wp2
  go_ret
  exact ⟨by first | rfl | (simp; done) | (simp [*]; done), by repeat (first | exact Drawn0.refl _ | apply Drawn0.step)⟩

/-! ### xAll_u8_impl_isTarget_1: function 158, with function 167 -/
def xAll_u8_impl_isTarget_1.z (x : Int) : Option Bool := (impl_isTarget_1.f x).bind fun b => some (!b)
def xAll_u8_impl_isTarget_1.f (l0 : List Int) : Option (Bool) := if l0.length < 9223372036854775807 then ((idxO (xAll_u8_impl_isTarget_1.z) l0 0).bind fun i => some (!decide (i ≥ 0))) else none
set_option maxHeartbeats 8000000 in
set_option maxRecDepth 100000 in
theorem xAll_u8_impl_isTarget_1.calls (A0 : Option Addr) (c0 : Nat) (l0 : List Int) (r : Bool) (w : World) (hr0 : Kd.C (Kd.int .u8) w A0 l0.length l0) (hc0 : l0.length ≤ c0) (h : xAll_u8_impl_isTarget_1.f l0 = some r) :
    Calls Tryz.prog 158 #[.slice A0 l0.length c0, .func (.func 167) #[] #[]] w fun e w' => e = .returned (.bool r) ∧ Below w.heap.size w w' := by
  have hbig : l0.length < 9223372036854775807 := by
    by_cases c : l0.length < 9223372036854775807
    · exact c
    · unfold xAll_u8_impl_isTarget_1.f at h; rw [if_neg c] at h; cases h
  have h1 : ((idxO (xAll_u8_impl_isTarget_1.z) l0 0).bind fun i => some (!decide (i ≥ 0))) = some r := by unfold xAll_u8_impl_isTarget_1.f at h; rw [if_pos hbig] at h; exact h
  clear h
  obtain ⟨i, hi1, hi2⟩ := Option.bind_eq_some_iff.mp h1
  clear h1
  obtain rfl := Option.some.inj hi2
  clear hi2
  have eg : ∀ args w, (callFunc 197 args).run Tryz.prog w = .ok (.enter 197 args) w := enters_of Tryz.func197 (by kernel_rfl) rfl
  have hb1 : Below w.heap.size w (w.alloc (.cells #[.func (.func 167) #[] #[]] 123)) := (Below.refl _ w).alloc (Nat.le_refl _) _
  have hcall := xContainsFunc_u8 (xAll_u8_impl_isTarget_1.z) 197 #[.pointer (some ⟨w.heap.size, 0, none⟩)] eg A0 c0 l0 i (w.alloc (.cells #[.func (.func 167) #[] #[]] 123)) (Kd.C_below hr0 hb1) hc0 hbig
    (by
      intro W x b hb hz
      have hcell : W.cell? ⟨w.heap.size, 0, none⟩ = some (.func (.func 167) #[] #[]) := (hb.cell (p := ⟨w.heap.size, 0, none⟩) (by simp)).trans (by simp)
      obtain ⟨b2, hq, hb2⟩ := Option.bind_eq_some_iff.mp hz
      obtain rfl : (!b2) = b := Option.some.inj hb2
      have hq' := Aside0.mk hq
      have hb' := Aside0.mk hb
      clear hb hz hb2 hq
      show Calls Tryz.prog 197 #[.int .u8 x, .pointer (some ⟨w.heap.size, 0, none⟩)] W _
      go_enter Tryz.func197, Tryz.ntmps197
      go_wp2_with (go_at_call 167; refine (impl_isTarget_1.calls x b2 _ hq'.out).mono ?_; rintro e w' ⟨rfl, ⟨nd, rfl⟩⟩)
      go_ret
      exact ⟨rfl, by repeat (first | (with_reducible first | exact hb'.out | apply below_alloc | apply pw_below_drewN | apply below_drew1) | exact hb'.out)⟩)
    hi1
  have hb1' := Aside0.mk hb1
  clear hr0 hc0 hbig hi1 hb1 eg
  go_enter Tryz.func158, Tryz.ntmps158
  go_wp2_with (go_at_call 196; refine hcall.mono ?_; rintro e w' ⟨rfl, hb'⟩)
  go_ret
  exact ⟨rfl, below_then hb1'.out (by simp) hb'⟩
/-! ### xBytes_impl_isTarget_1: function 120, with function 167 -/
def xBytes_impl_isTarget_1.f (a0 : ByteArray) : Option (Bool) := if a0.size < 100000000 then xAll_u8_impl_isTarget_1.f (bytesOf a0) else none
set_option maxHeartbeats 4000000 in
theorem xBytes_impl_isTarget_1.calls (a0 : ByteArray) (r : Bool) (w : World) (h : xBytes_impl_isTarget_1.f a0 = some r) :
    Calls Tryz.prog 120 #[.string a0, .func (.func 167) #[] #[]] w fun e w' => e = .returned (.bool r) ∧ Below w.heap.size w w' := by
  unfold xBytes_impl_isTarget_1.f at h
  by_cases c : a0.size < 100000000
  · rw [if_pos c] at h
    have hcv := Lib.run_convert_string_bytes (P := Tryz.prog) w 9 120 5 a0 Tryz.underlying9 Tryz.underlying120 Tryz.underlying5
    have hC : (Kd.int .u8).C (Lib.bytesWorld w 5 a0) (some ⟨w.heap.size, 0, none⟩) (bytesOf a0).length (bytesOf a0) := by
      rw [bytesOf_length]
      exact Kd.C_of_reads (d := (0 : Int)) (bytes_reads w 5 a0 (by omega))
    have hbe := Lib.bytesWorld_below w 5 a0
    have hcall := xAll_u8_impl_isTarget_1.calls (some ⟨w.heap.size, 0, none⟩) (grownCap w a0.size 0 5) (bytesOf a0) r (Lib.bytesWorld w 5 a0) hC (by rw [bytesOf_length]; exact grownCap_ge w a0.size 0 5) h
    rw [bytesOf_length] at hcall
    obtain ⟨W0, hW0⟩ : ∃ W0, W0 = Lib.bytesWorld w 5 a0 := ⟨_, rfl⟩
    rw [← hW0] at hcv hcall hbe
    have HB0 := Aside0.mk hbe
    clear hW0 hbe c h hC
    go_enter Tryz.func120, Tryz.ntmps120
    go_wp2_with (go_at_call 158; refine hcall.mono ?_; rintro e w' ⟨rfl, hb'⟩)
    go_ret
    exact ⟨rfl, below_step HB0.out hb'⟩
  · rw [if_neg c] at h; cases h

/-! ### impl_isTarget: function 129 -/
def impl_isTarget.f (a0 : ByteArray) : Option (Bool) := (impl_within.f (a0.size : Int) 1 200).bind fun t320 => (if t320 = true then ((xBytes_impl_isTarget_1.f a0).bind fun t321 => (some t321)) else (some false))
set_option maxHeartbeats 8000000 in
set_option maxRecDepth 100000 in
theorem impl_isTarget.calls (a0 : ByteArray) (r : Bool) (w : World) (h : impl_isTarget.f a0 = some r) :
  Calls Tryz.prog 129 #[.string a0] w fun e w' => e = .returned (.bool r) ∧ Below w.heap.size w w' := by
 have HB := Aside0.mk (Below.refl w.heap.size w)
 have H := h
 unfold impl_isTarget.f at H
 clear h
 replace H := mb_ H
 obtain ⟨t320, A2, H⟩ := H
 by_cases c3 : t320 = true
 ·subst c3
  rw [if_pos rfl] at H
  replace H := mb_ H
  obtain ⟨t321, A4, H⟩ := H
  obtain rfl := Option.some.inj H
  go_enter Tryz.func129, Tryz.ntmps129
  go_wp2_with (first | ((with_reducible refine gc_ 119 ?_); refine xgl_ (some 5) Tryz.func119 #[.int .i64 (a0.size : Int), .int .i64 1, .int .i64 200] ?_; (with_reducible refine (impl_within.calls (a0.size : Int) 1 200 true _ A2.out).mono ?_); rintro e w' ⟨rfl, ⟨nd, rfl⟩⟩; refine ⟨_, rfl, ?_⟩) | (go_at_call 120; (with_reducible refine (xBytes_impl_isTarget_1.calls a0  t321 _ A4.out).mono ?_); rintro e w5 ⟨rfl, hb⟩; replace HB := xws_ HB hb; (try clear hb)))
  go_ret
  exact ⟨mf_, xw_ HB⟩
 ·replace c3 := Bool.eq_false_iff.mpr c3
  subst c3
  rw [if_neg (show ¬ (false = true) by decide)] at H
  obtain rfl := Option.some.inj H
  go_enter Tryz.func129, Tryz.ntmps129
  go_wp2_with (first | ((with_reducible refine gc_ 119 ?_); refine xgl_ (some 5) Tryz.func119 #[.int .i64 (a0.size : Int), .int .i64 1, .int .i64 200] ?_; (with_reducible refine (impl_within.calls (a0.size : Int) 1 200 false _ A2.out).mono ?_); rintro e w' ⟨rfl, ⟨nd, rfl⟩⟩; refine ⟨_, rfl, ?_⟩))
  go_ret
  exact ⟨mf_, xw_ HB⟩

/-! ### impl_isRequestLine: function 77 -/
def impl_isRequestLine.f (a0_0 : ByteArray) (a0_1 : ByteArray) (l0_2 : List (S105)) (a0_3 : ByteArray) : Option (Bool) := (impl_isToken.f a0_0).bind fun t323 => (if t323 = true then (if (a0_0.size : Int) ≤ 10 then ((impl_isTarget.f a0_1).bind fun t324 => (some t324)) else (some false)) else (some false))
set_option maxHeartbeats 8000000 in
set_option maxRecDepth 100000 in
theorem impl_isRequestLine.calls (a0_0 : ByteArray) (a0_1 : ByteArray) (A0_2 : Option Addr) (c0_2 : Nat) (l0_2 : List (S105)) (a0_3 : ByteArray) (r : Bool) (w : World) (hr0_2 : Kd.C k105 w A0_2 l0_2.length l0_2) (hc0_2 : l0_2.length ≤ c0_2) (h : impl_isRequestLine.f a0_0 a0_1 l0_2 a0_3 = some r) :
  Calls Tryz.prog 77 #[.agg #[.string a0_0, .string a0_1, .slice A0_2 l0_2.length c0_2, .string a0_3]] w fun e w' => e = .returned (.bool r) ∧ Below w.heap.size w w' := by
 have hu35 := Tryz.underlying35
 have HR0_2 := Aside0.mk hr0_2
 have HC0_2 := Aside0.mk hc0_2
 clear hr0_2 hc0_2
 have HB := Aside0.mk (Below.refl w.heap.size w)
 have H := h
 unfold impl_isRequestLine.f at H
 clear h
 replace H := mb_ H
 obtain ⟨t323, A2, H⟩ := H
 by_cases c3 : t323 = true
 ·subst c3
  rw [if_pos rfl] at H
  by_cases c4 : (a0_0.size : Int) ≤ 10
  ·rw [if_pos c4] at H
   have c4b0 := decide_eq_true c4
   have c4b1 : decide (a0_0.size ≤ 10) = true := decide_eq_true (by omega)
   clear c4
   replace H := mb_ H
   obtain ⟨t324, A5, H⟩ := H
   obtain rfl := Option.some.inj H
   go_enter Tryz.func77, Tryz.ntmps77
   go_wp2_with (first | ((with_reducible refine gd_ 1 ?_); (try (refine gate_guard (by rfl) ?_; dsimp only)); refine xbe_ (N := 1) (cs := #[.string a0_0, .string a0_1, .slice A0_2 l0_2.length c0_2, .string a0_3]) (t := 35) ?_; intro gb322 hg w6 hbox hb; have BK322 := Aside0.mk (hbox); have GE322 := xge_ HB hg; replace HB := xws_ HB hb; clear hb hbox hg; have ⟨_, _, _, _, _, _, _, _⟩ := c4_ BK322) | ((with_reducible refine gc_ 97 ?_); refine xgl_ (some 5) Tryz.func97 #[.string a0_0] ?_; (with_reducible refine (impl_isToken.calls a0_0 true _ A2.out).mono ?_); rintro e w8 ⟨rfl, hb⟩; refine ⟨_, rfl, ?_⟩; replace BK322 := xbb_ BK322 hb; replace HB := xws_ HB hb; (try clear hb); have ⟨_, _, _, _, _, _, _, _⟩ := c4_ BK322) | (go_at_call 129; (with_reducible refine (impl_isTarget.calls a0_1 t324 _ A5.out).mono ?_); rintro e w10 ⟨rfl, hb⟩; replace BK322 := xbb_ BK322 hb; replace HB := xws_ HB hb; (try clear hb)))
   go_ret
   exact ⟨mf_, xw_ HB⟩
  ·rw [if_neg c4] at H
   have c4b0 := decide_eq_false c4
   have c4b1 : decide (a0_0.size ≤ 10) = false := decide_eq_false (by omega)
   clear c4
   obtain rfl := Option.some.inj H
   go_enter Tryz.func77, Tryz.ntmps77
   go_wp2_with (first | ((with_reducible refine gd_ 1 ?_); (try (refine gate_guard (by rfl) ?_; dsimp only)); refine xbe_ (N := 1) (cs := #[.string a0_0, .string a0_1, .slice A0_2 l0_2.length c0_2, .string a0_3]) (t := 35) ?_; intro gb322 hg w11 hbox hb; have BK322 := Aside0.mk (hbox); have GE322 := xge_ HB hg; replace HB := xws_ HB hb; clear hb hbox hg; have ⟨_, _, _, _, _, _, _, _⟩ := c4_ BK322) | ((with_reducible refine gc_ 97 ?_); refine xgl_ (some 5) Tryz.func97 #[.string a0_0] ?_; (with_reducible refine (impl_isToken.calls a0_0 true _ A2.out).mono ?_); rintro e w13 ⟨rfl, hb⟩; refine ⟨_, rfl, ?_⟩; replace BK322 := xbb_ BK322 hb; replace HB := xws_ HB hb; (try clear hb); have ⟨_, _, _, _, _, _, _, _⟩ := c4_ BK322))
   go_ret
   exact ⟨mf_, xw_ HB⟩
 ·replace c3 := Bool.eq_false_iff.mpr c3
  subst c3
  rw [if_neg (show ¬ (false = true) by decide)] at H
  obtain rfl := Option.some.inj H
  go_enter Tryz.func77, Tryz.ntmps77
  go_wp2_with (first | ((with_reducible refine gd_ 1 ?_); (try (refine gate_guard (by rfl) ?_; dsimp only)); refine xbe_ (N := 1) (cs := #[.string a0_0, .string a0_1, .slice A0_2 l0_2.length c0_2, .string a0_3]) (t := 35) ?_; intro gb322 hg w15 hbox hb; have BK322 := Aside0.mk (hbox); have GE322 := xge_ HB hg; replace HB := xws_ HB hb; clear hb hbox hg; have ⟨_, _, _, _, _, _, _, _⟩ := c4_ BK322) | ((with_reducible refine gc_ 97 ?_); refine xgl_ (some 5) Tryz.func97 #[.string a0_0] ?_; (with_reducible refine (impl_isToken.calls a0_0 false _ A2.out).mono ?_); rintro e w17 ⟨rfl, hb⟩; refine ⟨_, rfl, ?_⟩; replace BK322 := xbb_ BK322 hb; replace HB := xws_ HB hb; (try clear hb)))
  go_ret
  exact ⟨mf_, xw_ HB⟩

/-! ### impl_isPrinted_1: function 172 -/
def impl_isPrinted_1.f (a0 : Int) : Option (Bool) := if a0 ≥ 32 then (some (decide (a0 ≤ 126))) else (some false)
set_option maxHeartbeats 8000000 in
set_option maxRecDepth 100000 in
theorem impl_isPrinted_1.calls (a0 : Int) (r : Bool) (w : World) (h : impl_isPrinted_1.f a0 = some r) :
  Calls Tryz.prog 172 #[.int .u8 a0] w fun e w' => e = .returned (.bool r) ∧ Drawn0 w w' := by
 have H := h
 unfold impl_isPrinted_1.f at H
 clear h
 by_cases c2 : a0 ≥ 32
 ·rw [if_pos c2] at H
  have c2b0 : decide (32 ≤ a0) = true := decide_eq_true c2
  clear c2
  obtain rfl := Option.some.inj H
  go_enter Tryz.func172, Tryz.ntmps172
  go_wp2
  go_ret
  exact ⟨by first | rfl | (simp; done) | (simp [*]; done), by repeat (first | exact Drawn0.refl _ | apply Drawn0.step)⟩
 ·rw [if_neg c2] at H
  have c2b0 : decide (32 ≤ a0) = false := decide_eq_false c2
  clear c2
  obtain rfl := Option.some.inj H
  go_enter Tryz.func172, Tryz.ntmps172
  go_wp2
  go_ret
  exact ⟨by first | rfl | (simp; done) | (simp [*]; done), by repeat (first | exact Drawn0.refl _ | apply Drawn0.step)⟩

/-! ### xAll_u8_impl_isPrinted_1: function 158, with function 172 -/
def xAll_u8_impl_isPrinted_1.z (x : Int) : Option Bool := (impl_isPrinted_1.f x).bind fun b => some (!b)
def xAll_u8_impl_isPrinted_1.f (l0 : List Int) : Option (Bool) := if l0.length < 9223372036854775807 then ((idxO (xAll_u8_impl_isPrinted_1.z) l0 0).bind fun i => some (!decide (i ≥ 0))) else none
set_option maxHeartbeats 8000000 in
set_option maxRecDepth 100000 in
theorem xAll_u8_impl_isPrinted_1.calls (A0 : Option Addr) (c0 : Nat) (l0 : List Int) (r : Bool) (w : World) (hr0 : Kd.C (Kd.int .u8) w A0 l0.length l0) (hc0 : l0.length ≤ c0) (h : xAll_u8_impl_isPrinted_1.f l0 = some r) :
    Calls Tryz.prog 158 #[.slice A0 l0.length c0, .func (.func 172) #[] #[]] w fun e w' => e = .returned (.bool r) ∧ Below w.heap.size w w' := by
  have hbig : l0.length < 9223372036854775807 := by
    by_cases c : l0.length < 9223372036854775807
    · exact c
    · unfold xAll_u8_impl_isPrinted_1.f at h; rw [if_neg c] at h; cases h
  have h1 : ((idxO (xAll_u8_impl_isPrinted_1.z) l0 0).bind fun i => some (!decide (i ≥ 0))) = some r := by unfold xAll_u8_impl_isPrinted_1.f at h; rw [if_pos hbig] at h; exact h
  clear h
  obtain ⟨i, hi1, hi2⟩ := Option.bind_eq_some_iff.mp h1
  clear h1
  obtain rfl := Option.some.inj hi2
  clear hi2
  have eg : ∀ args w, (callFunc 197 args).run Tryz.prog w = .ok (.enter 197 args) w := enters_of Tryz.func197 (by kernel_rfl) rfl
  have hb1 : Below w.heap.size w (w.alloc (.cells #[.func (.func 172) #[] #[]] 123)) := (Below.refl _ w).alloc (Nat.le_refl _) _
  have hcall := xContainsFunc_u8 (xAll_u8_impl_isPrinted_1.z) 197 #[.pointer (some ⟨w.heap.size, 0, none⟩)] eg A0 c0 l0 i (w.alloc (.cells #[.func (.func 172) #[] #[]] 123)) (Kd.C_below hr0 hb1) hc0 hbig
    (by
      intro W x b hb hz
      have hcell : W.cell? ⟨w.heap.size, 0, none⟩ = some (.func (.func 172) #[] #[]) := (hb.cell (p := ⟨w.heap.size, 0, none⟩) (by simp)).trans (by simp)
      obtain ⟨b2, hq, hb2⟩ := Option.bind_eq_some_iff.mp hz
      obtain rfl : (!b2) = b := Option.some.inj hb2
      have hq' := Aside0.mk hq
      have hb' := Aside0.mk hb
      clear hb hz hb2 hq
      show Calls Tryz.prog 197 #[.int .u8 x, .pointer (some ⟨w.heap.size, 0, none⟩)] W _
      go_enter Tryz.func197, Tryz.ntmps197
      go_wp2_with (go_at_call 172; refine (impl_isPrinted_1.calls x b2 _ hq'.out).mono ?_; rintro e w' ⟨rfl, ⟨nd, rfl⟩⟩)
      go_ret
      exact ⟨rfl, by repeat (first | (with_reducible first | exact hb'.out | apply below_alloc | apply pw_below_drewN | apply below_drew1) | exact hb'.out)⟩)
    hi1
  have hb1' := Aside0.mk hb1
  clear hr0 hc0 hbig hi1 hb1 eg
  go_enter Tryz.func158, Tryz.ntmps158
  go_wp2_with (go_at_call 196; refine hcall.mono ?_; rintro e w' ⟨rfl, hb'⟩)
  go_ret
  exact ⟨rfl, below_then hb1'.out (by simp) hb'⟩
/-! ### xBytes_impl_isPrinted_1: function 120, with function 172 -/
def xBytes_impl_isPrinted_1.f (a0 : ByteArray) : Option (Bool) := if a0.size < 100000000 then xAll_u8_impl_isPrinted_1.f (bytesOf a0) else none
set_option maxHeartbeats 4000000 in
theorem xBytes_impl_isPrinted_1.calls (a0 : ByteArray) (r : Bool) (w : World) (h : xBytes_impl_isPrinted_1.f a0 = some r) :
    Calls Tryz.prog 120 #[.string a0, .func (.func 172) #[] #[]] w fun e w' => e = .returned (.bool r) ∧ Below w.heap.size w w' := by
  unfold xBytes_impl_isPrinted_1.f at h
  by_cases c : a0.size < 100000000
  · rw [if_pos c] at h
    have hcv := Lib.run_convert_string_bytes (P := Tryz.prog) w 9 120 5 a0 Tryz.underlying9 Tryz.underlying120 Tryz.underlying5
    have hC : (Kd.int .u8).C (Lib.bytesWorld w 5 a0) (some ⟨w.heap.size, 0, none⟩) (bytesOf a0).length (bytesOf a0) := by
      rw [bytesOf_length]
      exact Kd.C_of_reads (d := (0 : Int)) (bytes_reads w 5 a0 (by omega))
    have hbe := Lib.bytesWorld_below w 5 a0
    have hcall := xAll_u8_impl_isPrinted_1.calls (some ⟨w.heap.size, 0, none⟩) (grownCap w a0.size 0 5) (bytesOf a0) r (Lib.bytesWorld w 5 a0) hC (by rw [bytesOf_length]; exact grownCap_ge w a0.size 0 5) h
    rw [bytesOf_length] at hcall
    obtain ⟨W0, hW0⟩ : ∃ W0, W0 = Lib.bytesWorld w 5 a0 := ⟨_, rfl⟩
    rw [← hW0] at hcv hcall hbe
    have HB0 := Aside0.mk hbe
    clear hW0 hbe c h hC
    go_enter Tryz.func120, Tryz.ntmps120
    go_wp2_with (go_at_call 158; refine hcall.mono ?_; rintro e w' ⟨rfl, hb'⟩)
    go_ret
    exact ⟨rfl, below_step HB0.out hb'⟩
  · rw [if_neg c] at h; cases h

/-! ### impl_isPrinted: function 141 -/
def impl_isPrinted.f (a0 : ByteArray) (a1 : Int) : Option (Bool) := if (a0.size : Int) ≤ a1 then ((xBytes_impl_isPrinted_1.f a0).bind fun t325 => (some t325)) else (some false)
set_option maxHeartbeats 8000000 in
set_option maxRecDepth 100000 in
theorem impl_isPrinted.calls (a0 : ByteArray) (a1 : Int) (r : Bool) (w : World) (h : impl_isPrinted.f a0 a1 = some r) :
  Calls Tryz.prog 141 #[.string a0, .int .i64 a1] w fun e w' => e = .returned (.bool r) ∧ Below w.heap.size w w' := by
 have HB := Aside0.mk (Below.refl w.heap.size w)
 have H := h
 unfold impl_isPrinted.f at H
 clear h
 by_cases c3 : (a0.size : Int) ≤ a1
 ·rw [if_pos c3] at H
  have c3b0 := decide_eq_true c3
  clear c3
  replace H := mb_ H
  obtain ⟨t325, A4, H⟩ := H
  obtain rfl := Option.some.inj H
  go_enter Tryz.func141, Tryz.ntmps141
  go_wp2_with (first | (go_at_call 120; (with_reducible refine (xBytes_impl_isPrinted_1.calls a0  t325 _ A4.out).mono ?_); rintro e w5 ⟨rfl, hb⟩; replace HB := xws_ HB hb; (try clear hb)))
  go_ret
  exact ⟨mf_, xw_ HB⟩
 ·rw [if_neg c3] at H
  have c3b0 := decide_eq_false c3
  clear c3
  obtain rfl := Option.some.inj H
  go_enter Tryz.func141, Tryz.ntmps141
  go_wp2
  go_ret
  exact ⟨mf_, xw_ HB⟩

/-! ### strings_trimLeftByte: function 173 -/
def strings_trimLeftByte.l0 : Nat → ByteArray → Int → Option (ByteArray)
 | 0, _, _ => none
 | k + 1, x0, x1 => if (x0.size : Int) > 0 then (if 0 < (x0.size : Int) then (if (bt x0 0) = x1 then (if 1 ≤ (x0.size : Int) then (strings_trimLeftByte.l0 k (x0.extract 1 x0.size) x1) else (none)) else (some x0)) else (none)) else (some x0)
def strings_trimLeftByte.f (k : Nat) (a0 : ByteArray) (a1 : Int) : Option (ByteArray) := strings_trimLeftByte.l0 k a0 a1
set_option maxHeartbeats 8000000 in
set_option maxRecDepth 100000 in
theorem strings_trimLeftByte.calls (k : Nat) (a0 : ByteArray) (a1 : Int) (r : ByteArray) (w : World) (h : strings_trimLeftByte.f k a0 a1 = some r) :
  Calls Tryz.prog 173 #[.string a0, .int .u8 a1] w fun e w' => e = .returned (.string r) ∧ Drawn0 w w' := by
 have H := h
 unfold strings_trimLeftByte.f at H
 clear h
 have H' := Aside0.mk H
 clear H
 go_enter Tryz.func173, Tryz.ntmps173
 go_wp2
 go_loopg [0] k (fun kq v0 w' => ∃ (x0_1 : ByteArray), v0 = .string x0_1 ∧ Aside0 (strings_trimLeftByte.l0 kq x0_1 a1 = some r) ∧ Aside0 (kq ≤ k) ∧ Drawn0 w w')
 case atStart => exact ⟨(a0), me_, H', ⟨Nat.le_refl _⟩, by repeat (first | exact Drawn0.refl _ | apply Drawn0.step)⟩
 case round =>
  clear H'
  obtain ⟨x0_1, rfl, HA, HK1, ⟨m1, rfl⟩⟩ := hrel
  cases gk with
  | zero => exact absurd HA.out (by simp [strings_trimLeftByte.l0])
  | succ k1 =>
   have H := HA.out
   clear HA
   simp only [strings_trimLeftByte.l0] at H
   by_cases c3 : (x0_1.size : Int) > 0
   ·rw [if_pos c3] at H
    have c3b0 : decide (0 < (x0_1.size : Int)) = true := decide_eq_true c3
    have c3b1 : decide (0 < x0_1.size) = true := decide_eq_true (by omega)
    clear c3
    replace H := mi_ H
    obtain ⟨c4, H⟩ := H
    have c4b0 := decide_eq_true c4
    have c4b1 : decide (0 < x0_1.size) = true := decide_eq_true (by omega)
    clear c4
    by_cases c6 : (bt x0_1 0) = a1
    ·rw [if_pos c6] at H
     have c6b0 : ((bt x0_1 0) == a1) = true := beq_iff_eq.mpr c6
     have c6b1 : ((bt x0_1 0) != a1) = false := bne_eq_false_iff_eq.mpr c6
     clear c6
     replace H := mi_ H
     obtain ⟨c7, H⟩ := H
     have c7b0 := eq_true c7
     have c7b1 := decide_eq_true c7
     clear c7
     have H' := Aside0.mk H
     clear H
     have p5 : 0 ≤ (0 : Int) := (by omega)
     have q5 : 0 < x0_1.size := (by have : (0 : Int) < (x0_1.size : Int) := md_; omega)
     have hx5 : ∀ h : 0 < x0_1.size, ((x0_1[0]'h).toNat : Int) = bt x0_1 0 := bt_at x0_1 0
     clear p5
     have qi5 : (0 < (x0_1.size : Int)) = True := eq_true (md_)
     replace q5 := eq_true q5
     go_wp2
     go_roundg k1
     case measure => have := HK1.out; omega
     case rel => exact ⟨(x0_1.extract 1 x0_1.size), me_, H', ⟨by have := HK1.out; omega⟩, by repeat (first | exact Drawn0.refl _ | apply Drawn0.step)⟩
    ·rw [if_neg c6] at H
     have c6b0 : ((bt x0_1 0) == a1) = false := beq_eq_false_iff_ne.mpr c6
     have c6b1 : ((bt x0_1 0) != a1) = true := bne_iff_ne.mpr c6
     obtain rfl := Option.some.inj H
     have p5 : 0 ≤ (0 : Int) := (by omega)
     have q5 : 0 < x0_1.size := (by have : (0 : Int) < (x0_1.size : Int) := md_; omega)
     have hx5 : ∀ h : 0 < x0_1.size, ((x0_1[0]'h).toNat : Int) = bt x0_1 0 := bt_at x0_1 0
     clear p5
     have qi5 : (0 < (x0_1.size : Int)) = True := eq_true (md_)
     replace q5 := eq_true q5
     go_wp2
     go_ret
     exact ⟨by first | rfl | (simp; done) | (simp [*]; done), by repeat (first | exact Drawn0.refl _ | apply Drawn0.step)⟩
   ·rw [if_neg c3] at H
    have c3b0 : decide (0 < (x0_1.size : Int)) = false := decide_eq_false c3
    have c3b1 : decide (0 < x0_1.size) = false := decide_eq_false (by omega)
    clear c3
    obtain rfl := Option.some.inj H
    go_wp2
    go_ret
    exact ⟨by first | rfl | (simp; done) | (simp [*]; done), by repeat (first | exact Drawn0.refl _ | apply Drawn0.step)⟩

/-! ### strings_trimRightByte: function 174 -/
def strings_trimRightByte.l0 : Nat → ByteArray → Int → Option (ByteArray)
 | 0, _, _ => none
 | k + 1, x0, x1 => if (x0.size : Int) > 0 then (if 0 ≤ (wrap64 ((x0.size : Int) - 1)) then (if (wrap64 ((x0.size : Int) - 1)) < (x0.size : Int) then (if (bt x0 (wrap64 ((x0.size : Int) - 1))) = x1 then (if (wrap64 ((x0.size : Int) - 1)) ≤ (x0.size : Int) then (strings_trimRightByte.l0 k (x0.extract 0 ((wrap64 ((x0.size : Int) - 1)) : Int).toNat) x1) else (none)) else (some x0)) else (none)) else (none)) else (some x0)
def strings_trimRightByte.f (k : Nat) (a0 : ByteArray) (a1 : Int) : Option (ByteArray) := strings_trimRightByte.l0 k a0 a1
set_option maxHeartbeats 8000000 in
set_option maxRecDepth 100000 in
theorem strings_trimRightByte.calls (k : Nat) (a0 : ByteArray) (a1 : Int) (r : ByteArray) (w : World) (h : strings_trimRightByte.f k a0 a1 = some r) :
  Calls Tryz.prog 174 #[.string a0, .int .u8 a1] w fun e w' => e = .returned (.string r) ∧ Drawn0 w w' := by
 have H := h
 unfold strings_trimRightByte.f at H
 clear h
 have H' := Aside0.mk H
 clear H
 go_enter Tryz.func174, Tryz.ntmps174
 go_wp2
 go_loopg [0] k (fun kq v0 w' => ∃ (x0_1 : ByteArray), v0 = .string x0_1 ∧ Aside0 (strings_trimRightByte.l0 kq x0_1 a1 = some r) ∧ Aside0 (kq ≤ k) ∧ Drawn0 w w')
 case atStart => exact ⟨(a0), me_, H', ⟨Nat.le_refl _⟩, by repeat (first | exact Drawn0.refl _ | apply Drawn0.step)⟩
 case round =>
  clear H'
  obtain ⟨x0_1, rfl, HA, HK1, ⟨m1, rfl⟩⟩ := hrel
  cases gk with
  | zero => exact absurd HA.out (by simp [strings_trimRightByte.l0])
  | succ k1 =>
   have H := HA.out
   clear HA
   simp only [strings_trimRightByte.l0] at H
   by_cases c3 : (x0_1.size : Int) > 0
   ·rw [if_pos c3] at H
    have c3b0 : decide (0 < (x0_1.size : Int)) = true := decide_eq_true c3
    have c3b1 : decide (0 < x0_1.size) = true := decide_eq_true (by omega)
    clear c3
    obtain ⟨ji4, hji4⟩ : ∃ j_ : Int, (wrap64 ((x0_1.size : Int) - 1)) = j_ := ⟨_, rfl⟩
    replace H : (if 0 ≤ (ji4) then (if (ji4) < (x0_1.size : Int) then (if (bt x0_1 (ji4)) = a1 then (if (ji4) ≤ (x0_1.size : Int) then (strings_trimRightByte.l0 k1 (x0_1.extract 0 ((ji4) : Int).toNat) a1) else (none)) else (some x0_1)) else (none)) else (none)) = some r := by first | (rw [hji4] at H; exact H) | (simp only [hji4] at H ⊢; exact H)
    have hji4w : (IntKind.i64.wrap ((x0_1.size : Int) - 1)) = ji4 := (i64_w _).trans hji4
    replace H := mi_ H
    obtain ⟨c5, H⟩ := H
    have c5b0 := decide_eq_true c5
    clear c5
    replace H := mi_ H
    obtain ⟨c6, H⟩ := H
    have c6b0 := decide_eq_true c6
    clear c6
    by_cases c8 : (bt x0_1 (ji4)) = a1
    ·rw [if_pos c8] at H
     have c8b0 : ((bt x0_1 (ji4)) == a1) = true := beq_iff_eq.mpr c8
     have c8b1 : ((bt x0_1 (ji4)) != a1) = false := bne_eq_false_iff_eq.mpr c8
     clear c8
     have c9b0 := eq_true (md_ : 0 ≤ (ji4))
     replace H := mi_ H
     obtain ⟨c10, H⟩ := H
     have c10b0 := eq_true c10
     have c10b1 := decide_eq_true c10
     clear c10
     have H' := Aside0.mk H
     clear H
     have p7 : 0 ≤ ((ji4) : Int) := md_
     have q7 : (ji4) < (x0_1.size : Int) := md_
     have hx7 := bt_at x0_1 (ji4)
     replace p7 := eq_true p7
     replace q7 := eq_true q7
     go_wp2
     go_roundg k1
     case measure => have := HK1.out; omega
     case rel => exact ⟨(x0_1.extract 0 ((ji4) : Int).toNat), (by first | rfl | (simp; done) | (simp only [← hji4] <;> (first | rfl | simp)) | (simp [*]; done)), H', ⟨by have := HK1.out; omega⟩, by repeat (first | exact Drawn0.refl _ | apply Drawn0.step)⟩
    ·rw [if_neg c8] at H
     have c8b0 : ((bt x0_1 (ji4)) == a1) = false := beq_eq_false_iff_ne.mpr c8
     have c8b1 : ((bt x0_1 (ji4)) != a1) = true := bne_iff_ne.mpr c8
     obtain rfl := Option.some.inj H
     have p7 : 0 ≤ ((ji4) : Int) := md_
     have q7 : (ji4) < (x0_1.size : Int) := md_
     have hx7 := bt_at x0_1 (ji4)
     replace p7 := eq_true p7
     replace q7 := eq_true q7
     go_wp2
     go_ret
     exact ⟨by first | rfl | (simp; done) | (simp only [← hji4] <;> (first | rfl | simp)) | (simp [*]; done), by repeat (first | exact Drawn0.refl _ | apply Drawn0.step)⟩
   ·rw [if_neg c3] at H
    have c3b0 : decide (0 < (x0_1.size : Int)) = false := decide_eq_false c3
    have c3b1 : decide (0 < x0_1.size) = false := decide_eq_false (by omega)
    clear c3
    obtain rfl := Option.some.inj H
    go_wp2
    go_ret
    exact ⟨by first | rfl | (simp; done) | (simp [*]; done), by repeat (first | exact Drawn0.refl _ | apply Drawn0.step)⟩

-- NOT PRINTED: function 175 (strings_makeASCIISet)

-- NOT PRINTED: function 205 (strings_asciiSet_contains)

-- NOT PRINTED: function 176 (strings_trimLeftASCII)

-- NOT PRINTED: function 177 (strings_trimRightASCII)

-- NOT PRINTED: function 232 (strings_IndexRune)

-- NOT PRINTED: function 207 (strings_ContainsRune)

-- NOT PRINTED: function 178 (strings_trimLeftUnicode)

-- NOT PRINTED: function 179 (strings_trimRightUnicode)

end Go.Proofs.YtpggepjfhgalkaaGreatDoor.PFnExactMatches
