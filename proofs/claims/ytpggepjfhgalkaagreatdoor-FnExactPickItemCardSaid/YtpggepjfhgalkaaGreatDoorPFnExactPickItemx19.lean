-- Written by a program of this project (xprint.py) out of the translation; Lean checks it.
import Derived.Test.YtpggepjfhgalkaaGreatDoorPFnExactPickItemx0
import Derived.Test.YtpggepjfhgalkaaGreatDoorPFnExactPickItemx12
import Derived.Test.YtpggepjfhgalkaaGreatDoorPFnExactPickItemx15
import Derived.Test.YtpggepjfhgalkaaGreatDoorPFnExactPickItemx17
namespace Go.Proofs.YtpggepjfhgalkaaGreatDoor.PFnExactPickItem
open Go.RowKit Go.Proofs.YtpggepjfhgalkaaGreatDoorW.PrintWords Go.Proofs.YtpggepjfhgalkaaGreatDoorW.PrintLast Go.Proofs.YtpggepjfhgalkaaGreatDoorW.PrintMore
attribute [local go_sem] max2_int min2_int max_two min_two max_three min_three max_four min_four   -- for this text's walks alone
set_option linter.unusedVariables false
set_option linter.unusedSimpArgs false

/-! ### impl_Item_matches: function 58 -/
/-! ### matches: areAll over the names, with a literal that captures the item and the fields -/
def impl_Item_matches_1.f (k : Nat) (l1 l2 : List S105) (x : ByteArray) : Option Bool := (impl_valuesOf.f k l1 x).bind fun a => (impl_valuesOf.f k l2 x).bind fun b => if (((a.length : Int) == 0) == ((b.length : Int) == 0)) = true then ((strings_Join.f a (⟨#[44, 32]⟩ : ByteArray)).bind fun c => (strings_Join.f b (⟨#[44, 32]⟩ : ByteArray)).bind fun d => some (c.toList == d.toList)) else some false
def xSame.z (k : Nat) (l1 l2 : List S105) (x : ByteArray) : Option Bool := (impl_Item_matches_1.f k l1 l2 x).bind fun b => some (!b)
def xSame.f (k : Nat) (l1 l2 : List S105) (l0 : List ByteArray) : Option Bool := if l0.length < 9223372036854775807 then ((idxO (xSame.z k l1 l2) l0 0).bind fun i => some (!decide (i ≥ 0))) else none
def impl_Item_matches.f (k : Nat) (a0_0 : ByteArray) (l0_1 : List S105) (a0_2 : Int) (a0_3 : ByteArray) (l0_4 : List S105) (a0_5 : ByteArray) (a0_6 : Int) (a0_7 : Int) (l1 : List S105) : Option Bool := (impl_vary.f k a0_2 a0_3 l0_4 a0_5).bind fun t => xSame.f k l0_1 l1 t.1
def xSame.T1 : Bool × List (List Nat × List Nat) := (true, [([],[]),([0],[0]),([],[]),([1,2],[1,2]),([],[]),([],[]),([4,5,3],[4,5]),([3,6,0,1,2,3],[3]),([6,7,0,1,2,3,4,5,6,7],[6])])
def xSame.B1 : List Nat := [0,1,0,7,0,0,63,127,255]
theorem xSame.tab1 : rtab .any (opsOf Tryz.f104 1) = xSame.T1 := by kernel_rfl
theorem xSame.bits1 : waitsOk xSame.T1.2 xSame.B1 = true := by kernel_rfl
set_option maxHeartbeats 8000000 in
set_option maxRecDepth 100000 in
theorem impl_Item_matches_1.calls (k : Nat) (a0 : ByteArray) (G1 G2 : Nat) (A1 : Option Addr) (c1 : Nat) (l1 : List S105) (A2 : Option Addr) (c2 : Nat) (l2 : List S105) (r : Bool) (w : World) (hq1 : w.cell? ⟨G1, 1, none⟩ = some (.slice A1 l1.length c1)) (hq2 : w.cell? ⟨G2, 0, none⟩ = some (.slice A2 l2.length c2)) (hr1 : Kd.C k105 w A1 l1.length l1) (hc1 : l1.length ≤ c1) (hr2 : Kd.C k105 w A2 l2.length l2) (hc2 : l2.length ≤ c2) (h : impl_Item_matches_1.f k l1 l2 a0 = some r) :
    Calls Tryz.prog 104 #[.string a0, .pointer (some ⟨G1, 0, none⟩), .pointer (some ⟨G2, 0, none⟩)] w fun e w' => e = .returned (.bool r) ∧ Below w.heap.size w w' := by
  have hu71 := Tryz.underlying71
  have HR1 := Aside0.mk hr1
  have HR2 := Aside0.mk hr2
  have hQ1 : ∀ W : World, Below w.heap.size w W → W.cell? ⟨G1, 1, none⟩ = some (.slice A1 l1.length c1) := fun W hW => (hW.cell (p := ⟨G1, 1, none⟩) (World.block_lt_of_cell? w ⟨G1, 1, none⟩ hq1)).trans hq1
  have hQ2 : ∀ W : World, Below w.heap.size w W → W.cell? ⟨G2, 0, none⟩ = some (.slice A2 l2.length c2) := fun W hW => (hW.cell (p := ⟨G2, 0, none⟩) (World.block_lt_of_cell? w ⟨G2, 0, none⟩ hq2)).trans hq2
  have HQ1 := Aside0.mk hQ1
  have HQ2 := Aside0.mk hQ2
  clear hr1 hr2 hq1 hq2 hQ1 hQ2
  have HB := Aside0.mk (Below.refl w.heap.size w)
  unfold impl_Item_matches_1.f at h
  obtain ⟨a, Aa, h⟩ := Option.bind_eq_some_iff.mp h
  obtain ⟨b, Ab, h⟩ := Option.bind_eq_some_iff.mp h
  have AA := Aside0.mk Aa
  have AB := Aside0.mk Ab
  have AH := Aside0.mk h
  clear Aa Ab h
  go_enter Tryz.func104, Tryz.ntmps104
  try go_wp2
  replace HB := Aside0.mk (below_drew1 HB.out)
  refine ms_ 9 (fun w' => w'.cell? ⟨G1, 1, none⟩ = some (.slice A1 l1.length c1) ∧ w'.cell? ⟨G2, 0, none⟩ = some (.slice A2 l2.length c2)) xSame.tab1 xSame.bits1 ⟨HQ1.out _ HB.out, HQ2.out _ HB.out⟩ (fun hHeld HT_ HW_ => ?_)
  generalize w.drew = w11 at HB hHeld ⊢
  refine pure_ (i := 0) (N := some 7) (v := ?_) (a' := ?_) #[true, false, false, false, false, false, false, false, false] rfl rfl (any_of HT_.out (by kernel_rfl)) (fun _ _ _ h => h) (Or.inl ⟨by rfl, ?_⟩) ?_ ?_
  rotate_left
  · intro w'
    go_simp
    with_reducible rfl
  rotate_left
  · simp only [Act.put, List.setIfInBounds_toArray, List.set_cons_zero, List.set_cons_succ, i64_w, i32_w]
    rfl
  refine pure_ (i := 2) (N := some 9) (v := ?_) (a' := ?_) #[true, false, true, false, false, false, false, false, false] rfl rfl (any_of HT_.out (by kernel_rfl)) (fun _ _ _ h => h) (Or.inl ⟨by rfl, ?_⟩) ?_ ?_
  rotate_left
  · intro w'
    go_simp
    with_reducible rfl
  rotate_left
  · simp only [Act.put, List.setIfInBounds_toArray, List.set_cons_zero, List.set_cons_succ, i64_w, i32_w]
    rfl
  refine pure_ (i := 5) (N := some 12) (v := ?_) (a' := ?_) #[true, false, true, false, false, true, false, false, false] rfl rfl (any_of HT_.out (by kernel_rfl)) (fun _ _ _ h => h) (Or.inl ⟨by rfl, ?_⟩) ?_ ?_
  rotate_left
  · intro w'
    go_simp
    with_reducible rfl
  rotate_left
  · simp only [Act.put, List.setIfInBounds_toArray, List.set_cons_zero, List.set_cons_succ, i64_w, i32_w]
    rfl
  refine take_ (i := 1) (N := some 8) (v := ?_) (a' := ?_) #[true, true, true, false, false, true, false, false, false] rfl rfl (take_ofW HT_.out HW_.out (by kernel_rfl)) (fun _ _ _ h => h) (Or.inl ⟨by rfl, ?_⟩) hHeld ?_ ?_
  rotate_left
  · rintro w' ⟨s0, s1⟩
    go_simp
    with_reducible rfl
  rotate_left
  · simp only [Act.put, List.setIfInBounds_toArray, List.set_cons_zero, List.set_cons_succ, i64_w, i32_w]
    rfl
  refine take_ (i := 4) (N := some 11) (v := ?_) (a' := ?_) #[true, true, true, false, true, true, false, false, false] rfl rfl (take_ofW HT_.out HW_.out (by kernel_rfl)) (fun _ _ _ h => h) (Or.inl ⟨by rfl, ?_⟩) hHeld ?_ ?_
  rotate_left
  · rintro w' ⟨s0, s1⟩
    go_simp
    with_reducible rfl
  rotate_left
  · simp only [Act.put, List.setIfInBounds_toArray, List.set_cons_zero, List.set_cons_succ, i64_w, i32_w]
    rfl
  refine m1_ 3 10 Tryz.func95 #[.slice A1 l1.length c1, .string a0] ?_
  with_reducible refine (impl_valuesOf.calls k _ _ l1 a0 a _ ?side1 ?side2 AA.out).mono ?_
  (case side1 => exact xc_ ((Kd.C_below HR1.out HB.out)))
  (case side2 => exact hc1)
  rintro e w12 ⟨v415, rfl, ho0, hb⟩
  refine ⟨_, rfl, ?_⟩
  have HO416 := Aside0.mk (Kd.R_lower ho0 (below_size (xw_ HB)))
  replace HB := xws_ HB hb
  clear hb ho0
  refine ⟨⟨HQ1.out _ HB.out, HQ2.out _ HB.out⟩, fun hHeld => ?_⟩
  refine norm_ (a' := ?_) ?_ ?_
  rotate_left
  · show Act.put _ (some 10) _ = _
    simp only [Act.put, List.setIfInBounds_toArray, List.set_cons_zero, List.set_cons_succ, i64_w, i32_w]
    rfl
  refine m1_ 6 13 Tryz.func95 #[.slice A2 l2.length c2, .string a0] ?_
  with_reducible refine (impl_valuesOf.calls k _ _ l2 a0 b _ ?side1 ?side2 AB.out).mono ?_
  (case side1 => exact xc_ ((Kd.C_below HR2.out HB.out)))
  (case side2 => exact hc2)
  rintro e w13 ⟨v418, rfl, ho0, hb⟩
  refine ⟨_, rfl, ?_⟩
  have HO419 := Aside0.mk (Kd.R_lower (Kd.R_new' ho0 (Kd.R_lt (xr_ HO416))) (below_size (xw_ HB)))
  replace HO416 := xre_ HO416 ho0 hb
  replace HB := xws_ HB hb
  clear hb ho0
  refine ⟨⟨HQ1.out _ HB.out, HQ2.out _ HB.out⟩, fun hHeld => ?_⟩
  refine norm_ (a' := ?_) ?_ ?_
  rotate_left
  · show Act.put _ (some 13) _ = _
    simp only [Act.put, List.setIfInBounds_toArray, List.set_cons_zero, List.set_cons_succ, i64_w, i32_w]
    rfl
  refine pure_ (i := 7) (N := some 5) (v := ?_) (a' := ?_) #[true, true, true, true, true, true, true, true, false] rfl rfl (any_of HT_.out (by kernel_rfl)) (fun _ _ _ h => h) (Or.inl ⟨by rfl, ?_⟩) ?_ ?_
  rotate_left
  · intro w'
    go_simp
    with_reducible rfl
  rotate_left
  · simp only [Act.put, List.setIfInBounds_toArray, List.set_cons_zero, List.set_cons_succ, i64_w, i32_w]
    rfl
  refine pure_ (i := 8) (N := some 6) (v := ?_) (a' := ?_) #[true, true, true, true, true, true, true, true, true] rfl rfl (any_of HT_.out (by kernel_rfl)) (fun _ _ _ h => h) (Or.inl ⟨by rfl, ?_⟩) ?_ ?_
  rotate_left
  · intro w'
    go_simp
    with_reducible rfl
  rotate_left
  · simp only [Act.put, List.setIfInBounds_toArray, List.set_cons_zero, List.set_cons_succ, i64_w, i32_w]
    rfl
  refine done_ (done_of HT_.out (by kernel_rfl)) ?_
  obtain ⟨Ao14, co14, eo14⟩ := Kd.R_slice HO416.out
  subst eo14
  obtain ⟨Ao15, co15, eo15⟩ := Kd.R_slice HO419.out
  subst eo15
  have H := AH.out
  clear AH
  by_cases c6 : (((a.length : Int) == 0) == ((b.length : Int) == 0)) = true
  · rw [if_pos c6] at H
    have c6b1 : decide (((a.length : Int) == 0) = ((b.length : Int) == 0)) = true := by simpa using c6
    obtain ⟨t420, A70, H⟩ := Option.bind_eq_some_iff.mp H
    obtain ⟨t421, A80, H⟩ := Option.bind_eq_some_iff.mp H
    have A7 := Aside0.mk A70
    have A8 := Aside0.mk A80
    obtain rfl := Option.some.inj H
    clear A70 A80 H
    go_wp2_with (first | (go_at_call 94; (with_reducible refine (strings_Join.calls _ _ a (⟨#[44, 32]⟩ : ByteArray) t420 _ ?side1 ?side2 A7.out).mono ?_); (case side1 => exact xc_ ((Kd.R_reads' HO416.out).2.2)); (case side2 => exact (Kd.R_reads' HO416.out).2.1); rintro e w16 ⟨rfl, hb⟩; replace HO416 := xrb_ HO416 hb; replace HO419 := xrb_ HO419 hb; replace HB := xws_ HB hb; clear hb) | (go_at_call 94; (with_reducible refine (strings_Join.calls _ _ b (⟨#[44, 32]⟩ : ByteArray) t421 _ ?side1 ?side2 A8.out).mono ?_); (case side1 => exact xc_ ((Kd.R_reads' HO419.out).2.2)); (case side2 => exact (Kd.R_reads' HO419.out).2.1); rintro e w17 ⟨rfl, hb⟩; replace HO416 := xrb_ HO416 hb; replace HO419 := xrb_ HO419 hb; replace HB := xws_ HB hb; clear hb))
    go_ret
    exact ⟨by first | rfl | (simp [*]; done), xw_ HB⟩
  · rw [if_neg c6] at H
    have c6b0 : (((a.length : Int) == 0) == ((b.length : Int) == 0)) = false := by simpa using c6
    have c6b1 : decide (((a.length : Int) == 0) = ((b.length : Int) == 0)) = false := by simpa using c6
    clear c6
    obtain rfl := Option.some.inj H
    clear H
    go_wp2
    go_ret
    exact ⟨by first | rfl | (simp [*]; done), xw_ HB⟩
set_option maxHeartbeats 8000000 in
set_option maxRecDepth 100000 in
theorem xSame.calls (k : Nat) (G1 G2 : Nat) (A1 : Option Addr) (c1 : Nat) (l1 : List S105) (A2 : Option Addr) (c2 : Nat) (l2 : List S105) (A0 : Option Addr) (c0 : Nat) (l0 : List ByteArray) (r : Bool) (w : World) (hq1 : w.cell? ⟨G1, 1, none⟩ = some (.slice A1 l1.length c1)) (hq2 : w.cell? ⟨G2, 0, none⟩ = some (.slice A2 l2.length c2)) (hr1 : Kd.C k105 w A1 l1.length l1) (hc1 : l1.length ≤ c1) (hr2 : Kd.C k105 w A2 l2.length l2) (hc2 : l2.length ≤ c2) (hr0 : Kd.C Kd.string w A0 l0.length l0) (hc0 : l0.length ≤ c0) (h : xSame.f k l1 l2 l0 = some r) :
    Calls Tryz.prog 96 #[.slice A0 l0.length c0, .func (.func 104) #[] #[.pointer (some ⟨G1, 0, none⟩), .pointer (some ⟨G2, 0, none⟩)]] w fun e w' => e = .returned (.bool r) ∧ Below w.heap.size w w' := by
  have hbig : l0.length < 9223372036854775807 := by
    by_cases c : l0.length < 9223372036854775807
    · exact c
    · unfold xSame.f at h; rw [if_neg c] at h; cases h
  have h1 : ((idxO (xSame.z k l1 l2) l0 0).bind fun i => some (!decide (i ≥ 0))) = some r := by unfold xSame.f at h; rw [if_pos hbig] at h; exact h
  clear h
  obtain ⟨i, hi1, hi2⟩ := Option.bind_eq_some_iff.mp h1
  clear h1
  obtain rfl := Option.some.inj hi2
  clear hi2
  have hg1 : G1 < w.heap.size := World.block_lt_of_cell? w ⟨G1, 1, none⟩ hq1
  have hg2 : G2 < w.heap.size := World.block_lt_of_cell? w ⟨G2, 0, none⟩ hq2
  have eg : ∀ args w, (callFunc 147 args).run Tryz.prog w = .ok (.enter 147 args) w := enters_of Tryz.func147 (by kernel_rfl) rfl
  have hb1 : Below w.heap.size w (w.alloc (.cells #[.func (.func 104) #[] #[.pointer (some ⟨G1, 0, none⟩), .pointer (some ⟨G2, 0, none⟩)]] 98)) := (Below.refl _ w).alloc (Nat.le_refl _) _
  have hcall := xContainsFunc_str (xSame.z k l1 l2) 147 #[.pointer (some ⟨w.heap.size, 0, none⟩)] eg A0 c0 l0 i (w.alloc (.cells #[.func (.func 104) #[] #[.pointer (some ⟨G1, 0, none⟩), .pointer (some ⟨G2, 0, none⟩)]] 98)) (Kd.C_below hr0 hb1) hc0 hbig
    (by
      intro W x b hb hz
      have hcell : W.cell? ⟨w.heap.size, 0, none⟩ = some (.func (.func 104) #[] #[.pointer (some ⟨G1, 0, none⟩), .pointer (some ⟨G2, 0, none⟩)]) := (hb.cell (p := ⟨w.heap.size, 0, none⟩) (by simp)).trans (by simp)
      obtain ⟨b2, hq, hb2⟩ := Option.bind_eq_some_iff.mp hz
      obtain rfl : (!b2) = b := Option.some.inj hb2
      have hbW : Below w.heap.size w W := hb1.trans (hb.mono hb1.size)
      have hlit := Aside0.mk (fun (W2 : World) (hW2 : Below W.heap.size W W2) => impl_Item_matches_1.calls k x G1 G2 A1 c1 l1 A2 c2 l2 b2 W2
        (((hbW.trans (hW2.mono hbW.size)).cell (p := ⟨G1, 1, none⟩) hg1).trans hq1) (((hbW.trans (hW2.mono hbW.size)).cell (p := ⟨G2, 0, none⟩) hg2).trans hq2)
        (Kd.C_below hr1 (hbW.trans (hW2.mono hbW.size))) hc1 (Kd.C_below hr2 (hbW.trans (hW2.mono hbW.size))) hc2 hq)
      have hb' := Aside0.mk hb
      clear hb hz hb2 hq hbW
      show Calls Tryz.prog 147 #[.string x, .pointer (some ⟨w.heap.size, 0, none⟩)] W _
      go_enter Tryz.func147, Tryz.ntmps147
      go_wp2_with (go_at_call 104; refine (hlit.out _ (by repeat (first | exact Below.refl _ _ | apply below_drew1 | apply pw_below_drewN | apply below_alloc))).mono ?_; rintro e w' ⟨rfl, hb2⟩)
      go_ret
      exact ⟨rfl, below_step (by repeat (first | (with_reducible first | exact hb'.out | apply below_alloc | apply pw_below_drewN | apply below_drew1) | exact hb'.out)) hb2⟩)
    hi1
  have hb1' := Aside0.mk hb1
  clear hr0 hc0 hbig hi1 hb1 eg hq1 hq2 hr1 hr2
  go_enter Tryz.func96, Tryz.ntmps96
  go_wp2_with (go_at_call 146; refine hcall.mono ?_; rintro e w' ⟨rfl, hb'⟩)
  go_ret
  exact ⟨rfl, below_then hb1'.out (by simp) hb'⟩
set_option maxHeartbeats 8000000 in
set_option maxRecDepth 100000 in
theorem impl_Item_matches.calls (k : Nat) (a0_0 : ByteArray) (A0_1 : Option Addr) (c0_1 : Nat) (l0_1 : List (S105)) (a0_2 : Int) (a0_3 : ByteArray) (A0_4 : Option Addr) (c0_4 : Nat) (l0_4 : List (S105)) (a0_5 : ByteArray) (a0_6 : Int) (a0_7 : Int) (A1 : Option Addr) (c1 : Nat) (l1 : List (S105)) (r : Bool) (w : World) (hr0_1 : Kd.C k105 w A0_1 l0_1.length l0_1) (hc0_1 : l0_1.length ≤ c0_1) (hr0_4 : Kd.C k105 w A0_4 l0_4.length l0_4) (hc0_4 : l0_4.length ≤ c0_4) (hr1 : Kd.C k105 w A1 l1.length l1) (hc1 : l1.length ≤ c1) (h : impl_Item_matches.f k a0_0 l0_1 a0_2 a0_3 l0_4 a0_5 a0_6 a0_7 l1 = some r) :
    Calls Tryz.prog 58 #[.agg #[.string a0_0, .slice A0_1 l0_1.length c0_1, .int .i64 a0_2, .string a0_3, .slice A0_4 l0_4.length c0_4, .string a0_5, .int .i64 a0_6, .int .i64 a0_7], .slice A1 l1.length c1] w fun e w' => e = .returned (.bool r) ∧ Below w.heap.size w w' := by
  have hu71 := Tryz.underlying71
  have hu69 := Tryz.underlying69
  have hu54 := Tryz.underlying54
  have HR0_1 := Aside0.mk hr0_1
  have HR0_4 := Aside0.mk hr0_4
  have HR1 := Aside0.mk hr1
  clear hr0_1 hr0_4 hr1
  have HB := Aside0.mk (Below.refl w.heap.size w)
  unfold impl_Item_matches.f at h
  obtain ⟨⟨n1, n2, n3⟩, An, h⟩ := Option.bind_eq_some_iff.mp h
  have AN := Aside0.mk An
  have AH := Aside0.mk h
  clear An h
  go_enter Tryz.func58, Tryz.ntmps58
  go_wp2_with (first
    | ((with_reducible refine gd_ 2 ?_); refine xbe_ (N := 2) (cs := #[.string a0_0, .slice A0_1 l0_1.length c0_1, .int .i64 a0_2, .string a0_3, .slice A0_4 l0_4.length c0_4, .string a0_5, .int .i64 a0_6, .int .i64 a0_7]) (t := 71) ?_; intro g1 hg w1 hbox hb; have BK1 := Aside0.mk (hbox); replace HB := xws_ HB hb; clear hb hbox hg)
    | ((with_reducible refine gd_ 3 ?_); refine xbe_ (N := 3) (cs := #[.slice A1 l1.length c1]) (t := 33) ?_; intro g2 hg w2 hbox hb; have BK2 := Aside0.mk (hbox); replace HB := xws_ HB hb; have N12 := xlt_ BK1 hg; have N21 := xgt_ BK1 hg; replace BK1 := xbb_ BK1 hb; clear hb hbox hg; have hcz0 : w2.cell? ⟨g1, 2, none⟩ = some (.int .i64 a0_2) := xk_ BK1 2; have hcz1 : w2.cell? ⟨g1, 3, none⟩ = some (.string a0_3) := xk_ BK1 3; have hcz2 : w2.cell? ⟨g1, 4, none⟩ = some (.slice A0_4 l0_4.length c0_4) := xk_ BK1 4; have hcz3 : w2.cell? ⟨g1, 5, none⟩ = some (.string a0_5) := xk_ BK1 5)
    | (go_at_call 50; refine (impl_vary.calls k a0_2 a0_3 A0_4 c0_4 l0_4 a0_5 n1 n2 n3 _ ?side1 hc0_4 AN.out).mono ?_; (case side1 => exact xc_ ((Kd.C_below HR0_4.out HB.out))); rintro e w3 ⟨v3, rfl, ho0, hb⟩; have HO := Aside0.mk ho0; replace BK1 := xbb_ BK1 hb; replace BK2 := xbb_ BK2 hb; replace HB := xws_ HB hb; clear hb ho0; obtain ⟨Ao3, co3, eo3⟩ := Kd.R_slice HO.out; subst eo3)
    | (go_at_call 96; refine (xSame.calls k g1 g2 A0_1 c0_1 l0_1 A1 c1 l1 Ao3 co3 n1 r _ ?side1 ?side2 ?side3 hc0_1 ?side4 hc1 ?side5 ?side6 AH.out).mono ?_; (case side1 => exact xk_ BK1 1); (case side2 => exact xk_ BK2 0); (case side3 => exact xc_ ((Kd.C_below HR0_1.out HB.out))); (case side4 => exact xc_ ((Kd.C_below HR1.out HB.out))); (case side5 => exact xc_ ((Kd.R_reads' HO.out).2.2)); (case side6 => exact (Kd.R_reads' HO.out).2.1); rintro e w4 ⟨rfl, hb⟩; replace HB := xws_ HB hb; clear hb))
  go_ret
  exact ⟨by first | rfl | (simp [*]; done), xw_ HB⟩

end Go.Proofs.YtpggepjfhgalkaaGreatDoor.PFnExactPickItem
