-- Written by a program of this project (xprint.py) out of the translation; Lean checks it.
import Derived.Test.YtcmlledlhknbpaaPFnExactTouchLrux0
import Derived.Test.YtcmlledlhknbpaaPFnExactTouchLrux2
namespace Go.Proofs.Ytcmlledlhknbpaa.PFnExactTouchLru
open Go.RowKit Go.Proofs.YtcmlledlhknbpaaW.PrintWords Go.Proofs.YtcmlledlhknbpaaW.PrintLast Go.Proofs.YtcmlledlhknbpaaW.PrintMore
attribute [local go_sem] max2_int min2_int max_two min_two max_three min_three max_four min_four   -- for this text's walks alone
set_option linter.unusedVariables false
set_option linter.unusedSimpArgs false

set_option maxHeartbeats 4000000 in
theorem xClone_i64.calls (A0 : Option Addr) (c0 : Nat) (l0 : List Int) (w : World) (hr0 : Kd.C (Kd.int .i64) w A0 l0.length l0) (hc0 : l0.length ≤ c0) (hbig : l0.length < 17592186044416) :
    Calls Try.prog 49 #[.slice A0 l0.length c0] w fun e w' => ∃ v0_ : Value, e = .returned (v0_) ∧ Kd.R (Kd.int .i64) 3 w' w.heap.size (fun _ => True) v0_ l0 ∧ Below w.heap.size w w' := by
  have HR0 := Aside0.mk hr0
  have HC0 := Aside0.mk hc0
  have HG := Aside0.mk hbig
  have HB := Aside0.mk (Below.refl w.heap.size w)
  clear hc0 hbig
  have q22 : ∀ (w : World) (a : Option Addr) (n c n' c' : Nat), (binOp .eql 22 (.slice a n c) (.slice none n' c')).run Try.prog w = .ok (.bool a.isNone) w := fun w a n c n' c' => Lib.run_eql_slice_nil w _ _ a n c n' c' Try.underlying22
  cases A0 with
  | none =>
    have hl : l0 = [] := by
      cases l0 with
      | nil => rfl
      | cons x xs => obtain ⟨ad, c, he, _⟩ := Kd.C_get hr0 (0 : Int) 0 (by omega) (by simp); cases he
    clear hr0
    subst hl
    go_enter Try.func49, Try.ntmps49
    go_wp2
    go_ret
    exact ⟨_, rfl, Kd.R_nil _ _ _ _ _, HB.out⟩
  | some ad =>
    clear hr0
    go_enter Try.func49, Try.ntmps49
    go_wp2_with (first
      | ((with_reducible refine gate_dst (N := 5) rfl ?_); refine Kd.R_lit (Kd.int .i64) w.heap.size 3 ?hg (N := 5) ?hd (xs := ([] : List Int)) (inner := []) (ok := fun _ => True) (okp := fun _ => True) ?hr ?hp (fun _ hk => hk) trivial (Below.refl _ _) (Nat.le_refl _) (by simp) ?_; (case hd => rfl); (case hg => rfl); (case hr => first | (go_simp; done) | (go_simp; rfl)); (case hp => exact (Reps.none _ _)); intro v1 w1 ho1 hb1 hg_ hnew_; clear hg_ hnew_; have HO1 := Aside0.mk ho1; have HB1 := Aside0.mk hb1; clear ho1 hb1)
      | ((with_reducible refine gate_builtin (b := .append) (xs := #[.tmp 5, .tmp 6]) rfl ?_); at_builtin; refine Kd.R_append_rows (Kd.int .i64) (w0 := w) w.heap.size rfl (.tmp 5) (.tmp 6) 22 3 (.int .i64 0) 8 rfl Try.underlying22 xinfo3 rfl (by decide) (by omega) v1 [] l0 _ _ _ (fun _ => True) (fun _ => False) rfl rfl ?aO ?aR (fun _ _ h => h) (fun _ h => h.elim) ?aF ?aB ?aS ?aL ?_; (case aR => exact Kd.C_below HR0.out HB1.out); (case aB => exact HB1.out); (case aF => exact fun _ _ => trivial); (case aO => exact HO1.out); (case aS => exact HB1.out.size); (case aL => have := HG.out; simp; omega); intro v2 w2 ho hb hg hat; have HO2 := Aside0.mk ho; have HB2 := Aside0.mk hb; clear ho hb hg hat))
    go_ret
    exact ⟨_, rfl, HO2.out, HB2.out⟩
set_option maxHeartbeats 4000000 in
/-- slices.Delete of one element of a row of the call's own -/
theorem xDelete1_i64 (w0 w : World) (base : Nat) (v : Value) (l : List Int) (i : Nat) (hi : i < l.length) (hB : Below base w0 w) (ho : Kd.R (Kd.int .i64) 3 w base (fun _ => True) v l) :
    Calls Try.prog 47 #[v, .int .i64 i, .int .i64 ((i : Int) + 1)] w fun e w' => ∃ v0_ : Value, e = .returned (v0_) ∧ Kd.R (Kd.int .i64) 3 w' base (fun _ => True) v0_ (l.eraseIdx i) ∧ Below base w0 w' := by
  obtain ⟨g, cap, rfl, hc1, hc2, hcell⟩ := xOwn_slice ho (by intro h; rw [h] at hi; simp at hi)
  have hm : (maxLen : Nat) = 9223372036854775807 := rfl
  rw [show ((i : Int) + 1) = ((i + 1 : Nat) : Int) by omega]
  refine (Try.slices_Delete_int_cells g 0 l.length cap i (i + 1) l w (Nat.le_refl _) hc1 (by omega) (by omega) (by omega) (fun j hj => (hcell j hj).1) (fun j hj => (hcell j hj).2)).mono ?_
  rintro e w' ⟨rfl, q, rfl⟩
  have hlen : (l.take i ++ l.drop (i + 1)).length = l.length - 1 := by simp; omega
  have hfull : List.take l.length l = l := List.take_of_length_le (Nat.le_refl _)
  rw [hfull]
  have hk := xOver_i64 (q := q) (m := l.length - 1) (ys := l.take i ++ l.drop (i + 1) ++ List.replicate (i + 1 - i) 0) hB ho (by rw [List.length_append, hlen]; simp; omega) (by rw [List.length_append, hlen]; omega)
  refine ⟨_, rfl, ?_, hk.2⟩
  have e3 : List.take (l.length - 1) (l.take i ++ l.drop (i + 1) ++ List.replicate (i + 1 - i) (0 : Int)) = l.take i ++ l.drop (i + 1) := by
    rw [List.take_append_of_le_length (by omega)]
    exact List.take_of_length_le (by omega)
  have h2 := hk.1
  rw [e3] at h2
  rw [show l.length - (i + 1 - i) = l.length - 1 by omega, List.eraseIdx_eq_take_drop_succ]
  exact h2
set_option maxHeartbeats 8000000 in
set_option maxRecDepth 100000 in
/-- slices.Grow of nothing: an empty row with room -/
theorem xGrow0_i64 (w : World) (n : Nat) (hn : n < 17592186044416) :
    Calls Try.prog 63 #[.slice none 0 0, .int .i64 n] w fun e w' => ∃ v0_ : Value, e = .returned (v0_) ∧ Kd.R (Kd.int .i64) 3 w' w.heap.size (fun _ => True) v0_ [] ∧ Below w.heap.size w w' := by
  by_cases h0 : n = 0
  · subst h0
    go_enter Try.func63, Try.ntmps63
    go_wp2
    go_ret
    exact ⟨_, rfl, Kd.R_nil _ _ _ _ _, Below.refl _ _⟩
  · have hp : (0 : Int) < (n : Int) := by omega
    have hw : wrap64 (n : Int) = (n : Int) := by unfold wrap64; omega
    have HN := Aside0.mk hn
    clear hn h0
    obtain ⟨A, hA⟩ : ∃ A : Option Addr, A = none := ⟨_, rfl⟩
    have HO0 := Aside0.mk (show ∀ W : World, Kd.R (Kd.int .i64) 3 W w.heap.size (fun _ => True) (.slice A 0 0) [] from fun W => by rw [hA]; exact Kd.R_nil _ _ _ _ _)
    rw [← hA]
    clear hA
    obtain ⟨i0, hi0, _, hsz0, _⟩ := info_parts xinfo3
    have hcut0 := cut_to (P := Try.prog) 22 3 .i64 Try.underlying22 hi0 A 0 0 0 (by omega) (by omega) (by omega)
    simp only [Int.toNat_zero] at hcut0
    go_enter Try.func63, Try.ntmps63
    go_wp2_with (((with_reducible refine gate_builtin (b := .append) (xs := #[.tmp 20, .tmp 21]) rfl ?_); at_builtin; (refine Kd.R_append_zeros (Kd.int .i64) (w0 := w) w.heap.size rfl (.tmp 20) (.tmp 21) 22 3 3 (.int .i64 0) 8 rfl Try.underlying22 Try.underlying3 xinfo3 rfl (by decide) (by omega) (.slice A 0 0) [] (0 : Int) (wrap64 (n : Int)) (fun _ => True) rfl rfl rfl (fun _ _ => trivial) (HO0.out _) (by rw [hw]; omega) (Below.refl _ _) (Nat.le_refl _) ?aL ?_); (case aL => have := HN.out; rw [hw]; simp; omega); intro v1 w1 ho hb hg hat; obtain ⟨y, hy⟩ : ∃ y : List Int, y = ([] : List Int) ++ List.replicate (wrap64 (n : Int)).toNat 0 := ⟨_, rfl⟩; rw [← hy] at ho; clear hy; obtain ⟨A1, c1, e1⟩ := Kd.R_slice ho; subst e1; have HO1 := Aside0.mk ho; have HB1 := Aside0.mk hb; have hcut := cut_to (P := Try.prog) 22 3 .i64 Try.underlying22 hi0 A1 y.length c1 0 (by omega) (by omega) (Kd.R_reads' HO1.out).2.1; simp only [Int.toNat_zero] at hcut; clear ho hb hg hat))
    go_ret
    exact ⟨_, rfl, Kd.R_take (m := 0) HO1.out (by omega), HB1.out⟩
set_option maxHeartbeats 8000000 in
set_option maxRecDepth 100000 in
/-- slices.Concat of two rows -/
theorem xConcat2_i64 (w : World) (g : Nat) (Aa Ab : Option Addr) (ca cb : Nat) (la lb : List Int) (hg : g < w.heap.size)
    (h0 : w.cell? ⟨g, 0, none⟩ = some (.slice Aa la.length ca)) (h1 : w.cell? ⟨g, 1, none⟩ = some (.slice Ab lb.length cb))
    (hra : Kd.C (Kd.int .i64) w Aa la.length la) (hrb : Kd.C (Kd.int .i64) w Ab lb.length lb) (hn : la.length + lb.length < 17592186044416) :
    Calls Try.prog 54 #[.slice (some ⟨g, 0, none⟩) 2 2] w fun e w' => ∃ v0_ : Value, e = .returned (v0_) ∧ Kd.R (Kd.int .i64) 3 w' w.heap.size (fun _ => True) v0_ (la ++ lb) ∧ Below w.heap.size w w' := by
  have HN := Aside0.mk hn
  have HRA := Aside0.mk hra
  have HRB := Aside0.mk hrb
  have H0 := Aside0.mk h0
  have H1 := Aside0.mk h1
  have HG := Aside0.mk hg
  have e1 : wrap64 (0 + (la.length : Int)) = (la.length : Int) := by unfold wrap64; omega
  have e2 : wrap64 ((la.length : Int) + (lb.length : Int)) = ((la.length + lb.length : Nat) : Int) := by unfold wrap64; omega
  have E1 := Aside0.mk e1
  have E2 := Aside0.mk e2
  clear hn hra hrb h0 h1 hg e1 e2
  go_enter Try.func54, Try.ntmps54
  go_wp2
  go_loopg [3, 11] 2 (fun gg s3 s11 wr => ∃ (kk : Nat) (sz : Nat), kk ≤ 2 ∧ 2 - kk ≤ gg ∧ s11 = .int .i64 kk ∧ s3 = .int .i64 sz ∧ Aside0 (Drawn0 w wr) ∧ Aside0 (kk = 0 ∧ sz = 0 ∨ kk = 1 ∧ sz = la.length ∨ kk = 2 ∧ sz = la.length + lb.length))
  case atStart => exact ⟨0, 0, by omega, by omega, rfl, rfl, ⟨Drawn0.refl _⟩, ⟨.inl ⟨rfl, rfl⟩⟩⟩
  case round =>
    obtain ⟨kk, sz, hk, hgk, rfl, rfl, ⟨nd, rfl⟩, HS⟩ := hrel
    obtain ⟨rfl, rfl⟩ | ⟨rfl, rfl⟩ | ⟨rfl, rfl⟩ := HS.out
    · have hc : w.cell? ⟨g, 0, none⟩ = some (.slice Aa la.length ca) := H0.out
      have hw := E1.out
      have hp : ¬ (la.length : Int) < 0 := by omega
      simp only [Int.zero_add] at hw
      go_wp2
      go_roundg 1
      case measure => omega
      case rel => exact ⟨1, la.length, by omega, by omega, rfl, by first | rfl | (simp; done) | (simp [hw]; done), ⟨by repeat (first | exact Drawn0.refl _ | apply Drawn0.step)⟩, ⟨.inr (.inl ⟨rfl, rfl⟩)⟩⟩
    · have hc : w.cell? ⟨g, 1, none⟩ = some (.slice Ab lb.length cb) := H1.out
      have hw := E2.out
      have hp : ¬ ((la.length + lb.length : Nat) : Int) < 0 := by omega
      go_wp2
      go_roundg 0
      case measure => omega
      case rel => exact ⟨2, la.length + lb.length, by omega, by omega, rfl, by first | rfl | (simp; done) | (simp [hw]; done), ⟨by repeat (first | exact Drawn0.refl _ | apply Drawn0.step)⟩, ⟨.inr (.inr ⟨rfl, rfl⟩)⟩⟩
    · go_wp2_with (go_at_call 63; refine (xGrow0_i64 _ (la.length + lb.length) HN.out).mono ?_; rintro e w1 ⟨v1, rfl, ho, hb⟩)
      have HO := Aside0.mk ho
      have HB := Aside0.mk (below_then (pw_below_drewN (Below.refl _ w) nd) (Nat.le_refl _) hb)
      clear ho hb HS
      go_loopg [6, 27] 2 (fun gg s6 s27 wr => ∃ (kk : Nat) (v : Value) (ys : List Int), kk ≤ 2 ∧ 2 - kk ≤ gg ∧ s27 = .int .i64 kk ∧ v = s6 ∧ Aside0 (Below w.heap.size w wr) ∧ Aside0 (Kd.R (Kd.int .i64) 3 wr w.heap.size (fun _ => True) v ys) ∧ Aside0 (kk = 0 ∧ ys = [] ∨ kk = 1 ∧ ys = la ∨ kk = 2 ∧ ys = la ++ lb))
      case atStart => exact ⟨0, v1, [], by omega, by omega, rfl, rfl, HB, HO, ⟨.inl ⟨rfl, rfl⟩⟩⟩
      case round =>
        clear HB HO
        obtain ⟨kk, v, ys, hk, hgk, rfl, rfl, HB, HO, HS⟩ := hrel
        obtain ⟨rfl, rfl⟩ | ⟨rfl, rfl⟩ | ⟨rfl, rfl⟩ := HS.out
        · have hc : wr.cell? ⟨g, 0, none⟩ = some (.slice Aa la.length ca) := (HB.out.cell (p := ⟨g, 0, none⟩) HG.out).trans H0.out
          go_wp2_with ((with_reducible refine gate_builtin (b := .append) (xs := #[.tmp 31, .tmp 32]) rfl ?_); at_builtin; (refine Kd.R_append_rows (Kd.int .i64) (w0 := w) w.heap.size rfl (.tmp 31) (.tmp 32) 22 3 (.int .i64 0) 8 rfl Try.underlying22 xinfo3 rfl (by decide) (by omega) v [] la _ _ _ (fun _ => True) (fun _ => False) rfl rfl ?aO ?aR (fun _ _ h => h) (fun _ h => h.elim) ?aF ?aB ?aS ?aL ?_); (case aR => exact Kd.C_below HRA.out HB.out); (case aB => exact HB.out); (case aF => exact fun _ _ => trivial); (case aO => exact HO.out); (case aS => exact HB.out.size); (case aL => have := HN.out; simp; omega); intro v2 w2 ho hb hg hat; have HO2 := Aside0.mk ho; have HB2 := Aside0.mk hb; clear ho hb hg hat)
          go_roundg 1
          case measure => omega
          case rel => exact ⟨1, v2, la, by omega, by omega, rfl, rfl, HB2, by simpa using HO2, ⟨.inr (.inl ⟨rfl, rfl⟩)⟩⟩
        · have hc : wr.cell? ⟨g, 1, none⟩ = some (.slice Ab lb.length cb) := (HB.out.cell (p := ⟨g, 1, none⟩) HG.out).trans H1.out
          go_wp2_with ((with_reducible refine gate_builtin (b := .append) (xs := #[.tmp 31, .tmp 32]) rfl ?_); at_builtin; (refine Kd.R_append_rows (Kd.int .i64) (w0 := w) w.heap.size rfl (.tmp 31) (.tmp 32) 22 3 (.int .i64 0) 8 rfl Try.underlying22 xinfo3 rfl (by decide) (by omega) v ys lb _ _ _ (fun _ => True) (fun _ => False) rfl rfl ?aO ?aR (fun _ _ h => h) (fun _ h => h.elim) ?aF ?aB ?aS ?aL ?_); (case aR => exact Kd.C_below HRB.out HB.out); (case aB => exact HB.out); (case aF => exact fun _ _ => trivial); (case aO => exact HO.out); (case aS => exact HB.out.size); (case aL => have := HN.out; omega); intro v2 w2 ho hb hg hat; have HO2 := Aside0.mk ho; have HB2 := Aside0.mk hb; clear ho hb hg hat)
          go_roundg 0
          case measure => omega
          case rel => exact ⟨2, v2, ys ++ lb, by omega, by omega, rfl, rfl, HB2, HO2, ⟨.inr (.inr ⟨rfl, rfl⟩)⟩⟩
        · go_wp2
          go_ret
          exact ⟨_, rfl, HO.out, HB.out⟩
/-! ### impl_touch: function 42 -/
theorem xerase_idx (l : List Int) (p : Int) : ∀ (h : l.findIdx (fun x => p == x) < l.length), l.eraseIdx (l.findIdx (fun x => p == x)) = l.erase p := by
  induction l with
  | nil => intro h; simp at h
  | cons x xs ih =>
    intro h
    rw [List.findIdx_cons] at h ⊢
    by_cases e : p = x
    · subst e; simp
    · have e1 : (p == x) = false := beq_eq_false_iff_ne.mpr e
      have e2 : (x == p) = false := beq_eq_false_iff_ne.mpr (fun h => e h.symm)
      rw [e1] at h ⊢
      simp only [cond_false, List.length_cons, Nat.add_lt_add_iff_right] at h ⊢
      rw [List.eraseIdx_cons_succ, List.erase_cons, e2, ih h]; rfl
/-- touch: the page ahead, without it elsewhere, cut; and whether it was there -/
def impl_touch.f (l0 : List Int) (a1 : Int) (a2 : Int) : Option (List Int × Bool) :=
  if l0.length < 10000 then (if 0 ≤ a2 then some ((a1 :: l0.erase a1).take a2.toNat, l0.contains a1) else none) else none
theorem xtouch_index (l : List Int) (p : Int) (hb : l.length < 10000) : ∀ (d k n : Nat), n + d = l.length → d < k →
    slices_Index_int_int.l0 k l p (l.length : Int) (n : Int) = some (if n + (l.drop n).findIdx (fun x => p == x) < l.length then ((n + (l.drop n).findIdx (fun x => p == x) : Nat) : Int) else -1) := by
  intro d
  induction d with
  | zero =>
    intro k n hn hk
    obtain ⟨k, rfl⟩ : ∃ m, k = m + 1 := ⟨k - 1, by omega⟩
    have c : ¬ (n : Int) < (l.length : Int) := by omega
    simp only [slices_Index_int_int.l0]; rw [if_neg c, if_neg (by omega)]
  | succ d ih =>
    intro k n hn hk
    obtain ⟨k, rfl⟩ : ∃ m, k = m + 1 := ⟨k - 1, by omega⟩
    have h1 : n < l.length := by omega
    have c1 : (n : Int) < (l.length : Int) := by omega
    have c0 : (0 : Int) ≤ (n : Int) := by omega
    have hr : rd l (n : Int) = l[n] := by unfold rd; simp [List.getD_eq_getElem?_getD, h1]
    simp only [slices_Index_int_int.l0]
    rw [if_pos c1, if_pos c0, if_pos c1, hr, List.drop_eq_getElem_cons h1, List.findIdx_cons, show wrap64 ((n : Int) + 1) = ((n + 1 : Nat) : Int) by unfold wrap64; omega, ih k (n + 1) (by omega) (by omega)]
    by_cases e : p = l[n]
    · rw [if_pos e, show (p == l[n]) = true from beq_iff_eq.mpr e, cond_true, if_pos (by omega), Nat.add_zero]
    · rw [if_neg e, show (p == l[n]) = false from beq_eq_false_iff_ne.mpr e, cond_false, show ∀ z, n + 1 + z = n + (z + 1) by omega]
set_option maxHeartbeats 8000000 in
set_option maxRecDepth 100000 in
theorem impl_touch.calls (A0 : Option Addr) (c0 : Nat) (l0 : List Int) (a1 : Int) (a2 : Int) (r1 : List Int) (r2 : Bool) (w : World) (hr0 : Kd.C (Kd.int .i64) w A0 l0.length l0) (hc0 : l0.length ≤ c0) (h : impl_touch.f l0 a1 a2 = some (r1, r2)) :
    Calls Try.prog 42 #[.slice A0 l0.length c0, .int .i64 a1, .int .i64 a2] w fun e w' => ∃ v0_ : Value, e = .returned (.tuple #[v0_, .bool r2]) ∧ Kd.R (Kd.int .i64) 3 w' w.heap.size (fun _ => True) v0_ r1 ∧ Below w.heap.size w w' := by
  unfold impl_touch.f at h
  by_cases hb : l0.length < 10000
  · rw [if_pos hb] at h
    by_cases h0 : 0 ≤ a2
    · rw [if_pos h0] at h
      simp only [Option.some.injEq, Prod.mk.injEq] at h
      obtain ⟨h1, h2⟩ := h
      have HR0 := Aside0.mk hr0
      have HC0 := Aside0.mk hc0
      have HL := Aside0.mk hb
      have hidx := xtouch_index l0 a1 hb l0.length (l0.length + 1) 0 (by omega) (by omega)
      simp only [List.drop_zero, Nat.zero_add] at hidx
      have HIX := Aside0.mk hidx
      obtain ⟨i0, hi0, _, hsz0, _⟩ := info_parts xinfo3
      clear hr0 hc0 hb hidx hsz0
      have H2 := Aside0.mk h2
      by_cases hin : l0.findIdx (fun x => a1 == x) < l0.length
      · have hct : r2 = true := by
          rw [← h2, List.contains_iff_mem]
          obtain ⟨y, hy, hy2⟩ := List.findIdx_lt_length.mp hin
          rw [show a1 = y from beq_iff_eq.mp hy2]; exact hy
        subst hct
        have HE := Aside0.mk (xerase_idx l0 a1 hin)
        have HJ := HIX.out
        rw [if_pos hin] at HJ
        have HIN := Aside0.mk hin
        generalize l0.findIdx (fun x => a1 == x) = j at *
        have HJ2 := Aside0.mk HJ
        have hj0 : (0 : Int) ≤ (j : Int) := by omega
        have hjw : wrap64 ((j : Int) + 1) = (j : Int) + 1 := by have := HL.out; have := HIN.out; unfold wrap64; omega
        clear HJ hin HIX h2 H2
        obtain ⟨y, hy⟩ : ∃ y : List Int, y = [a1] ++ l0.eraseIdx j := ⟨_, rfl⟩
        have HY := Aside0.mk hy
        clear hy
        have HLE := Aside0.mk (show (l0.eraseIdx j).length ≤ l0.length from List.length_eraseIdx_le _ _)
        have HY2 := Aside0.mk (show y = a1 :: l0.erase a1 from by rw [HY.out, HE.out]; rfl)
        by_cases hs : a2 < (y.length : Int)
        · have HS := Aside0.mk hs
          go_enter Try.func42, Try.ntmps42
          go_wp2_with (first
          | (go_at_call 50; refine (slices_Index_int_int.calls (l0.length + 1) A0 c0 l0 a1 (j : Int) _ HR0.out HC0.out HJ2.out).mono ?_; rintro e w' ⟨rfl, ⟨nd, rfl⟩⟩)
          | (go_at_call 49; refine (xClone_i64.calls A0 c0 l0 _ (Kd.C_drewN HR0.out _) HC0.out (by have := HL.out; omega)).mono ?_; rintro e w1 ⟨v1, rfl, ho, hb⟩; have HO1 := Aside0.mk ho; have HB1 := Aside0.mk (below_step (pw_below_drewN (Below.refl _ w) nd) hb); clear ho hb)
          | (go_at_call 47; refine (xDelete1_i64 w _ w.heap.size v1 l0 j HIN.out HB1.out HO1.out).mono ?_; rintro e w2 ⟨v2, rfl, ho, hb⟩; obtain ⟨A2, c2, e2⟩ := Kd.R_slice ho; subst e2; have HO2 := Aside0.mk ho; have HB2 := Aside0.mk hb; clear ho hb)
          | ((with_reducible refine gate_dst (N := 22) rfl ?_); refine Kd.R_lit (Kd.int .i64) _ 3 ?hg (N := 22) ?hd (xs := ([a1] : List Int)) (inner := [.int .i64 a1]) (ok := fun _ => True) (okp := fun _ => True) ?hr ?hp (fun _ hk => hk) trivial (Below.refl _ _) (Nat.le_refl _) (by simp) ?_; (case hd => rfl); (case hg => rfl); (case hr => first | (go_simp; done) | (go_simp; rfl)); (case hp => exact (Reps.one (show Kd.M (Kd.int .i64) _ _ _ a1 [.int .i64 a1] from rfl) (Reps.none _ _))); intro v3 w3 ho hb hg_ hnew_; clear hg_ hnew_; obtain ⟨A3, c3, e3⟩ := Kd.R_slice ho; subst e3; have HO3 := Aside0.mk ho; have HB3 := Aside0.mk hb; clear ho hb)
          | (go_at_call 54; refine (xConcat2_i64 _ w3.heap.size A3 A2 c3 c2 [a1] (l0.eraseIdx j) (by simp) (by simp) (by simp) (Kd.C_alloc (Kd.R_reads' HO3.out).2.2 _) (Kd.C_alloc (Kd.C_below (Kd.R_reads' HO2.out).2.2 HB3.out) _) (by have := HL.out; have := HLE.out; simp only [List.length_cons, List.length_nil]; omega)).mono ?_; rintro e w5 ⟨v5, rfl, ho, hb⟩; rw [← HY.out] at ho; obtain ⟨A5, c5, e5⟩ := Kd.R_slice ho; subst e5; have HB4 := Aside0.mk (below_step HB2.out HB3.out); have HB5 := Aside0.mk (below_step (below_alloc HB4.out _) hb); have HO5 := Aside0.mk (Kd.R_lower ho (Nat.le_trans HB4.out.size (by simp))); have hcut := cut_to (P := Try.prog) 22 3 .i64 Try.underlying22 hi0 A5 y.length c5 a2 (by omega) (by omega) (Kd.R_reads' HO5.out).2.1; clear ho hb))
          go_ret2
          exact ⟨_, rfl, by rw [← h1, show (a1 :: l0.erase a1).take a2.toNat = y.take (a2 : Int).toNat by rw [HY2.out]]; exact Kd.R_take HO5.out (by omega), HB5.out⟩
        · have HS := Aside0.mk hs
          go_enter Try.func42, Try.ntmps42
          go_wp2_with (first
          | (go_at_call 50; refine (slices_Index_int_int.calls (l0.length + 1) A0 c0 l0 a1 (j : Int) _ HR0.out HC0.out HJ2.out).mono ?_; rintro e w' ⟨rfl, ⟨nd, rfl⟩⟩)
          | (go_at_call 49; refine (xClone_i64.calls A0 c0 l0 _ (Kd.C_drewN HR0.out _) HC0.out (by have := HL.out; omega)).mono ?_; rintro e w1 ⟨v1, rfl, ho, hb⟩; have HO1 := Aside0.mk ho; have HB1 := Aside0.mk (below_step (pw_below_drewN (Below.refl _ w) nd) hb); clear ho hb)
          | (go_at_call 47; refine (xDelete1_i64 w _ w.heap.size v1 l0 j HIN.out HB1.out HO1.out).mono ?_; rintro e w2 ⟨v2, rfl, ho, hb⟩; obtain ⟨A2, c2, e2⟩ := Kd.R_slice ho; subst e2; have HO2 := Aside0.mk ho; have HB2 := Aside0.mk hb; clear ho hb)
          | ((with_reducible refine gate_dst (N := 22) rfl ?_); refine Kd.R_lit (Kd.int .i64) _ 3 ?hg (N := 22) ?hd (xs := ([a1] : List Int)) (inner := [.int .i64 a1]) (ok := fun _ => True) (okp := fun _ => True) ?hr ?hp (fun _ hk => hk) trivial (Below.refl _ _) (Nat.le_refl _) (by simp) ?_; (case hd => rfl); (case hg => rfl); (case hr => first | (go_simp; done) | (go_simp; rfl)); (case hp => exact (Reps.one (show Kd.M (Kd.int .i64) _ _ _ a1 [.int .i64 a1] from rfl) (Reps.none _ _))); intro v3 w3 ho hb hg_ hnew_; clear hg_ hnew_; obtain ⟨A3, c3, e3⟩ := Kd.R_slice ho; subst e3; have HO3 := Aside0.mk ho; have HB3 := Aside0.mk hb; clear ho hb)
          | (go_at_call 54; refine (xConcat2_i64 _ w3.heap.size A3 A2 c3 c2 [a1] (l0.eraseIdx j) (by simp) (by simp) (by simp) (Kd.C_alloc (Kd.R_reads' HO3.out).2.2 _) (Kd.C_alloc (Kd.C_below (Kd.R_reads' HO2.out).2.2 HB3.out) _) (by have := HL.out; have := HLE.out; simp only [List.length_cons, List.length_nil]; omega)).mono ?_; rintro e w5 ⟨v5, rfl, ho, hb⟩; rw [← HY.out] at ho; obtain ⟨A5, c5, e5⟩ := Kd.R_slice ho; subst e5; have HB4 := Aside0.mk (below_step HB2.out HB3.out); have HB5 := Aside0.mk (below_step (below_alloc HB4.out _) hb); have HO5 := Aside0.mk (Kd.R_lower ho (Nat.le_trans HB4.out.size (by simp))); have hcut := cut_to (P := Try.prog) 22 3 .i64 Try.underlying22 hi0 A5 y.length c5 (y.length : Int) (by omega) (by omega) (Kd.R_reads' HO5.out).2.1; clear ho hb))
          go_ret2
          exact ⟨_, rfl, by rw [← h1, show (a1 :: l0.erase a1).take a2.toNat = y.take ((y.length : Int) : Int).toNat by (rw [Int.toNat_natCast, List.take_of_length_le (l := y) (Nat.le_refl _), HY2.out]; exact List.take_of_length_le (by have := HS.out; rw [HY2.out] at this; omega))]; exact Kd.R_take HO5.out (by omega), HB5.out⟩
      · have hnm : ¬ a1 ∈ l0 := fun hmem => hin (List.findIdx_lt_length.mpr ⟨a1, hmem, beq_iff_eq.mpr rfl⟩)
        have hct : r2 = false := by
          rw [← h2]
          exact Bool.eq_false_iff.mpr (fun hh => hnm (List.contains_iff_mem.mp hh))
        subst hct
        have HE := Aside0.mk (List.erase_of_not_mem hnm)
        have HJ := HIX.out
        rw [if_neg hin] at HJ
        have HJ2 := Aside0.mk HJ
        clear HJ hin HIX h2 H2 hnm
        obtain ⟨y, hy⟩ : ∃ y : List Int, y = [a1] ++ l0 := ⟨_, rfl⟩
        have HY := Aside0.mk hy
        clear hy
        have HY2 := Aside0.mk (show y = a1 :: l0.erase a1 from by rw [HY.out, HE.out]; rfl)
        by_cases hs : a2 < (y.length : Int)
        · have HS := Aside0.mk hs
          go_enter Try.func42, Try.ntmps42
          go_wp2_with (first
          | (go_at_call 50; refine (slices_Index_int_int.calls (l0.length + 1) A0 c0 l0 a1 (-1) _ HR0.out HC0.out HJ2.out).mono ?_; rintro e w' ⟨rfl, ⟨nd, rfl⟩⟩)
          | ((with_reducible refine gate_dst (N := 22) rfl ?_); refine Kd.R_lit (Kd.int .i64) _ 3 ?hg (N := 22) ?hd (xs := ([a1] : List Int)) (inner := [.int .i64 a1]) (ok := fun _ => True) (okp := fun _ => True) ?hr ?hp (fun _ hk => hk) trivial (Below.refl _ _) (Nat.le_refl _) (by simp) ?_; (case hd => rfl); (case hg => rfl); (case hr => first | (go_simp; done) | (go_simp; rfl)); (case hp => exact (Reps.one (show Kd.M (Kd.int .i64) _ _ _ a1 [.int .i64 a1] from rfl) (Reps.none _ _))); intro v3 w3 ho hb hg_ hnew_; clear hg_ hnew_; obtain ⟨A3, c3, e3⟩ := Kd.R_slice ho; subst e3; have HO3 := Aside0.mk ho; have HB3 := Aside0.mk hb; clear ho hb)
          | (go_at_call 54; refine (xConcat2_i64 _ w3.heap.size A3 A0 c3 c0 [a1] l0 (by simp) (by simp) (by simp) (Kd.C_alloc (Kd.R_reads' HO3.out).2.2 _) (Kd.C_alloc (Kd.C_below (Kd.C_drewN HR0.out nd) HB3.out) _) (by have := HL.out; simp only [List.length_cons, List.length_nil]; omega)).mono ?_; rintro e w5 ⟨v5, rfl, ho, hb⟩; rw [← HY.out] at ho; obtain ⟨A5, c5, e5⟩ := Kd.R_slice ho; subst e5; have HB4 := Aside0.mk (below_step (pw_below_drewN (Below.refl _ w) nd) HB3.out); have HB5 := Aside0.mk (below_step (below_alloc HB4.out _) hb); have HO5 := Aside0.mk (Kd.R_lower ho (Nat.le_trans HB4.out.size (by simp))); have hcut := cut_to (P := Try.prog) 22 3 .i64 Try.underlying22 hi0 A5 y.length c5 a2 (by omega) (by omega) (Kd.R_reads' HO5.out).2.1; clear ho hb))
          go_ret2
          exact ⟨_, rfl, by rw [← h1, show (a1 :: l0.erase a1).take a2.toNat = y.take (a2 : Int).toNat by rw [HY2.out]]; exact Kd.R_take HO5.out (by omega), HB5.out⟩
        · have HS := Aside0.mk hs
          go_enter Try.func42, Try.ntmps42
          go_wp2_with (first
          | (go_at_call 50; refine (slices_Index_int_int.calls (l0.length + 1) A0 c0 l0 a1 (-1) _ HR0.out HC0.out HJ2.out).mono ?_; rintro e w' ⟨rfl, ⟨nd, rfl⟩⟩)
          | ((with_reducible refine gate_dst (N := 22) rfl ?_); refine Kd.R_lit (Kd.int .i64) _ 3 ?hg (N := 22) ?hd (xs := ([a1] : List Int)) (inner := [.int .i64 a1]) (ok := fun _ => True) (okp := fun _ => True) ?hr ?hp (fun _ hk => hk) trivial (Below.refl _ _) (Nat.le_refl _) (by simp) ?_; (case hd => rfl); (case hg => rfl); (case hr => first | (go_simp; done) | (go_simp; rfl)); (case hp => exact (Reps.one (show Kd.M (Kd.int .i64) _ _ _ a1 [.int .i64 a1] from rfl) (Reps.none _ _))); intro v3 w3 ho hb hg_ hnew_; clear hg_ hnew_; obtain ⟨A3, c3, e3⟩ := Kd.R_slice ho; subst e3; have HO3 := Aside0.mk ho; have HB3 := Aside0.mk hb; clear ho hb)
          | (go_at_call 54; refine (xConcat2_i64 _ w3.heap.size A3 A0 c3 c0 [a1] l0 (by simp) (by simp) (by simp) (Kd.C_alloc (Kd.R_reads' HO3.out).2.2 _) (Kd.C_alloc (Kd.C_below (Kd.C_drewN HR0.out nd) HB3.out) _) (by have := HL.out; simp only [List.length_cons, List.length_nil]; omega)).mono ?_; rintro e w5 ⟨v5, rfl, ho, hb⟩; rw [← HY.out] at ho; obtain ⟨A5, c5, e5⟩ := Kd.R_slice ho; subst e5; have HB4 := Aside0.mk (below_step (pw_below_drewN (Below.refl _ w) nd) HB3.out); have HB5 := Aside0.mk (below_step (below_alloc HB4.out _) hb); have HO5 := Aside0.mk (Kd.R_lower ho (Nat.le_trans HB4.out.size (by simp))); have hcut := cut_to (P := Try.prog) 22 3 .i64 Try.underlying22 hi0 A5 y.length c5 (y.length : Int) (by omega) (by omega) (Kd.R_reads' HO5.out).2.1; clear ho hb))
          go_ret2
          exact ⟨_, rfl, by rw [← h1, show (a1 :: l0.erase a1).take a2.toNat = y.take ((y.length : Int) : Int).toNat by (rw [Int.toNat_natCast, List.take_of_length_le (l := y) (Nat.le_refl _), HY2.out]; exact List.take_of_length_le (by have := HS.out; rw [HY2.out] at this; omega))]; exact Kd.R_take HO5.out (by omega), HB5.out⟩
    · rw [if_neg h0] at h; cases h
  · rw [if_neg hb] at h; cases h

/-! ### slices_Clip_int_int: function 43 -/
def slices_Clip_int_int.f (l0 : List Int) : Option (List Int) := some l0
theorem slices_Clip_int_int.calls (A0 : Option Addr) (c0 : Nat) (l0 : List Int) (r : List Int) (w : World) (hr0 : Kd.C (Kd.int .i64) w A0 l0.length l0) (hc0 : l0.length ≤ c0) (h : slices_Clip_int_int.f l0 = some r) :
    Calls Try.prog 43 #[.slice A0 l0.length c0] w fun e w' => ∃ v0_ : Value, e = .returned v0_ ∧ v0_ = .slice A0 l0.length l0.length ∧ r = l0 ∧ Drawn0 w w' := by
  obtain rfl : l0 = r := Option.some.inj h
  go_enter Try.func43, Try.ntmps43
  go_wp2
  go_ret
  exact ⟨_, rfl, rfl, by first | rfl | trivial, ⟨0, rfl⟩⟩

/-- the first place, counted from n, at which p holds; -1 if there is none -/
def idxO {α : Type} (p : α → Option Bool) : List α → Int → Option Int
  | [], _ => some (-1)
  | x :: xs, n => (p x).bind fun b => if b = true then some n else idxO p xs (n + 1)
theorem idxO_at {α : Type} (p : α → Option Bool) (l : List α) (n : Nat) (h : n < l.length) : idxO p (l.drop n) (n : Int) = (p l[n]).bind fun b => if b = true then some (n : Int) else idxO p (l.drop (n + 1)) ((n + 1 : Nat) : Int) := by
  rw [List.drop_eq_getElem_cons h]; rfl
theorem idxO_mono {α : Type} (p q : α → Option Bool) (h : ∀ x, LeO (p x) (q x)) (l : List α) : ∀ n, LeO (idxO p l n) (idxO q l n) := by
  induction l with
  | nil => intro n; exact LeO.refl _
  | cons x xs ih => intro n; unfold idxO; exact LeO.bind (h x) (fun b => LeO.ite (LeO.refl _) (ih _))
set_option maxHeartbeats 4000000 in
/-- slices.IndexFunc: the first place at which the predicate holds -/
theorem xIndexFunc_i64 (p : Int → Option Bool) (g : Nat) (lb : Array Value) (eg : ∀ args w, (callFunc g args).run Try.prog w = .ok (.enter g args) w) (A0 : Option Addr) (c0 : Nat) (l0 : List Int) (i : Int) (w : World)
    (hr0 : Kd.C (Kd.int .i64) w A0 l0.length l0) (hc0 : l0.length ≤ c0) (hbig : l0.length < 9223372036854775807)
    (hp : ∀ (W : World) (x : Int) (b : Bool), Below w.heap.size w W → p x = some b → Calls Try.prog g (#[.int .i64 x] ++ lb) W fun e w' => e = .returned (.bool b) ∧ Below w.heap.size w w')
    (h : idxO p l0 0 = some i) :
    Calls Try.prog 55 #[.slice A0 l0.length c0, .func (.func g) #[] lb] w fun e w' => e = .returned (.int .i64 i) ∧ Below w.heap.size w w' := by
  have HR0 := Aside0.mk hr0
  have HC0 := Aside0.mk hc0
  have HP := Aside0.mk hp
  have HI := Aside0.mk h
  clear hr0 hc0 hp h
  go_enter Try.func55, Try.ntmps55
  go_wp2
  go_loopg [5, 8] l0.length (fun gg _ s8 wr => ∃ kk : Nat, kk ≤ l0.length ∧ l0.length - kk ≤ gg ∧ s8 = .int .i64 kk ∧ Aside0 (Below w.heap.size w wr) ∧ Aside0 (idxO p (l0.drop kk) (kk : Int) = some i))
  case atStart => exact ⟨0, Nat.zero_le _, by omega, rfl, ⟨Below.refl _ w⟩, HI⟩
  case round =>
    obtain ⟨kk, hkk, hg, rfl, BW, A⟩ := hrel
    clear HI
    by_cases hlt : kk < l0.length
    · have hltz : (kk : Int) < (l0.length : Int) := by omega
      have H := A.out
      clear A
      rw [idxO_at p l0 kk hlt] at H
      obtain ⟨b, hb, H⟩ := Option.bind_eq_some_iff.mp H
      have hcall := HP.out wr l0[kk] b BW.out hb
      have hrd : rd l0 (kk : Int) = l0[kk] := by unfold rd; simp [List.getD_eq_getElem?_getD, hlt]
      obtain ⟨ad, he, hy0⟩ := Kd.at_int (Kd.C_below HR0.out BW.out) (kk : Int) (by omega) hltz
      cases he
      have hx0 : wr.cell? (ad.add kk) = some (.int .i64 (l0[kk])) := by rw [← hrd]; exact hy0
      clear hy0
      generalize l0[kk] = x at *
      cases b with
      | true =>
        obtain rfl : (kk : Int) = i := Option.some.inj H
        clear H hb
        go_wp2_with (go_at_fn g; refine hcall.mono ?_; rintro e w' ⟨rfl, hb'⟩)
        go_ret
        exact ⟨rfl, hb'⟩
      | false =>
        have H' := Aside0.mk H
        clear H hb
        go_wp2_with (go_at_fn g; refine hcall.mono ?_; rintro e w' ⟨rfl, hb'⟩)
        go_roundg (l0.length - (kk + 1))
        case measure => omega
        case rel => exact ⟨kk + 1, by omega, by omega, by go_num, ⟨hb'⟩, ⟨by have z := H'.out; rw [if_neg (by decide)] at z; exact z⟩⟩
    · have hltz : ¬ (kk : Int) < (l0.length : Int) := by omega
      have H := A.out
      rw [List.drop_of_length_le (by omega)] at H
      obtain rfl : (-1 : Int) = i := Option.some.inj H
      clear H A
      go_wp2
      go_ret
      exact ⟨rfl, BW.out⟩
set_option maxHeartbeats 4000000 in
theorem xContainsFunc_i64 (p : Int → Option Bool) (g : Nat) (lb : Array Value) (eg : ∀ args w, (callFunc g args).run Try.prog w = .ok (.enter g args) w) (A0 : Option Addr) (c0 : Nat) (l0 : List Int) (i : Int) (w : World)
    (hr0 : Kd.C (Kd.int .i64) w A0 l0.length l0) (hc0 : l0.length ≤ c0) (hbig : l0.length < 9223372036854775807)
    (hp : ∀ (W : World) (x : Int) (b : Bool), Below w.heap.size w W → p x = some b → Calls Try.prog g (#[.int .i64 x] ++ lb) W fun e w' => e = .returned (.bool b) ∧ Below w.heap.size w w')
    (h : idxO p l0 0 = some i) :
    Calls Try.prog 44 #[.slice A0 l0.length c0, .func (.func g) #[] lb] w fun e w' => e = .returned (.bool (decide (i ≥ 0))) ∧ Below w.heap.size w w' := by
  have hcall := xIndexFunc_i64 p g lb eg A0 c0 l0 i w hr0 hc0 hbig hp h
  clear hr0 hc0 hbig hp h
  go_enter Try.func44, Try.ntmps44
  go_wp2_with (go_at_call 55; refine hcall.mono ?_; rintro e w' ⟨rfl, hb'⟩)
  go_ret
  exact ⟨rfl, hb'⟩
/-! ### xAll_i64_impl_isPage: function 29, with function 41 -/
def xAll_i64_impl_isPage.z (x : Int) : Option Bool := (impl_isPage.f x).bind fun b => some (!b)
def xAll_i64_impl_isPage.f (l0 : List Int) : Option (Bool) := if l0.length < 9223372036854775807 then ((idxO (xAll_i64_impl_isPage.z) l0 0).bind fun i => some (!decide (i ≥ 0))) else none
set_option maxHeartbeats 8000000 in
set_option maxRecDepth 100000 in
theorem xAll_i64_impl_isPage.calls (A0 : Option Addr) (c0 : Nat) (l0 : List Int) (r : Bool) (w : World) (hr0 : Kd.C (Kd.int .i64) w A0 l0.length l0) (hc0 : l0.length ≤ c0) (h : xAll_i64_impl_isPage.f l0 = some r) :
    Calls Try.prog 29 #[.slice A0 l0.length c0, .func (.func 41) #[] #[]] w fun e w' => e = .returned (.bool r) ∧ Below w.heap.size w w' := by
  have hbig : l0.length < 9223372036854775807 := by
    by_cases c : l0.length < 9223372036854775807
    · exact c
    · unfold xAll_i64_impl_isPage.f at h; rw [if_neg c] at h; cases h
  have h1 : ((idxO (xAll_i64_impl_isPage.z) l0 0).bind fun i => some (!decide (i ≥ 0))) = some r := by unfold xAll_i64_impl_isPage.f at h; rw [if_pos hbig] at h; exact h
  clear h
  obtain ⟨i, hi1, hi2⟩ := Option.bind_eq_some_iff.mp h1
  clear h1
  obtain rfl := Option.some.inj hi2
  clear hi2
  have eg : ∀ args w, (callFunc 45 args).run Try.prog w = .ok (.enter 45 args) w := enters_of Try.func45 (by kernel_rfl) rfl
  have hb1 : Below w.heap.size w (w.alloc (.cells #[.func (.func 41) #[] #[]] 42)) := (Below.refl _ w).alloc (Nat.le_refl _) _
  have hcall := xContainsFunc_i64 (xAll_i64_impl_isPage.z) 45 #[.pointer (some ⟨w.heap.size, 0, none⟩)] eg A0 c0 l0 i (w.alloc (.cells #[.func (.func 41) #[] #[]] 42)) (Kd.C_below hr0 hb1) hc0 hbig
    (by
      intro W x b hb hz
      have hcell : W.cell? ⟨w.heap.size, 0, none⟩ = some (.func (.func 41) #[] #[]) := (hb.cell (p := ⟨w.heap.size, 0, none⟩) (by simp)).trans (by simp)
      obtain ⟨b2, hq, hb2⟩ := Option.bind_eq_some_iff.mp hz
      obtain rfl : (!b2) = b := Option.some.inj hb2
      have hq' := Aside0.mk hq
      have hb' := Aside0.mk hb
      clear hb hz hb2 hq
      show Calls Try.prog 45 #[.int .i64 x, .pointer (some ⟨w.heap.size, 0, none⟩)] W _
      go_enter Try.func45, Try.ntmps45
      go_wp2_with (go_at_call 41; refine (impl_isPage.calls x b2 _ hq'.out).mono ?_; rintro e w' ⟨rfl, ⟨nd, rfl⟩⟩)
      go_ret
      exact ⟨rfl, by repeat (first | (with_reducible first | exact hb'.out | apply below_alloc | apply pw_below_drewN | apply below_drew1) | exact hb'.out)⟩)
    hi1
  have hb1' := Aside0.mk hb1
  clear hr0 hc0 hbig hi1 hb1 eg
  go_enter Try.func29, Try.ntmps29
  go_wp2_with (go_at_call 44; refine hcall.mono ?_; rintro e w' ⟨rfl, hb'⟩)
  go_ret
  exact ⟨rfl, below_then hb1'.out (by simp) hb'⟩

/-! ### impl_TouchLru: function 21 -/
def impl_TouchLru.j0 : Nat → List Int → Int → Int → Bool → Option (List Int × Bool × Bool)
  | 0, _, _, _, _ => none
  | k + 1, x0, x1, x2, x36 => if x36 = true then (some (([] : List Int), false, false)) else ((impl_touch.f x0 x1 x2).bind fun bt144 => ((slices_Clip_int_int.f bt144.1).bind fun t148 => (some (t148, bt144.2, true))))
def impl_TouchLru.f (k : Nat) (l0 : List Int) (a1 : Int) (a2 : Int) : Option (List Int × Bool × Bool) := (impl_isSize.f a2).bind fun t140 => (if t140 = true then (if (l0.length : Int) > a2 then (impl_TouchLru.j0 k l0 a1 a2 true) else ((xAll_i64_impl_isPage.f l0).bind fun t141 => (if t141 = true then ((impl_unlike.f l0).bind fun t142 => (if t142 = (l0.length : Int) then ((impl_isPage.f a1).bind fun t143 => (impl_TouchLru.j0 k l0 a1 a2 (!t143))) else (impl_TouchLru.j0 k l0 a1 a2 true))) else (impl_TouchLru.j0 k l0 a1 a2 true)))) else (impl_TouchLru.j0 k l0 a1 a2 true))
theorem impl_TouchLru.mono_l : ∀ k, (∀ y0 y1 y2 y3, LeO (impl_TouchLru.j0 k y0 y1 y2 y3) (impl_TouchLru.j0 (k + 1) y0 y1 y2 y3))
  | 0 => fun _ _ _ _ r h => by simp [impl_TouchLru.j0] at h
  | k + 1 => by
    have ih0 := impl_TouchLru.mono_l k
    · intro y0 y1 y2 y3
      unfold impl_TouchLru.j0
      repeat' first
      | (with_reducible exact ih0 _ _ _ _)
      | (with_reducible exact LeO.refl _)
      | (with_reducible exact LeO.none _)
      | (with_reducible refine LeO.ite ?_ ?_)
      | (with_reducible refine LeO.bind ?_ (fun _ => ?_))
      | exact ih0 _ _ _ _
      | exact LeO.none _
      | refine LeO.ite ?_ ?_
      | refine LeO.bind ?_ (fun _ => ?_)
theorem impl_TouchLru.mono : ∀ a0 a1 a2 k, LeO (impl_TouchLru.f k a0 a1 a2) (impl_TouchLru.f (k + 1) a0 a1 a2) := by
  intro a0 a1 a2 k
  have ih0 := impl_TouchLru.mono_l k
  unfold impl_TouchLru.f
  repeat' first
      | (with_reducible exact ih0 _ _ _ _)
      | (with_reducible exact LeO.refl _)
      | (with_reducible exact LeO.none _)
      | (with_reducible refine LeO.ite ?_ ?_)
      | (with_reducible refine LeO.bind ?_ (fun _ => ?_))
      | exact ih0 _ _ _ _
      | exact LeO.none _
      | refine LeO.ite ?_ ?_
      | refine LeO.bind ?_ (fun _ => ?_)
set_option maxHeartbeats 8000000 in
set_option maxRecDepth 100000 in
theorem impl_TouchLru.calls (k : Nat) (A0 : Option Addr) (c0 : Nat) (l0 : List Int) (a1 : Int) (a2 : Int) (r1 : List Int) (r2 : Bool) (r3 : Bool) (w : World) (hr0 : Kd.C (Kd.int .i64) w A0 l0.length l0) (hc0 : l0.length ≤ c0) (h : impl_TouchLru.f k l0 a1 a2 = some (r1, r2, r3)) :
    Calls Try.prog 21 #[.slice A0 l0.length c0, .int .i64 a1, .int .i64 a2] w fun e w' => ∃ v0_ : Value, e = .returned (.tuple #[v0_, .bool r2, .bool r3]) ∧ KdC.R (Kd.int .i64) 3 w' w.heap.size (fun _ => True) v0_ r1 ∧ Below w.heap.size w w' := by
  have HR0 := Aside0.mk hr0
  have HC0 := Aside0.mk hc0
  clear hr0 hc0
  have HB := Aside0.mk (Below.refl w.heap.size w)
  have H : ((impl_isSize.f a2).bind fun t140 => (if t140 = true then (if (l0.length : Int) > a2 then (impl_TouchLru.j0 k l0 a1 a2 true) else ((xAll_i64_impl_isPage.f l0).bind fun t141 => (if t141 = true then ((impl_unlike.f l0).bind fun t142 => (if t142 = (l0.length : Int) then ((impl_isPage.f a1).bind fun t143 => (impl_TouchLru.j0 k l0 a1 a2 (!t143))) else (impl_TouchLru.j0 k l0 a1 a2 true))) else (impl_TouchLru.j0 k l0 a1 a2 true)))) else (impl_TouchLru.j0 k l0 a1 a2 true))) = some (r1, r2, r3) := h
  clear h
  have HC4 := Aside0.mk H
  clear H
  go_enter Try.func21, Try.ntmps21
  go_upto_region 1 with (fail)
  go_cut [36] (fun v36 wc => ∃ (kq : Nat) (x36_3 : Bool), v36 = .bool x36_3 ∧ Aside0 (impl_TouchLru.j0 kq l0 a1 a2 x36_3 = some (r1, r2, r3)) ∧ Aside0 (kq ≤ k) ∧ Aside0 (Below w.heap.size w wc))
  case first =>
    have H := HC4.out
    clear HC4
    replace H := Option.bind_eq_some_iff.mp H
    obtain ⟨t140, A50, H⟩ := H
    replace H : (if t140 = true then (if (l0.length : Int) > a2 then (impl_TouchLru.j0 k l0 a1 a2 true) else ((xAll_i64_impl_isPage.f l0).bind fun t141 => (if t141 = true then ((impl_unlike.f l0).bind fun t142 => (if t142 = (l0.length : Int) then ((impl_isPage.f a1).bind fun t143 => (impl_TouchLru.j0 k l0 a1 a2 (!t143))) else (impl_TouchLru.j0 k l0 a1 a2 true))) else (impl_TouchLru.j0 k l0 a1 a2 true)))) else (impl_TouchLru.j0 k l0 a1 a2 true)) = some (r1, r2, r3) := H
    have A5 := Aside0.mk A50
    clear A50
    by_cases c6 : t140 = true
    · subst c6
      have H1 : (if (l0.length : Int) > a2 then (impl_TouchLru.j0 k l0 a1 a2 true) else ((xAll_i64_impl_isPage.f l0).bind fun t141 => (if t141 = true then ((impl_unlike.f l0).bind fun t142 => (if t142 = (l0.length : Int) then ((impl_isPage.f a1).bind fun t143 => (impl_TouchLru.j0 k l0 a1 a2 (!t143))) else (impl_TouchLru.j0 k l0 a1 a2 true))) else (impl_TouchLru.j0 k l0 a1 a2 true)))) = some (r1, r2, r3) := by rw [if_pos rfl] at H; exact H
      clear H
      have H := H1
      clear H1
      by_cases c7 : (l0.length : Int) > a2
      · rw [if_pos c7] at H
        have c7b0 : decide (a2 < (l0.length : Int)) = true := decide_eq_true c7
        clear c7
        (first | rw [c7b0] | (simp only [i64_w, i32_w]; rw [c7b0]) | skip)
        have H' := Aside0.mk H
        clear H
        go_wp2_with (first | ((with_reducible refine gate_callee (f := 28) rfl ?_); refine goesL_ (some 12) rfl rfl Try.func28 (by kernel_rfl) rfl #[.int .i64 a2] rfl (by (try simp only [List.map_toArray, List.map_cons, List.map_nil]); first | done | rfl | (simp only [List.length_drop, List.length_take]; rfl)) ?_; (with_reducible refine (impl_isSize.calls a2 true _ A5.out).mono ?_); rintro e w' ⟨rfl, ⟨nd, rfl⟩⟩; refine ⟨_, rfl, ?_⟩))
        go_meet
        case rel => exact ⟨_, (true), (by first | rfl | (simp; done) | (simp [*]; done)), H', ⟨by first | omega | exact Nat.le_refl _⟩, ⟨by repeat (first | (with_reducible first | exact HB.out | apply below_alloc | apply pw_below_drewN | apply below_drew1) | exact HB.out)⟩⟩
      · rw [if_neg c7] at H
        have c7b0 : decide (a2 < (l0.length : Int)) = false := decide_eq_false c7
        clear c7
        (first | rw [c7b0] | (simp only [i64_w, i32_w]; rw [c7b0]) | skip)
        replace H := Option.bind_eq_some_iff.mp H
        obtain ⟨t141, A80, H⟩ := H
        replace H : (if t141 = true then ((impl_unlike.f l0).bind fun t142 => (if t142 = (l0.length : Int) then ((impl_isPage.f a1).bind fun t143 => (impl_TouchLru.j0 k l0 a1 a2 (!t143))) else (impl_TouchLru.j0 k l0 a1 a2 true))) else (impl_TouchLru.j0 k l0 a1 a2 true)) = some (r1, r2, r3) := H
        have A8 := Aside0.mk A80
        clear A80
        by_cases c9 : t141 = true
        · subst c9
          have H1 : ((impl_unlike.f l0).bind fun t142 => (if t142 = (l0.length : Int) then ((impl_isPage.f a1).bind fun t143 => (impl_TouchLru.j0 k l0 a1 a2 (!t143))) else (impl_TouchLru.j0 k l0 a1 a2 true))) = some (r1, r2, r3) := by rw [if_pos rfl] at H; exact H
          clear H
          have H := H1
          clear H1
          replace H := Option.bind_eq_some_iff.mp H
          obtain ⟨t142, A100, H⟩ := H
          replace H : (if t142 = (l0.length : Int) then ((impl_isPage.f a1).bind fun t143 => (impl_TouchLru.j0 k l0 a1 a2 (!t143))) else (impl_TouchLru.j0 k l0 a1 a2 true)) = some (r1, r2, r3) := H
          have A10 := Aside0.mk A100
          clear A100
          by_cases c11 : t142 = (l0.length : Int)
          · rw [if_pos c11] at H
            have c11b0 : (t142 == (l0.length : Int)) = true := beq_iff_eq.mpr c11
            have c11b1 : (t142 != (l0.length : Int)) = false := bne_eq_false_iff_eq.mpr c11
            clear c11
            replace H := Option.bind_eq_some_iff.mp H
            obtain ⟨t143, A120, H⟩ := H
            replace H : (impl_TouchLru.j0 k l0 a1 a2 (!t143)) = some (r1, r2, r3) := H
            have A12 := Aside0.mk A120
            clear A120
            have H' := Aside0.mk H
            clear H
            go_wp2_with (first | ((with_reducible refine gate_callee (f := 28) rfl ?_); refine goesL_ (some 12) rfl rfl Try.func28 (by kernel_rfl) rfl #[.int .i64 a2] rfl (by (try simp only [List.map_toArray, List.map_cons, List.map_nil]); first | done | rfl | (simp only [List.length_drop, List.length_take]; rfl)) ?_; (with_reducible refine (impl_isSize.calls a2 true _ A5.out).mono ?_); rintro e w' ⟨rfl, ⟨nd, rfl⟩⟩; refine ⟨_, rfl, ?_⟩) | (go_at_call 29; (with_reducible refine (xAll_i64_impl_isPage.calls _ _ l0  true _ ?side1 ?side2 A8.out).mono ?_); (case side1 => repeat (first | exact (Kd.C_below HR0.out (by repeat (first | (with_reducible first | exact HB.out | apply below_alloc | apply pw_below_drewN | apply below_drew1) | exact HB.out))) | (with_reducible refine Kd.C_alloc ?_ _) | (with_reducible refine Kd.C_drewN ?_ _) | (with_reducible refine Kd.C_drew ?_))); (case side2 => exact HC0.out); rintro e w13 ⟨rfl, hb⟩; have n0_ := Aside0.mk (below_step (by repeat (first | (with_reducible first | exact HB.out | apply below_alloc | apply pw_below_drewN | apply below_drew1) | exact HB.out)) hb); clear HB; have HB := n0_; clear n0_; (try clear hb); (try clear hb2); (try clear hk); (try clear hi)) | (go_at_call 37; (with_reducible refine (impl_unlike.calls _ _ l0 t142 _ ?side1 ?side2 A10.out).mono ?_); (case side1 => repeat (first | exact (Kd.C_below HR0.out HB.out) | (with_reducible refine Kd.C_alloc ?_ _) | (with_reducible refine Kd.C_drewN ?_ _) | (with_reducible refine Kd.C_drew ?_))); (case side2 => exact HC0.out); rintro e w14 ⟨rfl, hb⟩; have n0_ := Aside0.mk (below_step (by repeat (first | (with_reducible first | exact HB.out | apply below_alloc | apply pw_below_drewN | apply below_drew1) | exact HB.out)) hb); clear HB; have HB := n0_; clear n0_; (try clear hb); (try clear hb2); (try clear hk); (try clear hi)) | (go_at_call 41; (with_reducible refine (impl_isPage.calls a1 t143 _ A12.out).mono ?_); rintro e w' ⟨rfl, ⟨nd, rfl⟩⟩))
            go_meet
            case rel => exact ⟨_, (!t143), (by first | rfl | (simp; done) | (simp [*]; done)), H', ⟨by first | omega | exact Nat.le_refl _⟩, ⟨by repeat (first | (with_reducible first | exact HB.out | apply below_alloc | apply pw_below_drewN | apply below_drew1) | exact HB.out)⟩⟩
          · rw [if_neg c11] at H
            have c11b0 : (t142 == (l0.length : Int)) = false := beq_eq_false_iff_ne.mpr c11
            have c11b1 : (t142 != (l0.length : Int)) = true := bne_iff_ne.mpr c11
            have H' := Aside0.mk H
            clear H
            go_wp2_with (first | ((with_reducible refine gate_callee (f := 28) rfl ?_); refine goesL_ (some 12) rfl rfl Try.func28 (by kernel_rfl) rfl #[.int .i64 a2] rfl (by (try simp only [List.map_toArray, List.map_cons, List.map_nil]); first | done | rfl | (simp only [List.length_drop, List.length_take]; rfl)) ?_; (with_reducible refine (impl_isSize.calls a2 true _ A5.out).mono ?_); rintro e w' ⟨rfl, ⟨nd, rfl⟩⟩; refine ⟨_, rfl, ?_⟩) | (go_at_call 29; (with_reducible refine (xAll_i64_impl_isPage.calls _ _ l0  true _ ?side1 ?side2 A8.out).mono ?_); (case side1 => repeat (first | exact (Kd.C_below HR0.out (by repeat (first | (with_reducible first | exact HB.out | apply below_alloc | apply pw_below_drewN | apply below_drew1) | exact HB.out))) | (with_reducible refine Kd.C_alloc ?_ _) | (with_reducible refine Kd.C_drewN ?_ _) | (with_reducible refine Kd.C_drew ?_))); (case side2 => exact HC0.out); rintro e w15 ⟨rfl, hb⟩; have n0_ := Aside0.mk (below_step (by repeat (first | (with_reducible first | exact HB.out | apply below_alloc | apply pw_below_drewN | apply below_drew1) | exact HB.out)) hb); clear HB; have HB := n0_; clear n0_; (try clear hb); (try clear hb2); (try clear hk); (try clear hi)) | (go_at_call 37; (with_reducible refine (impl_unlike.calls _ _ l0 t142 _ ?side1 ?side2 A10.out).mono ?_); (case side1 => repeat (first | exact (Kd.C_below HR0.out HB.out) | (with_reducible refine Kd.C_alloc ?_ _) | (with_reducible refine Kd.C_drewN ?_ _) | (with_reducible refine Kd.C_drew ?_))); (case side2 => exact HC0.out); rintro e w16 ⟨rfl, hb⟩; have n0_ := Aside0.mk (below_step (by repeat (first | (with_reducible first | exact HB.out | apply below_alloc | apply pw_below_drewN | apply below_drew1) | exact HB.out)) hb); clear HB; have HB := n0_; clear n0_; (try clear hb); (try clear hb2); (try clear hk); (try clear hi)))
            go_meet
            case rel => exact ⟨_, (true), (by first | rfl | (simp; done) | (simp [*]; done)), H', ⟨by first | omega | exact Nat.le_refl _⟩, ⟨by repeat (first | (with_reducible first | exact HB.out | apply below_alloc | apply pw_below_drewN | apply below_drew1) | exact HB.out)⟩⟩
        · replace c9 := Bool.eq_false_iff.mpr c9
          subst c9
          have H1 : (impl_TouchLru.j0 k l0 a1 a2 true) = some (r1, r2, r3) := by rw [if_neg (show ¬ (false = true) by decide)] at H; exact H
          clear H
          have H := H1
          clear H1
          have H' := Aside0.mk H
          clear H
          go_wp2_with (first | ((with_reducible refine gate_callee (f := 28) rfl ?_); refine goesL_ (some 12) rfl rfl Try.func28 (by kernel_rfl) rfl #[.int .i64 a2] rfl (by (try simp only [List.map_toArray, List.map_cons, List.map_nil]); first | done | rfl | (simp only [List.length_drop, List.length_take]; rfl)) ?_; (with_reducible refine (impl_isSize.calls a2 true _ A5.out).mono ?_); rintro e w' ⟨rfl, ⟨nd, rfl⟩⟩; refine ⟨_, rfl, ?_⟩) | (go_at_call 29; (with_reducible refine (xAll_i64_impl_isPage.calls _ _ l0  false _ ?side1 ?side2 A8.out).mono ?_); (case side1 => repeat (first | exact (Kd.C_below HR0.out (by repeat (first | (with_reducible first | exact HB.out | apply below_alloc | apply pw_below_drewN | apply below_drew1) | exact HB.out))) | (with_reducible refine Kd.C_alloc ?_ _) | (with_reducible refine Kd.C_drewN ?_ _) | (with_reducible refine Kd.C_drew ?_))); (case side2 => exact HC0.out); rintro e w17 ⟨rfl, hb⟩; have n0_ := Aside0.mk (below_step (by repeat (first | (with_reducible first | exact HB.out | apply below_alloc | apply pw_below_drewN | apply below_drew1) | exact HB.out)) hb); clear HB; have HB := n0_; clear n0_; (try clear hb); (try clear hb2); (try clear hk); (try clear hi)))
          go_meet
          case rel => exact ⟨_, (true), (by first | rfl | (simp; done) | (simp [*]; done)), H', ⟨by first | omega | exact Nat.le_refl _⟩, ⟨by repeat (first | (with_reducible first | exact HB.out | apply below_alloc | apply pw_below_drewN | apply below_drew1) | exact HB.out)⟩⟩
    · replace c6 := Bool.eq_false_iff.mpr c6
      subst c6
      have H1 : (impl_TouchLru.j0 k l0 a1 a2 true) = some (r1, r2, r3) := by rw [if_neg (show ¬ (false = true) by decide)] at H; exact H
      clear H
      have H := H1
      clear H1
      have H' := Aside0.mk H
      clear H
      go_wp2_with (first | ((with_reducible refine gate_callee (f := 28) rfl ?_); refine goesL_ (some 12) rfl rfl Try.func28 (by kernel_rfl) rfl #[.int .i64 a2] rfl (by (try simp only [List.map_toArray, List.map_cons, List.map_nil]); first | done | rfl | (simp only [List.length_drop, List.length_take]; rfl)) ?_; (with_reducible refine (impl_isSize.calls a2 false _ A5.out).mono ?_); rintro e w' ⟨rfl, ⟨nd, rfl⟩⟩; refine ⟨_, rfl, ?_⟩))
      go_meet
      case rel => exact ⟨_, (true), (by first | rfl | (simp; done) | (simp [*]; done)), H', ⟨by first | omega | exact Nat.le_refl _⟩, ⟨by repeat (first | (with_reducible first | exact HB.out | apply below_alloc | apply pw_below_drewN | apply below_drew1) | exact HB.out)⟩⟩
  case rest =>
    clear HC4
    try clear c1
    try clear c2
    try clear p2
    try clear c6
    try clear c7
    try clear c7b0
    try clear c9
    try clear c11
    try clear c11b0
    try clear c11b1
    obtain ⟨kq, x36_3, rfl, HA, HJ3, HB⟩ := hcut
    cases kq with
    | zero => exact absurd HA.out (by simp [impl_TouchLru.j0])
    | succ kj3 =>
      have H := HA.out
      clear HA
      simp only [impl_TouchLru.j0] at H
      by_cases c18 : x36_3 = true
      · subst c18
        have H1 : (some (([] : List Int), false, false)) = some (r1, r2, r3) := by rw [if_pos rfl] at H; exact H
        clear H
        have H := H1
        clear H1
        simp only [Option.some.injEq, Prod.mk.injEq] at H
        obtain ⟨rfl, rfl, rfl⟩ := H
        go_wp2
        go_ret3
        exact ⟨_, by first | rfl | (simp [errW_none, errW_some] <;> rfl) | (simp [*, errW_none, errW_some] <;> rfl), by first | exact KdC.R_nil _ _ _ _ _ | exact Kd.R_nil _ _ _ _ _ | exact Kd.N_nil _ _ _ _ _ | exact Kd.V_nil _ _ _ _ _ | exact Kd.Q_nil _ _ _ _ _ | exact Kd.S_nil _ _ _ _ _, by repeat (first | (with_reducible first | exact HB.out | apply below_alloc | apply pw_below_drewN | apply below_drew1) | exact HB.out)⟩
      · replace c18 := Bool.eq_false_iff.mpr c18
        subst c18
        have H1 : ((impl_touch.f l0 a1 a2).bind fun bt144 => ((slices_Clip_int_int.f bt144.1).bind fun t148 => (some (t148, bt144.2, true)))) = some (r1, r2, r3) := by rw [if_neg (show ¬ (false = true) by decide)] at H; exact H
        clear H
        have H := H1
        clear H1
        replace H := Option.bind_eq_some_iff.mp H
        obtain ⟨⟨t144, t145⟩, A190, H⟩ := H
        replace H : ((slices_Clip_int_int.f t144).bind fun t148 => (some (t148, t145, true))) = some (r1, r2, r3) := H
        have A19 := Aside0.mk A190
        clear A190
        replace H := Option.bind_eq_some_iff.mp H
        obtain ⟨t148, A200, H⟩ := H
        replace H : (some (t148, t145, true)) = some (r1, r2, r3) := H
        have A20 := Aside0.mk A200
        clear A200
        simp only [Option.some.injEq, Prod.mk.injEq] at H
        obtain ⟨rfl, rfl, rfl⟩ := H
        go_wp2_with (first | ((with_reducible refine gate_callee (f := 42) rfl ?_); refine goesL_ (some 41) rfl rfl Try.func42 (by kernel_rfl) rfl #[.slice A0 l0.length c0, .int .i64 a1, .int .i64 a2] rfl (by (try simp only [List.map_toArray, List.map_cons, List.map_nil]); first | done | rfl | (simp only [List.length_drop, List.length_take]; rfl)) ?_; (with_reducible refine (impl_touch.calls _ _ l0 a1 a2 t144 t145 _ ?side1 ?side2 A19.out).mono ?_); (case side1 => repeat (first | exact (Kd.C_below HR0.out HB.out) | (with_reducible refine Kd.C_alloc ?_ _) | (with_reducible refine Kd.C_drewN ?_ _) | (with_reducible refine Kd.C_drew ?_))); (case side2 => exact HC0.out); rintro e w21 ⟨v146, rfl, ho0, hb⟩; refine ⟨_, rfl, ?_⟩; have n0_ := Aside0.mk (Kd.R_lower ho0 (below_size (by repeat (first | (with_reducible first | exact HB.out | apply below_alloc | apply pw_below_drewN | apply below_drew1) | exact HB.out)))); have n1_ := Aside0.mk (below_step (by repeat (first | (with_reducible first | exact HB.out | apply below_alloc | apply pw_below_drewN | apply below_drew1) | exact HB.out)) hb); clear HB; have HO147 := n0_; have HB := n1_; clear n0_ n1_; (try clear hb); (try clear hb2); (try clear hk); (try clear hi); (try clear ho0); obtain ⟨Ao22, co22, eo22⟩ := Kd.R_slice HO147.out; subst eo22) | ((with_reducible refine gate_callee (f := 43) rfl ?_); refine goesL_ (some 45) rfl rfl Try.func43 (by kernel_rfl) rfl #[.slice Ao22 t144.length co22] rfl (by (try simp only [List.map_toArray, List.map_cons, List.map_nil]); first | done | rfl | (simp only [List.length_drop, List.length_take]; rfl)) ?_; (with_reducible refine (slices_Clip_int_int.calls _ _ t144 t148 _ ?side1 ?side2 A20.out).mono ?_); (case side1 => repeat (first | exact (Kd.R_reads' HO147.out).2.2 | (with_reducible refine Kd.C_alloc ?_ _) | (with_reducible refine Kd.C_drewN ?_ _) | (with_reducible refine Kd.C_drew ?_))); (case side2 => exact (Kd.R_reads' HO147.out).2.1); rintro e w23 ⟨v149, rfl, ev_, er_, ⟨nd_, rfl⟩⟩; subst ev_; refine ⟨_, rfl, ?_⟩; subst er_; have HO150 := Aside0.mk (KdC.R_clip HO147.out); (try clear hb); (try clear hb2); (try clear hk); (try clear hi); (try clear ho0)))
        go_ret3
        exact ⟨_, by first | rfl | (simp [errW_none, errW_some] <;> rfl) | (simp [*, errW_none, errW_some] <;> rfl), by (with_reducible repeat (first | apply KdC.R_alloc | apply KdC.R_drewN | apply KdC.R_drew)); exact KdC.R_mono HO150.out (fun _ hk => trivial), by repeat (first | (with_reducible first | exact HB.out | apply below_alloc | apply pw_below_drewN | apply below_drew1) | exact HB.out)⟩

end Go.Proofs.Ytcmlledlhknbpaa.PFnExactTouchLru
