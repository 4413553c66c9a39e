-- Written by a program of this project (xprint.py) out of the translation; Lean checks it.
import Derived.Test.YtgkoclacdmmkiaaPFnExactHitsOfx0
import Derived.Test.YtgkoclacdmmkiaaPFnExactHitsOfx1
import Derived.Test.YtgkoclacdmmkiaaPFnExactHitsOfx2
namespace Go.Proofs.Ytgkoclacdmmkiaa.PFnExactHitsOf
open Go.RowKit Go.Proofs.YtgkoclacdmmkiaaW.PrintWords Go.Proofs.YtgkoclacdmmkiaaW.PrintLast Go.Proofs.YtgkoclacdmmkiaaW.PrintMore
attribute [local go_sem] max2_int min2_int max_two min_two max_three min_three max_four min_four   -- for this text's walks alone
set_option linter.unusedVariables false
set_option linter.unusedSimpArgs false

set_option maxHeartbeats 4000000 in
theorem xClone_i64.calls (A0 : Option Addr) (c0 : Nat) (l0 : List Int) (w : World) (hr0 : Kd.C (Kd.int .i64) w A0 l0.length l0) (hc0 : l0.length ≤ c0) (hbig : l0.length < 17592186044416) :
    Calls Try.prog 47 #[.slice A0 l0.length c0] w fun e w' => ∃ v0_ : Value, e = .returned (v0_) ∧ Kd.R (Kd.int .i64) 3 w' w.heap.size (fun _ => True) v0_ l0 ∧ Below w.heap.size w w' := by
  have HR0 := Aside0.mk hr0
  have HC0 := Aside0.mk hc0
  have HG := Aside0.mk hbig
  have HB := Aside0.mk (Below.refl w.heap.size w)
  clear hc0 hbig
  have q22 : ∀ (w : World) (a : Option Addr) (n c n' c' : Nat), (binOp .eql 22 (.slice a n c) (.slice none n' c')).run Try.prog w = .ok (.bool a.isNone) w := fun w a n c n' c' => Lib.run_eql_slice_nil w _ _ a n c n' c' Try.underlying22
  cases A0 with
  | none =>
    have hl : l0 = [] := by
      cases l0 with
      | nil => rfl
      | cons x xs => obtain ⟨ad, c, he, _⟩ := Kd.C_get hr0 (0 : Int) 0 (by omega) (by simp); cases he
    clear hr0
    subst hl
    go_enter Try.func47, Try.ntmps47
    go_wp2
    go_ret
    exact ⟨_, rfl, Kd.R_nil _ _ _ _ _, HB.out⟩
  | some ad =>
    clear hr0
    go_enter Try.func47, Try.ntmps47
    go_wp2_with (first
      | ((with_reducible refine gate_dst (N := 5) rfl ?_); refine Kd.R_lit (Kd.int .i64) w.heap.size 3 ?hg (N := 5) ?hd (xs := ([] : List Int)) (inner := []) (ok := fun _ => True) (okp := fun _ => True) ?hr ?hp (fun _ hk => hk) trivial (Below.refl _ _) (Nat.le_refl _) (by simp) ?_; (case hd => rfl); (case hg => rfl); (case hr => first | (go_simp; done) | (go_simp; rfl)); (case hp => exact (Reps.none _ _)); intro v1 w1 ho1 hb1 hg_ hnew_; clear hg_ hnew_; have HO1 := Aside0.mk ho1; have HB1 := Aside0.mk hb1; clear ho1 hb1)
      | ((with_reducible refine gate_builtin (b := .append) (xs := #[.tmp 5, .tmp 6]) rfl ?_); at_builtin; refine Kd.R_append_rows (Kd.int .i64) (w0 := w) w.heap.size rfl (.tmp 5) (.tmp 6) 22 3 (.int .i64 0) 8 rfl Try.underlying22 xinfo3 rfl (by decide) (by omega) v1 [] l0 _ _ _ (fun _ => True) (fun _ => False) rfl rfl ?aO ?aR (fun _ _ h => h) (fun _ h => h.elim) ?aF ?aB ?aS ?aL ?_; (case aR => exact Kd.C_below HR0.out HB1.out); (case aB => exact HB1.out); (case aF => exact fun _ _ => trivial); (case aO => exact HO1.out); (case aS => exact HB1.out.size); (case aL => have := HG.out; simp; omega); intro v2 w2 ho hb hg hat; have HO2 := Aside0.mk ho; have HB2 := Aside0.mk hb; clear ho hb hg hat))
    go_ret
    exact ⟨_, rfl, HO2.out, HB2.out⟩
/-- a row of whole numbers of the call's own, written over, and perhaps made shorter -/
theorem xOver_i64 {w0 w : World} {base e g cap n m q : Nat} {xs ys : List Int} (hB : Below base w0 w) (ho : Kd.R (Kd.int .i64) e w base (fun _ => True) (.slice (some ⟨g, 0, none⟩) n cap) xs) (hl : ys.length = xs.length) (hm : m ≤ ys.length) :
    Kd.R (Kd.int .i64) e ((w.drewN q).setCells g 0 (ys.map (Value.int .i64))) base (fun _ => True) (.slice (some ⟨g, 0, none⟩) m cap) (ys.take m) ∧ Below base w0 ((w.drewN q).setCells g 0 (ys.map (Value.int .i64))) := by
  obtain ⟨h1, h2⟩ := Kd.own_of_R ho
  rcases h2 with ⟨hn, _⟩ | ⟨g', cap', cur, hv, hb, hg, hnc, hcm, hcs, ht⟩
  · cases hn
  · injection hv with hv1 hv2 hv3
    injection hv1 with hv1
    injection hv1 with hv1
    subst hv1 hv3
    have hg2 : (w.drewN q).heap[g]? = some (.cells cur e (0, 0)) := hg
    obtain ⟨cur', h3, h4, h5⟩ := setCells_row (ys.map (Value.int .i64)) 0 (w.drewN q) cur hg2 (by rw [List.length_map, hcs]; omega)
    refine ⟨Kd.R_of_own (h1 := fun _ => rfl) ⟨by rw [encs_length]; simp, .inr ⟨g, cap, cur', by rw [List.length_take]; congr 1; omega, hb, h3, by rw [List.length_take]; omega, hcm, by rw [h4, hcs], ?_⟩⟩ (fun _ _ => trivial), ?_⟩
    · rw [h5, List.length_take, List.take_zero, List.nil_append, List.take_append_of_le_length (by simp; omega), Nat.mul_one, Nat.min_eq_left hm]
      simp [encs, List.map_take]
    · obtain ⟨a1, a2, a3, a4⟩ := setCells_same g (ys.map (Value.int .i64)) 0 (w.drewN q)
      exact ⟨a1.trans hB.os, a2.trans hB.tape, a3.trans hB.output, by rw [a4]; exact hB.size, fun k hk => (setCells_far _ 0 k (by omega)).trans (hB.block k hk)⟩
theorem xOwn_slice {e : Nat} {w : World} {base : Nat} {ok : Nat → Prop} {v : Value} {xs : List Int} (h : Kd.R (Kd.int .i64) e w base ok v xs) (hx : xs ≠ []) :
    ∃ g cap, v = .slice (some ⟨g, 0, none⟩) xs.length cap ∧ xs.length ≤ cap ∧ cap ≤ maxLen ∧ ∀ j, j < xs.length → w.cell? ⟨g, 0 + j, none⟩ = some (.int .i64 (xs.getD j 0)) ∧ w.frozen? ⟨g, 0 + j, none⟩ = false := by
  obtain ⟨h1, h2⟩ := Kd.own_of_R h
  rcases h2 with ⟨_, hn⟩ | ⟨g, cap, cur, hv, hb, hg, hnc, hcm, hcs, ht⟩
  · exact absurd (List.eq_nil_of_length_eq_zero hn) hx
  · refine ⟨g, cap, hv, hnc, hcm, fun j hj => ?_⟩
    subst hv
    have h3 := Kd.R_cell (0 : Int) h (j : Int) (by omega) (by omega)
    rw [Nat.zero_add]
    exact h3
set_option maxHeartbeats 4000000 in
/-- slices.Delete of one element of a row of the call's own -/
theorem xDelete1_i64 (w0 w : World) (base : Nat) (v : Value) (l : List Int) (i : Nat) (hi : i < l.length) (hB : Below base w0 w) (ho : Kd.R (Kd.int .i64) 3 w base (fun _ => True) v l) :
    Calls Try.prog 49 #[v, .int .i64 i, .int .i64 ((i : Int) + 1)] w fun e w' => ∃ v0_ : Value, e = .returned (v0_) ∧ Kd.R (Kd.int .i64) 3 w' base (fun _ => True) v0_ (l.eraseIdx i) ∧ Below base w0 w' := by
  obtain ⟨g, cap, rfl, hc1, hc2, hcell⟩ := xOwn_slice ho (by intro h; rw [h] at hi; simp at hi)
  have hm : (maxLen : Nat) = 9223372036854775807 := rfl
  rw [show ((i : Int) + 1) = ((i + 1 : Nat) : Int) by omega]
  refine (Try.slices_Delete_int_cells g 0 l.length cap i (i + 1) l w (Nat.le_refl _) hc1 (by omega) (by omega) (by omega) (fun j hj => (hcell j hj).1) (fun j hj => (hcell j hj).2)).mono ?_
  rintro e w' ⟨rfl, q, rfl⟩
  have hlen : (l.take i ++ l.drop (i + 1)).length = l.length - 1 := by simp; omega
  have hfull : List.take l.length l = l := List.take_of_length_le (Nat.le_refl _)
  rw [hfull]
  have hk := xOver_i64 (q := q) (m := l.length - 1) (ys := l.take i ++ l.drop (i + 1) ++ List.replicate (i + 1 - i) 0) hB ho (by rw [List.length_append, hlen]; simp; omega) (by rw [List.length_append, hlen]; omega)
  refine ⟨_, rfl, ?_, hk.2⟩
  have e3 : List.take (l.length - 1) (l.take i ++ l.drop (i + 1) ++ List.replicate (i + 1 - i) (0 : Int)) = l.take i ++ l.drop (i + 1) := by
    rw [List.take_append_of_le_length (by omega)]
    exact List.take_of_length_le (by omega)
  have h2 := hk.1
  rw [e3] at h2
  rw [show l.length - (i + 1 - i) = l.length - 1 by omega, List.eraseIdx_eq_take_drop_succ]
  exact h2
set_option maxHeartbeats 8000000 in
set_option maxRecDepth 100000 in
/-- slices.Grow of nothing: an empty row with room -/
theorem xGrow0_i64 (w : World) (n : Nat) (hn : n < 17592186044416) :
    Calls Try.prog 51 #[.slice none 0 0, .int .i64 n] w fun e w' => ∃ v0_ : Value, e = .returned (v0_) ∧ Kd.R (Kd.int .i64) 3 w' w.heap.size (fun _ => True) v0_ [] ∧ Below w.heap.size w w' := by
  by_cases h0 : n = 0
  · subst h0
    go_enter Try.func51, Try.ntmps51
    go_wp2
    go_ret
    exact ⟨_, rfl, Kd.R_nil _ _ _ _ _, Below.refl _ _⟩
  · have hp : (0 : Int) < (n : Int) := by omega
    have hw : wrap64 (n : Int) = (n : Int) := by unfold wrap64; omega
    have HN := Aside0.mk hn
    clear hn h0
    obtain ⟨A, hA⟩ : ∃ A : Option Addr, A = none := ⟨_, rfl⟩
    have HO0 := Aside0.mk (show ∀ W : World, Kd.R (Kd.int .i64) 3 W w.heap.size (fun _ => True) (.slice A 0 0) [] from fun W => by rw [hA]; exact Kd.R_nil _ _ _ _ _)
    rw [← hA]
    clear hA
    obtain ⟨i0, hi0, _, hsz0, _⟩ := info_parts xinfo3
    have hcut0 := cut_to (P := Try.prog) 22 3 .i64 Try.underlying22 hi0 A 0 0 0 (by omega) (by omega) (by omega)
    simp only [Int.toNat_zero] at hcut0
    go_enter Try.func51, Try.ntmps51
    go_wp2_with (((with_reducible refine gate_builtin (b := .append) (xs := #[.tmp 20, .tmp 21]) rfl ?_); at_builtin; (refine Kd.R_append_zeros (Kd.int .i64) (w0 := w) w.heap.size rfl (.tmp 20) (.tmp 21) 22 3 3 (.int .i64 0) 8 rfl Try.underlying22 Try.underlying3 xinfo3 rfl (by decide) (by omega) (.slice A 0 0) [] (0 : Int) (wrap64 (n : Int)) (fun _ => True) rfl rfl rfl (fun _ _ => trivial) (HO0.out _) (by rw [hw]; omega) (Below.refl _ _) (Nat.le_refl _) ?aL ?_); (case aL => have := HN.out; rw [hw]; simp; omega); intro v1 w1 ho hb hg hat; obtain ⟨y, hy⟩ : ∃ y : List Int, y = ([] : List Int) ++ List.replicate (wrap64 (n : Int)).toNat 0 := ⟨_, rfl⟩; rw [← hy] at ho; clear hy; obtain ⟨A1, c1, e1⟩ := Kd.R_slice ho; subst e1; have HO1 := Aside0.mk ho; have HB1 := Aside0.mk hb; have hcut := cut_to (P := Try.prog) 22 3 .i64 Try.underlying22 hi0 A1 y.length c1 0 (by omega) (by omega) (Kd.R_reads' HO1.out).2.1; simp only [Int.toNat_zero] at hcut; clear ho hb hg hat))
    go_ret
    exact ⟨_, rfl, Kd.R_take (m := 0) HO1.out (by omega), HB1.out⟩
set_option maxHeartbeats 8000000 in
set_option maxRecDepth 100000 in
/-- slices.Concat of two rows -/
theorem xConcat2_i64 (w : World) (g : Nat) (Aa Ab : Option Addr) (ca cb : Nat) (la lb : List Int) (hg : g < w.heap.size)
    (h0 : w.cell? ⟨g, 0, none⟩ = some (.slice Aa la.length ca)) (h1 : w.cell? ⟨g, 1, none⟩ = some (.slice Ab lb.length cb))
    (hra : Kd.C (Kd.int .i64) w Aa la.length la) (hrb : Kd.C (Kd.int .i64) w Ab lb.length lb) (hn : la.length + lb.length < 17592186044416) :
    Calls Try.prog 50 #[.slice (some ⟨g, 0, none⟩) 2 2] w fun e w' => ∃ v0_ : Value, e = .returned (v0_) ∧ Kd.R (Kd.int .i64) 3 w' w.heap.size (fun _ => True) v0_ (la ++ lb) ∧ Below w.heap.size w w' := by
  have HN := Aside0.mk hn
  have HRA := Aside0.mk hra
  have HRB := Aside0.mk hrb
  have H0 := Aside0.mk h0
  have H1 := Aside0.mk h1
  have HG := Aside0.mk hg
  have e1 : wrap64 (0 + (la.length : Int)) = (la.length : Int) := by unfold wrap64; omega
  have e2 : wrap64 ((la.length : Int) + (lb.length : Int)) = ((la.length + lb.length : Nat) : Int) := by unfold wrap64; omega
  have E1 := Aside0.mk e1
  have E2 := Aside0.mk e2
  clear hn hra hrb h0 h1 hg e1 e2
  go_enter Try.func50, Try.ntmps50
  go_wp2
  go_loopg [3, 11] 2 (fun gg s3 s11 wr => ∃ (kk : Nat) (sz : Nat), kk ≤ 2 ∧ 2 - kk ≤ gg ∧ s11 = .int .i64 kk ∧ s3 = .int .i64 sz ∧ Aside0 (Drawn0 w wr) ∧ Aside0 (kk = 0 ∧ sz = 0 ∨ kk = 1 ∧ sz = la.length ∨ kk = 2 ∧ sz = la.length + lb.length))
  case atStart => exact ⟨0, 0, by omega, by omega, rfl, rfl, ⟨Drawn0.refl _⟩, ⟨.inl ⟨rfl, rfl⟩⟩⟩
  case round =>
    obtain ⟨kk, sz, hk, hgk, rfl, rfl, ⟨nd, rfl⟩, HS⟩ := hrel
    obtain ⟨rfl, rfl⟩ | ⟨rfl, rfl⟩ | ⟨rfl, rfl⟩ := HS.out
    · have hc : w.cell? ⟨g, 0, none⟩ = some (.slice Aa la.length ca) := H0.out
      have hw := E1.out
      have hp : ¬ (la.length : Int) < 0 := by omega
      simp only [Int.zero_add] at hw
      go_wp2
      go_roundg 1
      case measure => omega
      case rel => exact ⟨1, la.length, by omega, by omega, rfl, by first | rfl | (simp; done) | (simp [hw]; done), ⟨by repeat (first | exact Drawn0.refl _ | apply Drawn0.step)⟩, ⟨.inr (.inl ⟨rfl, rfl⟩)⟩⟩
    · have hc : w.cell? ⟨g, 1, none⟩ = some (.slice Ab lb.length cb) := H1.out
      have hw := E2.out
      have hp : ¬ ((la.length + lb.length : Nat) : Int) < 0 := by omega
      go_wp2
      go_roundg 0
      case measure => omega
      case rel => exact ⟨2, la.length + lb.length, by omega, by omega, rfl, by first | rfl | (simp; done) | (simp [hw]; done), ⟨by repeat (first | exact Drawn0.refl _ | apply Drawn0.step)⟩, ⟨.inr (.inr ⟨rfl, rfl⟩)⟩⟩
    · go_wp2_with (go_at_call 51; refine (xGrow0_i64 _ (la.length + lb.length) HN.out).mono ?_; rintro e w1 ⟨v1, rfl, ho, hb⟩)
      have HO := Aside0.mk ho
      have HB := Aside0.mk (below_then (pw_below_drewN (Below.refl _ w) nd) (Nat.le_refl _) hb)
      clear ho hb HS
      go_loopg [6, 27] 2 (fun gg s6 s27 wr => ∃ (kk : Nat) (v : Value) (ys : List Int), kk ≤ 2 ∧ 2 - kk ≤ gg ∧ s27 = .int .i64 kk ∧ v = s6 ∧ Aside0 (Below w.heap.size w wr) ∧ Aside0 (Kd.R (Kd.int .i64) 3 wr w.heap.size (fun _ => True) v ys) ∧ Aside0 (kk = 0 ∧ ys = [] ∨ kk = 1 ∧ ys = la ∨ kk = 2 ∧ ys = la ++ lb))
      case atStart => exact ⟨0, v1, [], by omega, by omega, rfl, rfl, HB, HO, ⟨.inl ⟨rfl, rfl⟩⟩⟩
      case round =>
        clear HB HO
        obtain ⟨kk, v, ys, hk, hgk, rfl, rfl, HB, HO, HS⟩ := hrel
        obtain ⟨rfl, rfl⟩ | ⟨rfl, rfl⟩ | ⟨rfl, rfl⟩ := HS.out
        · have hc : wr.cell? ⟨g, 0, none⟩ = some (.slice Aa la.length ca) := (HB.out.cell (p := ⟨g, 0, none⟩) HG.out).trans H0.out
          go_wp2_with ((with_reducible refine gate_builtin (b := .append) (xs := #[.tmp 31, .tmp 32]) rfl ?_); at_builtin; (refine Kd.R_append_rows (Kd.int .i64) (w0 := w) w.heap.size rfl (.tmp 31) (.tmp 32) 22 3 (.int .i64 0) 8 rfl Try.underlying22 xinfo3 rfl (by decide) (by omega) v [] la _ _ _ (fun _ => True) (fun _ => False) rfl rfl ?aO ?aR (fun _ _ h => h) (fun _ h => h.elim) ?aF ?aB ?aS ?aL ?_); (case aR => exact Kd.C_below HRA.out HB.out); (case aB => exact HB.out); (case aF => exact fun _ _ => trivial); (case aO => exact HO.out); (case aS => exact HB.out.size); (case aL => have := HN.out; simp; omega); intro v2 w2 ho hb hg hat; have HO2 := Aside0.mk ho; have HB2 := Aside0.mk hb; clear ho hb hg hat)
          go_roundg 1
          case measure => omega
          case rel => exact ⟨1, v2, la, by omega, by omega, rfl, rfl, HB2, by simpa using HO2, ⟨.inr (.inl ⟨rfl, rfl⟩)⟩⟩
        · have hc : wr.cell? ⟨g, 1, none⟩ = some (.slice Ab lb.length cb) := (HB.out.cell (p := ⟨g, 1, none⟩) HG.out).trans H1.out
          go_wp2_with ((with_reducible refine gate_builtin (b := .append) (xs := #[.tmp 31, .tmp 32]) rfl ?_); at_builtin; (refine Kd.R_append_rows (Kd.int .i64) (w0 := w) w.heap.size rfl (.tmp 31) (.tmp 32) 22 3 (.int .i64 0) 8 rfl Try.underlying22 xinfo3 rfl (by decide) (by omega) v ys lb _ _ _ (fun _ => True) (fun _ => False) rfl rfl ?aO ?aR (fun _ _ h => h) (fun _ h => h.elim) ?aF ?aB ?aS ?aL ?_); (case aR => exact Kd.C_below HRB.out HB.out); (case aB => exact HB.out); (case aF => exact fun _ _ => trivial); (case aO => exact HO.out); (case aS => exact HB.out.size); (case aL => have := HN.out; omega); intro v2 w2 ho hb hg hat; have HO2 := Aside0.mk ho; have HB2 := Aside0.mk hb; clear ho hb hg hat)
          go_roundg 0
          case measure => omega
          case rel => exact ⟨2, v2, ys ++ lb, by omega, by omega, rfl, rfl, HB2, HO2, ⟨.inr (.inr ⟨rfl, rfl⟩)⟩⟩
        · go_wp2
          go_ret
          exact ⟨_, rfl, HO.out, HB.out⟩
/-! ### impl_touch: function 46 -/
theorem xerase_idx (l : List Int) (p : Int) : ∀ (h : l.findIdx (fun x => p == x) < l.length), l.eraseIdx (l.findIdx (fun x => p == x)) = l.erase p := by
  induction l with
  | nil => intro h; simp at h
  | cons x xs ih =>
    intro h
    rw [List.findIdx_cons] at h ⊢
    by_cases e : p = x
    · subst e; simp
    · have e1 : (p == x) = false := beq_eq_false_iff_ne.mpr e
      have e2 : (x == p) = false := beq_eq_false_iff_ne.mpr (fun h => e h.symm)
      rw [e1] at h ⊢
      simp only [cond_false, List.length_cons, Nat.add_lt_add_iff_right] at h ⊢
      rw [List.eraseIdx_cons_succ, List.erase_cons, e2, ih h]; rfl
/-- touch: the page ahead, without it elsewhere, cut; and whether it was there -/
def impl_touch.f (l0 : List Int) (a1 : Int) (a2 : Int) : Option (List Int × Bool) :=
  if l0.length < 10000 then (if 0 ≤ a2 then some ((a1 :: l0.erase a1).take a2.toNat, l0.contains a1) else none) else none
theorem xtouch_index (l : List Int) (p : Int) (hb : l.length < 10000) : ∀ (d k n : Nat), n + d = l.length → d < k →
    slices_Index_int_int.l0 k l p (l.length : Int) (n : Int) = some (if n + (l.drop n).findIdx (fun x => p == x) < l.length then ((n + (l.drop n).findIdx (fun x => p == x) : Nat) : Int) else -1) := by
  intro d
  induction d with
  | zero =>
    intro k n hn hk
    obtain ⟨k, rfl⟩ : ∃ m, k = m + 1 := ⟨k - 1, by omega⟩
    have c : ¬ (n : Int) < (l.length : Int) := by omega
    simp only [slices_Index_int_int.l0]; rw [if_neg c, if_neg (by omega)]
  | succ d ih =>
    intro k n hn hk
    obtain ⟨k, rfl⟩ : ∃ m, k = m + 1 := ⟨k - 1, by omega⟩
    have h1 : n < l.length := by omega
    have c1 : (n : Int) < (l.length : Int) := by omega
    have c0 : (0 : Int) ≤ (n : Int) := by omega
    have hr : rd l (n : Int) = l[n] := by unfold rd; simp [List.getD_eq_getElem?_getD, h1]
    simp only [slices_Index_int_int.l0]
    rw [if_pos c1, if_pos c0, if_pos c1, hr, List.drop_eq_getElem_cons h1, List.findIdx_cons, show wrap64 ((n : Int) + 1) = ((n + 1 : Nat) : Int) by unfold wrap64; omega, ih k (n + 1) (by omega) (by omega)]
    by_cases e : p = l[n]
    · rw [if_pos e, show (p == l[n]) = true from beq_iff_eq.mpr e, cond_true, if_pos (by omega), Nat.add_zero]
    · rw [if_neg e, show (p == l[n]) = false from beq_eq_false_iff_ne.mpr e, cond_false, show ∀ z, n + 1 + z = n + (z + 1) by omega]
set_option maxHeartbeats 8000000 in
set_option maxRecDepth 100000 in
theorem impl_touch.calls (A0 : Option Addr) (c0 : Nat) (l0 : List Int) (a1 : Int) (a2 : Int) (r1 : List Int) (r2 : Bool) (w : World) (hr0 : Kd.C (Kd.int .i64) w A0 l0.length l0) (hc0 : l0.length ≤ c0) (h : impl_touch.f l0 a1 a2 = some (r1, r2)) :
    Calls Try.prog 46 #[.slice A0 l0.length c0, .int .i64 a1, .int .i64 a2] w fun e w' => ∃ v0_ : Value, e = .returned (.tuple #[v0_, .bool r2]) ∧ Kd.R (Kd.int .i64) 3 w' w.heap.size (fun _ => True) v0_ r1 ∧ Below w.heap.size w w' := by
  unfold impl_touch.f at h
  by_cases hb : l0.length < 10000
  · rw [if_pos hb] at h
    by_cases h0 : 0 ≤ a2
    · rw [if_pos h0] at h
      simp only [Option.some.injEq, Prod.mk.injEq] at h
      obtain ⟨h1, h2⟩ := h
      have HR0 := Aside0.mk hr0
      have HC0 := Aside0.mk hc0
      have HL := Aside0.mk hb
      have hidx := xtouch_index l0 a1 hb l0.length (l0.length + 1) 0 (by omega) (by omega)
      simp only [List.drop_zero, Nat.zero_add] at hidx
      have HIX := Aside0.mk hidx
      obtain ⟨i0, hi0, _, hsz0, _⟩ := info_parts xinfo3
      clear hr0 hc0 hb hidx hsz0
      have H2 := Aside0.mk h2
      by_cases hin : l0.findIdx (fun x => a1 == x) < l0.length
      · have hct : r2 = true := by
          rw [← h2, List.contains_iff_mem]
          obtain ⟨y, hy, hy2⟩ := List.findIdx_lt_length.mp hin
          rw [show a1 = y from beq_iff_eq.mp hy2]; exact hy
        subst hct
        have HE := Aside0.mk (xerase_idx l0 a1 hin)
        have HJ := HIX.out
        rw [if_pos hin] at HJ
        have HIN := Aside0.mk hin
        generalize l0.findIdx (fun x => a1 == x) = j at *
        have HJ2 := Aside0.mk HJ
        have hj0 : (0 : Int) ≤ (j : Int) := by omega
        have hjw : wrap64 ((j : Int) + 1) = (j : Int) + 1 := by have := HL.out; have := HIN.out; unfold wrap64; omega
        clear HJ hin HIX h2 H2
        obtain ⟨y, hy⟩ : ∃ y : List Int, y = [a1] ++ l0.eraseIdx j := ⟨_, rfl⟩
        have HY := Aside0.mk hy
        clear hy
        have HLE := Aside0.mk (show (l0.eraseIdx j).length ≤ l0.length from List.length_eraseIdx_le _ _)
        have HY2 := Aside0.mk (show y = a1 :: l0.erase a1 from by rw [HY.out, HE.out]; rfl)
        by_cases hs : a2 < (y.length : Int)
        · have HS := Aside0.mk hs
          go_enter Try.func46, Try.ntmps46
          go_wp2_with (first
          | (go_at_call 45; refine (slices_Index_int_int.calls (l0.length + 1) A0 c0 l0 a1 (j : Int) _ HR0.out HC0.out HJ2.out).mono ?_; rintro e w' ⟨rfl, ⟨nd, rfl⟩⟩)
          | (go_at_call 47; refine (xClone_i64.calls A0 c0 l0 _ (Kd.C_drewN HR0.out _) HC0.out (by have := HL.out; omega)).mono ?_; rintro e w1 ⟨v1, rfl, ho, hb⟩; have HO1 := Aside0.mk ho; have HB1 := Aside0.mk (below_step (pw_below_drewN (Below.refl _ w) nd) hb); clear ho hb)
          | (go_at_call 49; refine (xDelete1_i64 w _ w.heap.size v1 l0 j HIN.out HB1.out HO1.out).mono ?_; rintro e w2 ⟨v2, rfl, ho, hb⟩; obtain ⟨A2, c2, e2⟩ := Kd.R_slice ho; subst e2; have HO2 := Aside0.mk ho; have HB2 := Aside0.mk hb; clear ho hb)
          | ((with_reducible refine gate_dst (N := 22) rfl ?_); refine Kd.R_lit (Kd.int .i64) _ 3 ?hg (N := 22) ?hd (xs := ([a1] : List Int)) (inner := [.int .i64 a1]) (ok := fun _ => True) (okp := fun _ => True) ?hr ?hp (fun _ hk => hk) trivial (Below.refl _ _) (Nat.le_refl _) (by simp) ?_; (case hd => rfl); (case hg => rfl); (case hr => first | (go_simp; done) | (go_simp; rfl)); (case hp => exact (Reps.one (show Kd.M (Kd.int .i64) _ _ _ a1 [.int .i64 a1] from rfl) (Reps.none _ _))); intro v3 w3 ho hb hg_ hnew_; clear hg_ hnew_; obtain ⟨A3, c3, e3⟩ := Kd.R_slice ho; subst e3; have HO3 := Aside0.mk ho; have HB3 := Aside0.mk hb; clear ho hb)
          | (go_at_call 50; refine (xConcat2_i64 _ w3.heap.size A3 A2 c3 c2 [a1] (l0.eraseIdx j) (by simp) (by simp) (by simp) (Kd.C_alloc (Kd.R_reads' HO3.out).2.2 _) (Kd.C_alloc (Kd.C_below (Kd.R_reads' HO2.out).2.2 HB3.out) _) (by have := HL.out; have := HLE.out; simp only [List.length_cons, List.length_nil]; omega)).mono ?_; rintro e w5 ⟨v5, rfl, ho, hb⟩; rw [← HY.out] at ho; obtain ⟨A5, c5, e5⟩ := Kd.R_slice ho; subst e5; have HB4 := Aside0.mk (below_step HB2.out HB3.out); have HB5 := Aside0.mk (below_step (below_alloc HB4.out _) hb); have HO5 := Aside0.mk (Kd.R_lower ho (Nat.le_trans HB4.out.size (by simp))); have hcut := cut_to (P := Try.prog) 22 3 .i64 Try.underlying22 hi0 A5 y.length c5 a2 (by omega) (by omega) (Kd.R_reads' HO5.out).2.1; clear ho hb))
          go_ret2
          exact ⟨_, rfl, by rw [← h1, show (a1 :: l0.erase a1).take a2.toNat = y.take (a2 : Int).toNat by rw [HY2.out]]; exact Kd.R_take HO5.out (by omega), HB5.out⟩
        · have HS := Aside0.mk hs
          go_enter Try.func46, Try.ntmps46
          go_wp2_with (first
          | (go_at_call 45; refine (slices_Index_int_int.calls (l0.length + 1) A0 c0 l0 a1 (j : Int) _ HR0.out HC0.out HJ2.out).mono ?_; rintro e w' ⟨rfl, ⟨nd, rfl⟩⟩)
          | (go_at_call 47; refine (xClone_i64.calls A0 c0 l0 _ (Kd.C_drewN HR0.out _) HC0.out (by have := HL.out; omega)).mono ?_; rintro e w1 ⟨v1, rfl, ho, hb⟩; have HO1 := Aside0.mk ho; have HB1 := Aside0.mk (below_step (pw_below_drewN (Below.refl _ w) nd) hb); clear ho hb)
          | (go_at_call 49; refine (xDelete1_i64 w _ w.heap.size v1 l0 j HIN.out HB1.out HO1.out).mono ?_; rintro e w2 ⟨v2, rfl, ho, hb⟩; obtain ⟨A2, c2, e2⟩ := Kd.R_slice ho; subst e2; have HO2 := Aside0.mk ho; have HB2 := Aside0.mk hb; clear ho hb)
          | ((with_reducible refine gate_dst (N := 22) rfl ?_); refine Kd.R_lit (Kd.int .i64) _ 3 ?hg (N := 22) ?hd (xs := ([a1] : List Int)) (inner := [.int .i64 a1]) (ok := fun _ => True) (okp := fun _ => True) ?hr ?hp (fun _ hk => hk) trivial (Below.refl _ _) (Nat.le_refl _) (by simp) ?_; (case hd => rfl); (case hg => rfl); (case hr => first | (go_simp; done) | (go_simp; rfl)); (case hp => exact (Reps.one (show Kd.M (Kd.int .i64) _ _ _ a1 [.int .i64 a1] from rfl) (Reps.none _ _))); intro v3 w3 ho hb hg_ hnew_; clear hg_ hnew_; obtain ⟨A3, c3, e3⟩ := Kd.R_slice ho; subst e3; have HO3 := Aside0.mk ho; have HB3 := Aside0.mk hb; clear ho hb)
          | (go_at_call 50; refine (xConcat2_i64 _ w3.heap.size A3 A2 c3 c2 [a1] (l0.eraseIdx j) (by simp) (by simp) (by simp) (Kd.C_alloc (Kd.R_reads' HO3.out).2.2 _) (Kd.C_alloc (Kd.C_below (Kd.R_reads' HO2.out).2.2 HB3.out) _) (by have := HL.out; have := HLE.out; simp only [List.length_cons, List.length_nil]; omega)).mono ?_; rintro e w5 ⟨v5, rfl, ho, hb⟩; rw [← HY.out] at ho; obtain ⟨A5, c5, e5⟩ := Kd.R_slice ho; subst e5; have HB4 := Aside0.mk (below_step HB2.out HB3.out); have HB5 := Aside0.mk (below_step (below_alloc HB4.out _) hb); have HO5 := Aside0.mk (Kd.R_lower ho (Nat.le_trans HB4.out.size (by simp))); have hcut := cut_to (P := Try.prog) 22 3 .i64 Try.underlying22 hi0 A5 y.length c5 (y.length : Int) (by omega) (by omega) (Kd.R_reads' HO5.out).2.1; clear ho hb))
          go_ret2
          exact ⟨_, rfl, by rw [← h1, show (a1 :: l0.erase a1).take a2.toNat = y.take ((y.length : Int) : Int).toNat by (rw [Int.toNat_natCast, List.take_of_length_le (l := y) (Nat.le_refl _), HY2.out]; exact List.take_of_length_le (by have := HS.out; rw [HY2.out] at this; omega))]; exact Kd.R_take HO5.out (by omega), HB5.out⟩
      · have hnm : ¬ a1 ∈ l0 := fun hmem => hin (List.findIdx_lt_length.mpr ⟨a1, hmem, beq_iff_eq.mpr rfl⟩)
        have hct : r2 = false := by
          rw [← h2]
          exact Bool.eq_false_iff.mpr (fun hh => hnm (List.contains_iff_mem.mp hh))
        subst hct
        have HE := Aside0.mk (List.erase_of_not_mem hnm)
        have HJ := HIX.out
        rw [if_neg hin] at HJ
        have HJ2 := Aside0.mk HJ
        clear HJ hin HIX h2 H2 hnm
        obtain ⟨y, hy⟩ : ∃ y : List Int, y = [a1] ++ l0 := ⟨_, rfl⟩
        have HY := Aside0.mk hy
        clear hy
        have HY2 := Aside0.mk (show y = a1 :: l0.erase a1 from by rw [HY.out, HE.out]; rfl)
        by_cases hs : a2 < (y.length : Int)
        · have HS := Aside0.mk hs
          go_enter Try.func46, Try.ntmps46
          go_wp2_with (first
          | (go_at_call 45; refine (slices_Index_int_int.calls (l0.length + 1) A0 c0 l0 a1 (-1) _ HR0.out HC0.out HJ2.out).mono ?_; rintro e w' ⟨rfl, ⟨nd, rfl⟩⟩)
          | ((with_reducible refine gate_dst (N := 22) rfl ?_); refine Kd.R_lit (Kd.int .i64) _ 3 ?hg (N := 22) ?hd (xs := ([a1] : List Int)) (inner := [.int .i64 a1]) (ok := fun _ => True) (okp := fun _ => True) ?hr ?hp (fun _ hk => hk) trivial (Below.refl _ _) (Nat.le_refl _) (by simp) ?_; (case hd => rfl); (case hg => rfl); (case hr => first | (go_simp; done) | (go_simp; rfl)); (case hp => exact (Reps.one (show Kd.M (Kd.int .i64) _ _ _ a1 [.int .i64 a1] from rfl) (Reps.none _ _))); intro v3 w3 ho hb hg_ hnew_; clear hg_ hnew_; obtain ⟨A3, c3, e3⟩ := Kd.R_slice ho; subst e3; have HO3 := Aside0.mk ho; have HB3 := Aside0.mk hb; clear ho hb)
          | (go_at_call 50; refine (xConcat2_i64 _ w3.heap.size A3 A0 c3 c0 [a1] l0 (by simp) (by simp) (by simp) (Kd.C_alloc (Kd.R_reads' HO3.out).2.2 _) (Kd.C_alloc (Kd.C_below (Kd.C_drewN HR0.out nd) HB3.out) _) (by have := HL.out; simp only [List.length_cons, List.length_nil]; omega)).mono ?_; rintro e w5 ⟨v5, rfl, ho, hb⟩; rw [← HY.out] at ho; obtain ⟨A5, c5, e5⟩ := Kd.R_slice ho; subst e5; have HB4 := Aside0.mk (below_step (pw_below_drewN (Below.refl _ w) nd) HB3.out); have HB5 := Aside0.mk (below_step (below_alloc HB4.out _) hb); have HO5 := Aside0.mk (Kd.R_lower ho (Nat.le_trans HB4.out.size (by simp))); have hcut := cut_to (P := Try.prog) 22 3 .i64 Try.underlying22 hi0 A5 y.length c5 a2 (by omega) (by omega) (Kd.R_reads' HO5.out).2.1; clear ho hb))
          go_ret2
          exact ⟨_, rfl, by rw [← h1, show (a1 :: l0.erase a1).take a2.toNat = y.take (a2 : Int).toNat by rw [HY2.out]]; exact Kd.R_take HO5.out (by omega), HB5.out⟩
        · have HS := Aside0.mk hs
          go_enter Try.func46, Try.ntmps46
          go_wp2_with (first
          | (go_at_call 45; refine (slices_Index_int_int.calls (l0.length + 1) A0 c0 l0 a1 (-1) _ HR0.out HC0.out HJ2.out).mono ?_; rintro e w' ⟨rfl, ⟨nd, rfl⟩⟩)
          | ((with_reducible refine gate_dst (N := 22) rfl ?_); refine Kd.R_lit (Kd.int .i64) _ 3 ?hg (N := 22) ?hd (xs := ([a1] : List Int)) (inner := [.int .i64 a1]) (ok := fun _ => True) (okp := fun _ => True) ?hr ?hp (fun _ hk => hk) trivial (Below.refl _ _) (Nat.le_refl _) (by simp) ?_; (case hd => rfl); (case hg => rfl); (case hr => first | (go_simp; done) | (go_simp; rfl)); (case hp => exact (Reps.one (show Kd.M (Kd.int .i64) _ _ _ a1 [.int .i64 a1] from rfl) (Reps.none _ _))); intro v3 w3 ho hb hg_ hnew_; clear hg_ hnew_; obtain ⟨A3, c3, e3⟩ := Kd.R_slice ho; subst e3; have HO3 := Aside0.mk ho; have HB3 := Aside0.mk hb; clear ho hb)
          | (go_at_call 50; refine (xConcat2_i64 _ w3.heap.size A3 A0 c3 c0 [a1] l0 (by simp) (by simp) (by simp) (Kd.C_alloc (Kd.R_reads' HO3.out).2.2 _) (Kd.C_alloc (Kd.C_below (Kd.C_drewN HR0.out nd) HB3.out) _) (by have := HL.out; simp only [List.length_cons, List.length_nil]; omega)).mono ?_; rintro e w5 ⟨v5, rfl, ho, hb⟩; rw [← HY.out] at ho; obtain ⟨A5, c5, e5⟩ := Kd.R_slice ho; subst e5; have HB4 := Aside0.mk (below_step (pw_below_drewN (Below.refl _ w) nd) HB3.out); have HB5 := Aside0.mk (below_step (below_alloc HB4.out _) hb); have HO5 := Aside0.mk (Kd.R_lower ho (Nat.le_trans HB4.out.size (by simp))); have hcut := cut_to (P := Try.prog) 22 3 .i64 Try.underlying22 hi0 A5 y.length c5 (y.length : Int) (by omega) (by omega) (Kd.R_reads' HO5.out).2.1; clear ho hb))
          go_ret2
          exact ⟨_, rfl, by rw [← h1, show (a1 :: l0.erase a1).take a2.toNat = y.take ((y.length : Int) : Int).toNat by (rw [Int.toNat_natCast, List.take_of_length_le (l := y) (Nat.le_refl _), HY2.out]; exact List.take_of_length_le (by have := HS.out; rw [HY2.out] at this; omega))]; exact Kd.R_take HO5.out (by omega), HB5.out⟩
    · rw [if_neg h0] at h; cases h
  · rw [if_neg hb] at h; cases h

/-! ### impl_distances: function 39 -/
def impl_distances.l0 : Nat → List Int → List Int → List Int → Int → Int → Option (List Int)
  | 0, _, _, _, _, _ => none
  | k + 1, x3, x4, x10, x11, x12 => if x12 < x11 then (if 0 ≤ x12 then (if x12 < (x10.length : Int) then ((slices_Index_int_int.f k x4 (rd x10 x12)).bind fun t140 => (if x12 < (x3.length : Int) then ((impl_touch.f x4 (rd x10 x12) 100).bind fun bt142 => (impl_distances.l0 k (x3.set (x12 : Int).toNat (wrap64 (t140 + 1))) bt142.1 x10 x11 (wrap64 (x12 + 1)))) else (none))) else (none)) else (none)) else (some x3)
def impl_distances.f (k : Nat) (l0 : List Int) : Option (List Int) := if 0 ≤ (l0.length : Int) then (if ((l0.length : Int) : Int).toNat ≤ 35184372088832 then (impl_distances.l0 k (List.replicate ((l0.length : Int) : Int).toNat 0) ([] : List Int) l0 (l0.length : Int) 0) else (none)) else (none)
theorem impl_distances.mono_l : ∀ k, (∀ y0 y1 y2 y3 y4, LeO (impl_distances.l0 k y0 y1 y2 y3 y4) (impl_distances.l0 (k + 1) y0 y1 y2 y3 y4))
  | 0 => fun _ _ _ _ _ r h => by simp [impl_distances.l0] at h
  | k + 1 => by
    have ih0 := impl_distances.mono_l k
    · intro y0 y1 y2 y3 y4
      unfold impl_distances.l0
      repeat' first
      | (with_reducible exact ih0 _ _ _ _ _)
      | (with_reducible exact slices_Index_int_int.mono _ _ _)
      | (with_reducible exact LeO.refl _)
      | (with_reducible exact LeO.none _)
      | (with_reducible refine LeO.ite ?_ ?_)
      | (with_reducible refine LeO.bind ?_ (fun _ => ?_))
      | exact ih0 _ _ _ _ _
      | exact slices_Index_int_int.mono _ _ _
      | exact LeO.none _
      | refine LeO.ite ?_ ?_
      | refine LeO.bind ?_ (fun _ => ?_)
theorem impl_distances.mono : ∀ a0 k, LeO (impl_distances.f k a0) (impl_distances.f (k + 1) a0) := by
  intro a0 k
  have ih0 := impl_distances.mono_l k
  unfold impl_distances.f
  repeat' first
      | (with_reducible exact ih0 _ _ _ _ _)
      | (with_reducible exact slices_Index_int_int.mono _ _ _)
      | (with_reducible exact LeO.refl _)
      | (with_reducible exact LeO.none _)
      | (with_reducible refine LeO.ite ?_ ?_)
      | (with_reducible refine LeO.bind ?_ (fun _ => ?_))
      | exact ih0 _ _ _ _ _
      | exact slices_Index_int_int.mono _ _ _
      | exact LeO.none _
      | refine LeO.ite ?_ ?_
      | refine LeO.bind ?_ (fun _ => ?_)
set_option maxHeartbeats 8000000 in
set_option maxRecDepth 100000 in
theorem impl_distances.calls (k : Nat) (A0 : Option Addr) (c0 : Nat) (l0 : List Int) (r : List Int) (w : World) (hr0 : Kd.C (Kd.int .i64) w A0 l0.length l0) (hc0 : l0.length ≤ c0) (h : impl_distances.f k l0 = some r) :
    Calls Try.prog 39 #[.slice A0 l0.length c0] w fun e w' => ∃ v0_ : Value, e = .returned (v0_) ∧ Kd.R (Kd.int .i64) 3 w' w.heap.size (fun _ => True) v0_ r ∧ Below w.heap.size w w' := by
  have HR0 := Aside0.mk hr0
  have HC0 := Aside0.mk hc0
  clear hr0 hc0
  have HB := Aside0.mk (Below.refl w.heap.size w)
  have H : (if 0 ≤ (l0.length : Int) then (if ((l0.length : Int) : Int).toNat ≤ 35184372088832 then (impl_distances.l0 k (List.replicate ((l0.length : Int) : Int).toNat 0) ([] : List Int) l0 (l0.length : Int) 0) else (none)) else (none)) = some r := h
  clear h
  by_cases c2 : 0 ≤ (l0.length : Int)
  · rw [if_pos c2] at H
    have c2b0 := eq_true c2
    have c2b1 : decide (0 ≤ (l0.length : Int)) = true := decide_eq_true c2
    clear c2
    by_cases c3 : ((l0.length : Int) : Int).toNat ≤ 35184372088832
    · rw [if_pos c3] at H
      have c3b0 := eq_true c3
      have c3b1 : decide (((l0.length : Int) : Int).toNat ≤ 35184372088832) = true := decide_eq_true c3
      clear c3
      obtain ⟨y136, hy136⟩ : ∃ y_ : List Int, y_ = (List.replicate ((l0.length : Int) : Int).toNat 0) := ⟨_, rfl⟩
      replace H : (impl_distances.l0 k y136 ([] : List Int) l0 (l0.length : Int) 0) = some r := by first | (rw [hy136]; with_reducible exact H) | (have H2_ := (Option.bind_some _ _).symm.trans H; rw [hy136]; with_reducible exact H2_) | (have H2_ := (Option.bind_some _ _).symm.trans H; with_reducible exact H2_) | with_reducible exact H | (rw [hy136]; exact H) | exact H
      have Ny136 := Aside0.mk hy136
      clear hy136
      have H' := Aside0.mk H
      clear H
      go_enter Try.func39, Try.ntmps39
      go_wp2_with (first | ((with_reducible refine gate_dst (N := 9) rfl ?_); refine Kd.R_make (Kd.int .i64) _ 3 rfl (N := 9) rfl 22 _ _ rfl (l0.length : Int) rfl rfl Try.underlying22 (.int .i64 0) 8 info3 rfl (by decide) (by omega) 0 (ok := fun _ => True) (okp := fun _ => True) rfl (fun _ hk => hk) trivial (of_decide_eq_true (by first | (with_reducible assumption) | assumption)) (Nat.le_trans (Nat.mul_le_mul_right _ (of_decide_eq_true (by first | (with_reducible assumption) | assumption) : (l0.length : Int).toNat ≤ 35184372088832)) (by omega)) (Below.refl _ _) (Nat.le_refl _) ?_; intro v137 w4 ho5 hb hg_ hnew_; clear hg_ hnew_; (first | rw [← Ny136.out] at ho5 | (simp only [Int.reduceToNat] at ho5; rw [← Ny136.out] at ho5)); have n0_ := Aside0.mk (Kd.R_lower ho5 (below_size (by repeat (first | (with_reducible first | exact HB.out | apply below_alloc | apply pw_below_drewN | apply below_drew1) | exact HB.out)))); have n1_ := Aside0.mk (below_step (by repeat (first | (with_reducible first | exact HB.out | apply below_alloc | apply pw_below_drewN | apply below_drew1) | exact HB.out)) hb); clear HB; have HO138 := n0_; have HB := n1_; clear n0_ n1_; clear hb ho5))
      go_loopg [4, 12] k (fun kq v4 v12 w' => ∃ (x3_1 : List Int) (x4_1 : List Int) (x12_1 : Int), v12 = .int .i64 x12_1 ∧ Aside0 (impl_distances.l0 kq x3_1 x4_1 l0 (l0.length : Int) x12_1 = some r) ∧ Aside0 (kq ≤ k) ∧ Aside0 (Kd.R (Kd.int .i64) 3 w' w.heap.size (fun k_ => some k_ ≠ (v4 : Value).ownBlock) v137 x3_1) ∧ Aside0 (Kd.R (Kd.int .i64) 3 w' w.heap.size (fun k_ => some k_ ≠ (v137 : Value).ownBlock) v4 x4_1) ∧ Aside0 (Below w.heap.size w w'))
      case atStart => exact ⟨(y136), (([] : List Int)), (0), (by first | rfl | (simp; done) | (simp [*]; done)), H', ⟨Nat.le_refl _⟩, ⟨by (with_reducible repeat (first | apply Kd.R_alloc | apply Kd.R_drewN | apply Kd.R_drew)); exact Kd.R_mono HO138.out (fun _ hk => (by simp [Value.ownBlock]))⟩, ⟨by first | exact Kd.R_nil _ _ _ _ _ | exact Kd.N_nil _ _ _ _ _ | exact Kd.V_nil _ _ _ _ _ | exact Kd.Q_nil _ _ _ _ _ | exact Kd.S_nil _ _ _ _ _⟩, ⟨by repeat (first | (with_reducible first | exact HB.out | apply below_alloc | apply pw_below_drewN | apply below_drew1) | exact HB.out)⟩⟩
      case round =>
        clear H'
        try clear c2
        try clear c2b0
        try clear c2b1
        try clear p2
        try clear c3
        try clear c3b0
        try clear c3b1
        obtain ⟨x3_1, x4_1, x12_1, rfl, HA, HK1, HO_3, HO_4, HB⟩ := hrel
        cases gk with
        | zero => exact absurd HA.out (by simp [impl_distances.l0])
        | succ k1 =>
          have H := HA.out
          clear HA
          simp only [impl_distances.l0] at H
          by_cases c6 : x12_1 < (l0.length : Int)
          · rw [if_pos c6] at H
            have c6b0 : decide (x12_1 < (l0.length : Int)) = true := decide_eq_true c6
            clear c6
            by_cases c7 : 0 ≤ x12_1
            · rw [if_pos c7] at H
              have c7b0 : decide (0 ≤ x12_1) = true := decide_eq_true c7
              clear c7
              by_cases c8 : x12_1 < (l0.length : Int)
              · rw [if_pos c8] at H
                have c8b0 : decide (x12_1 < (l0.length : Int)) = true := decide_eq_true c8
                clear c8
                replace H := Option.bind_eq_some_iff.mp H
                obtain ⟨t140, A90, H⟩ := H
                replace H : (if x12_1 < (x3_1.length : Int) then ((impl_touch.f x4_1 (rd l0 x12_1) 100).bind fun bt142 => (impl_distances.l0 k1 (x3_1.set (x12_1 : Int).toNat (wrap64 (t140 + 1))) bt142.1 l0 (l0.length : Int) (wrap64 (x12_1 + 1)))) else (none)) = some r := H
                have A9 := Aside0.mk A90
                clear A90
                by_cases c10 : x12_1 < (x3_1.length : Int)
                · rw [if_pos c10] at H
                  have c10b0 : decide (x12_1 < (x3_1.length : Int)) = true := decide_eq_true c10
                  clear c10
                  obtain ⟨y141, hy141⟩ : ∃ y_ : List Int, y_ = (x3_1.set (x12_1 : Int).toNat (wrap64 (t140 + 1))) := ⟨_, rfl⟩
                  replace H : ((impl_touch.f x4_1 (rd l0 x12_1) 100).bind fun bt142 => (impl_distances.l0 k1 y141 bt142.1 l0 (l0.length : Int) (wrap64 (x12_1 + 1)))) = some r := by first | (rw [hy141]; with_reducible exact H) | (have H2_ := (Option.bind_some _ _).symm.trans H; rw [hy141]; with_reducible exact H2_) | (have H2_ := (Option.bind_some _ _).symm.trans H; with_reducible exact H2_) | with_reducible exact H | (rw [hy141]; exact H) | exact H
                  have Ny141 := Aside0.mk hy141
                  clear hy141
                  replace H := Option.bind_eq_some_iff.mp H
                  obtain ⟨⟨t142, t143⟩, A120, H⟩ := H
                  replace H : (impl_distances.l0 k1 y141 t142 l0 (l0.length : Int) (wrap64 (x12_1 + 1))) = some r := H
                  have A12 := Aside0.mk A120
                  clear A120
                  have H' := Aside0.mk H
                  clear H
                  have p139 : 0 ≤ (x12_1 : Int) := of_decide_eq_true (by first | (with_reducible assumption) | assumption)
                  have q139 : x12_1 < (l0.length : Int) := of_decide_eq_true (by first | (with_reducible assumption) | assumption)
                  obtain ⟨ad139, e139, hx139_0⟩ := Kd.at_int HR0.out x12_1 p139 q139
                  cases e139
                  replace hx139_0 := (HB.out.cell (World.block_lt_of_cell? w _ hx139_0)).trans hx139_0
                  replace p139 := eq_true p139
                  replace q139 := eq_true q139
                  obtain ⟨Ao13, co13, eo13⟩ := Kd.R_slice HO_4.out
                  subst eo13
                  go_wp2_with (first | ((with_reducible refine gate_callee (f := 45) rfl ?_); refine goesL_ (some 21) rfl rfl Try.func45 (by kernel_rfl) rfl #[.slice Ao13 x4_1.length co13, .int .i64 (rd l0 x12_1)] rfl (by (try simp only [List.map_toArray, List.map_cons, List.map_nil]); first | done | rfl | (simp only [List.length_drop, List.length_take]; rfl)) ?_; (with_reducible refine (slices_Index_int_int.calls k1 _ _ x4_1 (rd l0 x12_1) t140 _ ?side1 ?side2 A9.out).mono ?_); (case side1 => repeat (first | exact (Kd.R_reads' HO_4.out).2.2 | (with_reducible refine Kd.C_alloc ?_ _) | (with_reducible refine Kd.C_drewN ?_ _) | (with_reducible refine Kd.C_drew ?_))); (case side2 => exact (Kd.R_reads' HO_4.out).2.1); rintro e w' ⟨rfl, ⟨nd, rfl⟩⟩; refine ⟨_, rfl, ?_⟩; (try (rw [drewN_self wr]; generalize hq_ : World.drewN wr _ = wr; have n0_ : Aside0 (Kd.R (Kd.int .i64) 3 wr w.heap.size (fun k_ => some k_ ≠ (.slice Ao13 x4_1.length co13 : Value).ownBlock) v137 x3_1) := ⟨by rw [← hq_]; exact (by (with_reducible repeat (first | apply Kd.R_alloc | apply Kd.R_drewN | apply Kd.R_drew)); exact HO_3.out)⟩; have n1_ : Aside0 (Kd.R (Kd.int .i64) 3 wr w.heap.size (fun k_ => some k_ ≠ (v137 : Value).ownBlock) (.slice Ao13 x4_1.length co13) x4_1) := ⟨by rw [← hq_]; exact (by (with_reducible repeat (first | apply Kd.R_alloc | apply Kd.R_drewN | apply Kd.R_drew)); exact HO_4.out)⟩; have n2_ : Aside0 (Below w.heap.size w wr) := ⟨by rw [← hq_]; exact (by repeat (first | (with_reducible first | exact HB.out | apply below_alloc | apply pw_below_drewN | apply below_drew1) | exact HB.out))⟩; clear HO_3 HO_4 HB hq_; have HO_3 := n0_; have HO_4 := n1_; have HB := n2_; clear n0_ n1_ n2_)); have p11 : 0 ≤ (x12_1 : Int) := of_decide_eq_true (by first | (with_reducible assumption) | assumption); have q11 : (x12_1 : Int) < ((x3_1.length : Int) : Int) := of_decide_eq_true (by first | (with_reducible assumption) | assumption); obtain ⟨go11, co11, eo11, gb11, gl11, cl11, HG11⟩ := Kd.R_form HO_3.out (by omega); (first | cases eo11 | (injection eo11 with ea_ en_ ec_; (first | subst ea_ | (injection ea_ with ea_; subst ea_)); subst ec_; clear en_)); have GB11 := Aside0.mk gb11; have GG11 := Aside0.mk HG11; clear gb11 gl11 HG11; obtain ⟨hx11_0, hf11_0⟩ := Kd.R_celln 0 HO_3.out (x12_1 : Int) p11 q11; replace p11 := eq_true p11; replace q11 := eq_true q11; obtain ⟨hy14_, hz14_⟩ := Kd.R_celln 0 HO_3.out (x12_1 : Int) (of_decide_eq_true (by first | (with_reducible assumption) | assumption)) (of_decide_eq_true (by first | (with_reducible assumption) | assumption)); have HP14 := Kd.R_putg HO_3.out (x12_1 : Int) (wrap64 (t140 + 1))) | ((with_reducible refine gate_store (t := 3) (p := 23) rfl ?_); refine store_event (t := 3) (p := 23) (v := ?vo_w15) (w1 := (wr.setCell ⟨go11, (x12_1 : Int).toNat, none⟩ (.int .i64 (wrap64 (t140 + 1))))) ?hg ?ho ?hn ?hr ?_; (case ho => rfl); (case hg => rfl); (case hn => rfl); (case hr => first | (go_simp; done) | (go_simp; rfl)); intro w15 hw; have hg : wr.grownBy w15 (some go11) := (by rw [hw]; exact HP14.2); have hp_ : Kd.R (Kd.int .i64) 3 w15 w.heap.size (fun k_ => some k_ ≠ (.slice Ao13 x4_1.length co13 : Value).ownBlock) (.slice (some ⟨go11, 0, none⟩) x3_1.length co11) y141 := (by rw [hw, Ny141.out]; exact HP14.1); clear HP14; have n0_ := Aside0.mk (hp_); have n1_ := Aside0.mk (Kd.R_after (v := (.slice (some ⟨go11, 0, none⟩) x3_1.length co11)) (v1 := (.slice (some ⟨go11, 0, none⟩) x3_1.length co11)) (ok := (fun _ => True)) (by (with_reducible repeat (first | apply Kd.R_alloc | apply Kd.R_drewN | apply Kd.R_drew)); exact Kd.R_mono HO_4.out (fun _ hk => ⟨trivial, hk⟩)) hg (.inl rfl)); have n2_ := Aside0.mk ((by rw [hw]; exact below_set (HB.out) GB11.out : Below w.heap.size w w15)); clear HO_3; clear HO_4; clear HB; have HO_3 := n0_; have HO_4 := n1_; have HB := n2_; clear n0_ n1_ n2_; clear hg hw hp_) | ((with_reducible refine gate_callee (f := 46) rfl ?_); refine goesL_ (some 27) rfl rfl Try.func46 (by kernel_rfl) rfl #[.slice Ao13 x4_1.length co13, .int .i64 (rd l0 x12_1), .int .i64 100] rfl (by (try simp only [List.map_toArray, List.map_cons, List.map_nil]); first | done | rfl | (simp only [List.length_drop, List.length_take]; rfl)) ?_; (with_reducible refine (impl_touch.calls _ _ x4_1 (rd l0 x12_1) 100 t142 t143 _ ?side1 ?side2 A12.out).mono ?_); (case side1 => repeat (first | exact (Kd.R_reads' HO_4.out).2.2 | (with_reducible refine Kd.C_alloc ?_ _) | (with_reducible refine Kd.C_drewN ?_ _) | (with_reducible refine Kd.C_drew ?_))); (case side2 => exact (Kd.R_reads' HO_4.out).2.1); rintro e w16 ⟨v144, rfl, ho0, hb⟩; refine ⟨_, rfl, ?_⟩; have n0_ := Aside0.mk (Kd.R_elder' (by (with_reducible repeat (first | apply Kd.R_alloc | apply Kd.R_drewN | apply Kd.R_drew)); exact HO_3.out) (Kd.R_base ho0) hb); have n1_ := Aside0.mk (Kd.R_elder' (by (with_reducible repeat (first | apply Kd.R_alloc | apply Kd.R_drewN | apply Kd.R_drew)); exact HO_4.out) (Kd.R_base ho0) hb); have n2_ := Aside0.mk (Kd.R_lower (Kd.R_new' (Kd.R_new' ho0 (Kd.R_lt (by (with_reducible repeat (first | apply Kd.R_alloc | apply Kd.R_drewN | apply Kd.R_drew)); exact HO_3.out))) (Kd.R_lt (by (with_reducible repeat (first | apply Kd.R_alloc | apply Kd.R_drewN | apply Kd.R_drew)); exact HO_4.out))) (below_size (by repeat (first | (with_reducible first | exact HB.out | apply below_alloc | apply pw_below_drewN | apply below_drew1) | exact HB.out)))); have n3_ := Aside0.mk (below_step (by repeat (first | (with_reducible first | exact HB.out | apply below_alloc | apply pw_below_drewN | apply below_drew1) | exact HB.out)) hb); clear HO_3; clear HO_4; clear HB; have HO_3 := n0_; have HO_4 := n1_; have HO145 := n2_; have HB := n3_; clear n0_ n1_ n2_ n3_; (try clear hb); (try clear hb2); (try clear hk); (try clear hi); (try clear ho0)))
                  go_roundg k1
                  case measure => have := HK1.out; omega
                  case rel => exact ⟨(y141), (t142), (wrap64 (x12_1 + 1)), (by first | rfl | (simp; done) | (simp [*]; done)), H', ⟨by have := HK1.out; omega⟩, ⟨by (with_reducible repeat (first | apply Kd.R_alloc | apply Kd.R_drewN | apply Kd.R_drew)); exact Kd.R_mono HO_3.out (fun _ hk => hk.2)⟩, ⟨by (with_reducible repeat (first | apply Kd.R_alloc | apply Kd.R_drewN | apply Kd.R_drew)); exact Kd.R_mono HO145.out (fun _ hk => hk.1.2)⟩, ⟨by repeat (first | (with_reducible first | exact HB.out | apply below_alloc | apply pw_below_drewN | apply below_drew1) | exact HB.out)⟩⟩
                · rw [if_neg c10] at H
                  exact absurd H (by simp)
              · rw [if_neg c8] at H
                exact absurd H (by simp)
            · rw [if_neg c7] at H
              exact absurd H (by simp)
          · rw [if_neg c6] at H
            have c6b0 : decide (x12_1 < (l0.length : Int)) = false := decide_eq_false c6
            clear c6
            obtain rfl := Option.some.inj H
            go_wp2
            go_ret
            exact ⟨_, by first | rfl | (simp [errW_none, errW_some] <;> rfl) | (simp [*, errW_none, errW_some] <;> rfl), by (with_reducible repeat (first | apply Kd.R_alloc | apply Kd.R_drewN | apply Kd.R_drew)); exact Kd.R_mono HO_3.out (fun _ hk => trivial), by repeat (first | (with_reducible first | exact HB.out | apply below_alloc | apply pw_below_drewN | apply below_drew1) | exact HB.out)⟩
    · rw [if_neg c3] at H
      exact absurd H (by simp)
  · rw [if_neg c2] at H
    exact absurd H (by simp)

/-! ### impl_HitsOf: function 30 -/
mutual
def impl_HitsOf.l0 : Nat → List Int → List Int → Int → Int → Option (List Int × Bool)
  | 0, _, _, _, _ => none
  | k + 1, x4, x13, x14, x15 => if x15 < x14 then (if 0 ≤ x15 then (if x15 < (x13.length : Int) then (impl_HitsOf.l1 k x4 (rd x13 x15) (mx (rd x13 x15) 1) x13 x14 x15) else (none)) else (none)) else (some (x4, true))
def impl_HitsOf.l1 : Nat → List Int → Int → Int → List Int → Int → Int → Option (List Int × Bool)
  | 0, _, _, _, _, _, _ => none
  | k + 1, x4, x6, x7, x13, x14, x15 => if x7 ≤ 40 then (if x6 > 0 then (if 0 ≤ x7 then (if x7 < (x4.length : Int) then (impl_HitsOf.l1 k (x4.set (x7 : Int).toNat (wrap64 ((rd x4 x7) + 1))) x6 (wrap64 (x7 + 1)) x13 x14 x15) else (none)) else (none)) else (impl_HitsOf.l0 k x4 x13 x14 (wrap64 (x15 + 1)))) else (impl_HitsOf.l0 k x4 x13 x14 (wrap64 (x15 + 1)))
end
def impl_HitsOf.f (k : Nat) (l0 : List Int) : Option (List Int × Bool) := (impl_GoodRefs.f l0).bind fun t146 => (if t146 = true then (if 41 ≤ 35184372088832 then ((impl_distances.f k l0).bind fun t150 => (impl_HitsOf.l0 k (List.replicate 41 0) t150 (t150.length : Int) 0)) else (none)) else (some (([] : List Int), false)))
theorem impl_HitsOf.mono_l : ∀ k, (∀ y0 y1 y2 y3, LeO (impl_HitsOf.l0 k y0 y1 y2 y3) (impl_HitsOf.l0 (k + 1) y0 y1 y2 y3)) ∧ (∀ y0 y1 y2 y3 y4 y5, LeO (impl_HitsOf.l1 k y0 y1 y2 y3 y4 y5) (impl_HitsOf.l1 (k + 1) y0 y1 y2 y3 y4 y5))
  | 0 => ⟨fun _ _ _ _ r h => by simp [impl_HitsOf.l0] at h, fun _ _ _ _ _ _ r h => by simp [impl_HitsOf.l1] at h⟩
  | k + 1 => by
    obtain ⟨ih0, ih1⟩ := impl_HitsOf.mono_l k
    refine ⟨?_, ?_⟩
    · intro y0 y1 y2 y3
      unfold impl_HitsOf.l0
      repeat' first
      | (with_reducible exact ih0 _ _ _ _)
      | (with_reducible exact ih1 _ _ _ _ _ _)
      | (with_reducible exact impl_distances.mono _ _)
      | (with_reducible exact LeO.refl _)
      | (with_reducible exact LeO.none _)
      | (with_reducible refine LeO.ite ?_ ?_)
      | (with_reducible refine LeO.bind ?_ (fun _ => ?_))
      | exact ih0 _ _ _ _
      | exact ih1 _ _ _ _ _ _
      | exact impl_distances.mono _ _
      | exact LeO.none _
      | refine LeO.ite ?_ ?_
      | refine LeO.bind ?_ (fun _ => ?_)
    · intro y0 y1 y2 y3 y4 y5
      unfold impl_HitsOf.l1
      repeat' first
      | (with_reducible exact ih0 _ _ _ _)
      | (with_reducible exact ih1 _ _ _ _ _ _)
      | (with_reducible exact impl_distances.mono _ _)
      | (with_reducible exact LeO.refl _)
      | (with_reducible exact LeO.none _)
      | (with_reducible refine LeO.ite ?_ ?_)
      | (with_reducible refine LeO.bind ?_ (fun _ => ?_))
      | exact ih0 _ _ _ _
      | exact ih1 _ _ _ _ _ _
      | exact impl_distances.mono _ _
      | exact LeO.none _
      | refine LeO.ite ?_ ?_
      | refine LeO.bind ?_ (fun _ => ?_)
theorem impl_HitsOf.mono : ∀ a0 k, LeO (impl_HitsOf.f k a0) (impl_HitsOf.f (k + 1) a0) := by
  intro a0 k
  obtain ⟨ih0, ih1⟩ := impl_HitsOf.mono_l k
  unfold impl_HitsOf.f
  repeat' first
      | (with_reducible exact ih0 _ _ _ _)
      | (with_reducible exact ih1 _ _ _ _ _ _)
      | (with_reducible exact impl_distances.mono _ _)
      | (with_reducible exact LeO.refl _)
      | (with_reducible exact LeO.none _)
      | (with_reducible refine LeO.ite ?_ ?_)
      | (with_reducible refine LeO.bind ?_ (fun _ => ?_))
      | exact ih0 _ _ _ _
      | exact ih1 _ _ _ _ _ _
      | exact impl_distances.mono _ _
      | exact LeO.none _
      | refine LeO.ite ?_ ?_
      | refine LeO.bind ?_ (fun _ => ?_)
set_option maxHeartbeats 8000000 in
set_option maxRecDepth 100000 in
theorem impl_HitsOf.calls (k : Nat) (A0 : Option Addr) (c0 : Nat) (l0 : List Int) (r1 : List Int) (r2 : Bool) (w : World) (hr0 : Kd.C (Kd.int .i64) w A0 l0.length l0) (hc0 : l0.length ≤ c0) (h : impl_HitsOf.f k l0 = some (r1, r2)) :
    Calls Try.prog 30 #[.slice A0 l0.length c0] w fun e w' => ∃ v0_ : Value, e = .returned (.tuple #[v0_, .bool r2]) ∧ Kd.R (Kd.int .i64) 3 w' w.heap.size (fun _ => True) v0_ r1 ∧ Below w.heap.size w w' := by
  have HR0 := Aside0.mk hr0
  have HC0 := Aside0.mk hc0
  clear hr0 hc0
  have HB := Aside0.mk (Below.refl w.heap.size w)
  have H : ((impl_GoodRefs.f l0).bind fun t146 => (if t146 = true then (if 41 ≤ 35184372088832 then ((impl_distances.f k l0).bind fun t150 => (impl_HitsOf.l0 k (List.replicate 41 0) t150 (t150.length : Int) 0)) else (none)) else (some (([] : List Int), false)))) = some (r1, r2) := h
  clear h
  replace H := Option.bind_eq_some_iff.mp H
  obtain ⟨t146, A20, H⟩ := H
  replace H : (if t146 = true then (if 41 ≤ 35184372088832 then ((impl_distances.f k l0).bind fun t150 => (impl_HitsOf.l0 k (List.replicate 41 0) t150 (t150.length : Int) 0)) else (none)) else (some (([] : List Int), false))) = some (r1, r2) := H
  have A2 := Aside0.mk A20
  clear A20
  by_cases c3 : t146 = true
  · subst c3
    have H1 : (if 41 ≤ 35184372088832 then ((impl_distances.f k l0).bind fun t150 => (impl_HitsOf.l0 k (List.replicate 41 0) t150 (t150.length : Int) 0)) else (none)) = some (r1, r2) := by rw [if_pos rfl] at H; exact H
    clear H
    have H := H1
    clear H1
    by_cases c4 : 41 ≤ 35184372088832
    · rw [if_pos c4] at H
      have c4b0 := eq_true c4
      have c4b1 : decide (41 ≤ 35184372088832) = true := decide_eq_true c4
      clear c4
      obtain ⟨y147, hy147⟩ : ∃ y_ : List Int, y_ = (List.replicate 41 0) := ⟨_, rfl⟩
      replace H : ((impl_distances.f k l0).bind fun t150 => (impl_HitsOf.l0 k y147 t150 (t150.length : Int) 0)) = some (r1, r2) := by first | (rw [hy147]; with_reducible exact H) | (have H2_ := (Option.bind_some _ _).symm.trans H; rw [hy147]; with_reducible exact H2_) | (have H2_ := (Option.bind_some _ _).symm.trans H; with_reducible exact H2_) | with_reducible exact H | (rw [hy147]; exact H) | exact H
      have Ny147 := Aside0.mk hy147
      clear hy147
      replace H := Option.bind_eq_some_iff.mp H
      obtain ⟨t150, A50, H⟩ := H
      replace H : (impl_HitsOf.l0 k y147 t150 (t150.length : Int) 0) = some (r1, r2) := H
      have A5 := Aside0.mk A50
      clear A50
      have H' := Aside0.mk H
      clear H
      go_enter Try.func30, Try.ntmps30
      go_wp2_with (first | ((with_reducible refine gate_callee (f := 13) rfl ?_); refine goesL_ (some 9) rfl rfl Try.func13 (by kernel_rfl) rfl #[.slice A0 l0.length c0] rfl (by (try simp only [List.map_toArray, List.map_cons, List.map_nil]); first | done | rfl | (simp only [List.length_drop, List.length_take]; rfl)) ?_; (with_reducible refine (impl_GoodRefs.calls _ _ l0 true _ ?side1 ?side2 A2.out).mono ?_); (case side1 => repeat (first | exact HR0.out | (with_reducible refine Kd.C_alloc ?_ _) | (with_reducible refine Kd.C_drewN ?_ _) | (with_reducible refine Kd.C_drew ?_))); (case side2 => exact HC0.out); rintro e w6 ⟨rfl, hb⟩; refine ⟨_, rfl, ?_⟩; have n0_ := Aside0.mk (below_step (by repeat (first | (with_reducible first | exact HB.out | apply below_alloc | apply pw_below_drewN | apply below_drew1) | exact HB.out)) hb); clear HB; have HB := n0_; clear n0_; (try clear hb); (try clear hb2); (try clear hk); (try clear hi)) | ((with_reducible refine gate_dst (N := 11) rfl ?_); refine Kd.R_make (Kd.int .i64) _ 3 rfl (N := 11) rfl 22 _ _ rfl 41 rfl rfl Try.underlying22 (.int .i64 0) 8 info3 rfl (by decide) (by omega) 0 (ok := fun _ => True) (okp := fun _ => True) rfl (fun _ hk => hk) trivial (by omega) (by omega) (Below.refl _ _) (Nat.le_refl _) ?_; intro v148 w7 ho8 hb hg_ hnew_; clear hg_ hnew_; (first | rw [← Ny147.out] at ho8 | (simp only [Int.reduceToNat] at ho8; rw [← Ny147.out] at ho8)); have n0_ := Aside0.mk (Kd.R_lower ho8 (below_size (by repeat (first | (with_reducible first | exact HB.out | apply below_alloc | apply pw_below_drewN | apply below_drew1) | exact HB.out)))); have n1_ := Aside0.mk (below_step (by repeat (first | (with_reducible first | exact HB.out | apply below_alloc | apply pw_below_drewN | apply below_drew1) | exact HB.out)) hb); clear HB; have HO149 := n0_; have HB := n1_; clear n0_ n1_; clear hb ho8) | ((with_reducible refine gate_callee (f := 39) rfl ?_); refine goesL_ (some 13) rfl rfl Try.func39 (by kernel_rfl) rfl #[.slice A0 l0.length c0] rfl (by (try simp only [List.map_toArray, List.map_cons, List.map_nil]); first | done | rfl | (simp only [List.length_drop, List.length_take]; rfl)) ?_; (with_reducible refine (impl_distances.calls k _ _ l0 t150 _ ?side1 ?side2 A5.out).mono ?_); (case side1 => repeat (first | exact (Kd.C_below HR0.out HB.out) | (with_reducible refine Kd.C_alloc ?_ _) | (with_reducible refine Kd.C_drewN ?_ _) | (with_reducible refine Kd.C_drew ?_))); (case side2 => exact HC0.out); rintro e w9 ⟨v151, rfl, ho0, hb⟩; refine ⟨_, rfl, ?_⟩; have n0_ := Aside0.mk (Kd.R_elder' (by (with_reducible repeat (first | apply Kd.R_alloc | apply Kd.R_drewN | apply Kd.R_drew)); exact HO149.out) (Kd.R_base ho0) hb); have n1_ := Aside0.mk (Kd.R_lower (Kd.R_new' ho0 (Kd.R_lt (by (with_reducible repeat (first | apply Kd.R_alloc | apply Kd.R_drewN | apply Kd.R_drew)); exact HO149.out))) (below_size (by repeat (first | (with_reducible first | exact HB.out | apply below_alloc | apply pw_below_drewN | apply below_drew1) | exact HB.out)))); have n2_ := Aside0.mk (below_step (by repeat (first | (with_reducible first | exact HB.out | apply below_alloc | apply pw_below_drewN | apply below_drew1) | exact HB.out)) hb); clear HO149; clear HB; have HO149 := n0_; have HO152 := n1_; have HB := n2_; clear n0_ n1_ n2_; (try clear hb); (try clear hb2); (try clear hk); (try clear hi); (try clear ho0); obtain ⟨Ao10, co10, eo10⟩ := Kd.R_slice HO152.out; subst eo10))
      go_loopg [15] k (fun kq v15 w' => ∃ (x4_1 : List Int) (x15_1 : Int), v15 = .int .i64 x15_1 ∧ Aside0 (impl_HitsOf.l0 kq x4_1 t150 (t150.length : Int) x15_1 = some (r1, r2)) ∧ Aside0 (kq ≤ k) ∧ Aside0 (Kd.R (Kd.int .i64) 3 w' w.heap.size (fun k_ => some k_ ≠ ((.slice Ao10 t150.length co10) : Value).ownBlock) v148 x4_1) ∧ Aside0 (Kd.R (Kd.int .i64) 3 w' w.heap.size (fun k_ => some k_ ≠ (v148 : Value).ownBlock) (.slice Ao10 t150.length co10) t150) ∧ Aside0 (Below w.heap.size w w'))
      case atStart => exact ⟨(y147), (0), (by first | rfl | (simp; done) | (simp [*]; done)), H', ⟨Nat.le_refl _⟩, ⟨by (with_reducible repeat (first | apply Kd.R_alloc | apply Kd.R_drewN | apply Kd.R_drew)); exact Kd.R_mono HO149.out (fun _ hk => hk.2)⟩, ⟨by (with_reducible repeat (first | apply Kd.R_alloc | apply Kd.R_drewN | apply Kd.R_drew)); exact Kd.R_mono HO152.out (fun _ hk => hk.2)⟩, ⟨by repeat (first | (with_reducible first | exact HB.out | apply below_alloc | apply pw_below_drewN | apply below_drew1) | exact HB.out)⟩⟩
      case round =>
        clear H'
        try clear c1
        try clear p2
        try clear c3
        try clear c4
        try clear c4b0
        try clear c4b1
        obtain ⟨x4_1, x15_1, rfl, HA, HK1, HO_4, HO_13, HB⟩ := hrel
        cases gk with
        | zero => exact absurd HA.out (by simp [impl_HitsOf.l0])
        | succ k1 =>
          have H := HA.out
          clear HA
          simp only [impl_HitsOf.l0] at H
          by_cases c11 : x15_1 < (t150.length : Int)
          · rw [if_pos c11] at H
            have c11b0 : decide (x15_1 < (t150.length : Int)) = true := decide_eq_true c11
            clear c11
            by_cases c12 : 0 ≤ x15_1
            · rw [if_pos c12] at H
              have c12b0 : decide (0 ≤ x15_1) = true := decide_eq_true c12
              clear c12
              by_cases c13 : x15_1 < (t150.length : Int)
              · rw [if_pos c13] at H
                have c13b0 : decide (x15_1 < (t150.length : Int)) = true := decide_eq_true c13
                clear c13
                obtain ⟨ji14, hji14⟩ : ∃ j_ : Int, (mx (rd t150 x15_1) 1) = j_ := ⟨_, rfl⟩
                replace H : (impl_HitsOf.l1 k1 x4_1 (rd t150 x15_1) ji14 t150 (t150.length : Int) x15_1) = some (r1, r2) := by first | (rw [hji14] at H; exact H) | (simp only [hji14] at H ⊢; exact H)
                have hji14_ : (if (rd t150 x15_1) < 1 then 1 else (rd t150 x15_1)) = ji14 := hji14
                have H' := Aside0.mk H
                clear H
                have p153 : 0 ≤ (x15_1 : Int) := of_decide_eq_true (by first | (with_reducible assumption) | assumption)
                have q153 : x15_1 < (t150.length : Int) := of_decide_eq_true (by first | (with_reducible assumption) | assumption)
                obtain ⟨ad153, e153, hx153_0⟩ := Kd.at_int (Kd.R_reads' HO_13.out).2.2 x15_1 p153 q153
                cases e153
                replace p153 := eq_true p153
                replace q153 := eq_true q153
                go_wp2
                go_loopg [7] k1 (fun kq v7 w' => ∃ (x4_2 : List Int) (x7_2 : Int), v7 = .int .i64 x7_2 ∧ Aside0 (impl_HitsOf.l1 kq x4_2 (rd t150 x15_1) x7_2 t150 (t150.length : Int) x15_1 = some (r1, r2)) ∧ Aside0 (kq ≤ k1) ∧ Aside0 (Kd.R (Kd.int .i64) 3 w' w.heap.size (fun k_ => some k_ ≠ ((.slice (some ad153) t150.length co10) : Value).ownBlock) v148 x4_2) ∧ Aside0 (Kd.R (Kd.int .i64) 3 w' w.heap.size (fun k_ => some k_ ≠ (v148 : Value).ownBlock) (.slice (some ad153) t150.length co10) t150) ∧ Aside0 (Below w.heap.size w w'))
                case atStart => exact ⟨(x4_1), (ji14), (by first | rfl | (simp; done) | (simp only [← hji14] <;> (first | rfl | simp)) | (simp [*]; done)), H', ⟨Nat.le_refl _⟩, ⟨by (with_reducible repeat (first | apply Kd.R_alloc | apply Kd.R_drewN | apply Kd.R_drew)); exact HO_4.out⟩, ⟨by (with_reducible repeat (first | apply Kd.R_alloc | apply Kd.R_drewN | apply Kd.R_drew)); exact HO_13.out⟩, ⟨by repeat (first | (with_reducible first | exact HB.out | apply below_alloc | apply pw_below_drewN | apply below_drew1) | exact HB.out)⟩⟩
                case round =>
                  clear H'
                  try clear c1
                  try clear p1
                  try clear q1
                  try clear hx1
                  try clear p2
                  try clear c3
                  try clear c4
                  try clear c4b0
                  try clear c4b1
                  try clear c11
                  try clear c11b0
                  try clear c12
                  try clear c12b0
                  try clear c13
                  try clear c13b0
                  try clear hx153_0
                  try clear p153
                  try clear p2
                  try clear q153
                  obtain ⟨x4_2, x7_2, rfl, HA, HK2, HO_4, HO_13, HB⟩ := hrel
                  cases gk with
                  | zero => exact absurd HA.out (by simp [impl_HitsOf.l1])
                  | succ k2 =>
                    have H := HA.out
                    clear HA
                    simp only [impl_HitsOf.l1] at H
                    by_cases c15 : x7_2 ≤ 40
                    · rw [if_pos c15] at H
                      have c15b0 : decide (x7_2 ≤ 40) = true := decide_eq_true c15
                      clear c15
                      by_cases c16 : (rd t150 x15_1) > 0
                      · rw [if_pos c16] at H
                        have c16b0 : decide (0 < (rd t150 x15_1)) = true := decide_eq_true c16
                        clear c16
                        by_cases c17 : 0 ≤ x7_2
                        · rw [if_pos c17] at H
                          have c17b0 : decide (0 ≤ x7_2) = true := decide_eq_true c17
                          clear c17
                          by_cases c18 : x7_2 < (x4_2.length : Int)
                          · rw [if_pos c18] at H
                            have c18b0 : decide (x7_2 < (x4_2.length : Int)) = true := decide_eq_true c18
                            clear c18
                            obtain ⟨y155, hy155⟩ : ∃ y_ : List Int, y_ = (x4_2.set (x7_2 : Int).toNat (wrap64 ((rd x4_2 x7_2) + 1))) := ⟨_, rfl⟩
                            replace H : (impl_HitsOf.l1 k2 y155 (rd t150 x15_1) (wrap64 (x7_2 + 1)) t150 (t150.length : Int) x15_1) = some (r1, r2) := by first | (rw [hy155]; with_reducible exact H) | (have H2_ := (Option.bind_some _ _).symm.trans H; rw [hy155]; with_reducible exact H2_) | (have H2_ := (Option.bind_some _ _).symm.trans H; with_reducible exact H2_) | with_reducible exact H | (rw [hy155]; exact H) | exact H
                            have Ny155 := Aside0.mk hy155
                            clear hy155
                            have H' := Aside0.mk H
                            clear H
                            obtain ⟨Ao20, co20, eo20⟩ := Kd.R_slice HO_4.out
                            subst eo20
                            have p154 : 0 ≤ (x7_2 : Int) := of_decide_eq_true (by first | (with_reducible assumption) | assumption)
                            have q154 : x7_2 < (x4_2.length : Int) := of_decide_eq_true (by first | (with_reducible assumption) | assumption)
                            obtain ⟨ad154, e154, hx154_0⟩ := Kd.at_int (Kd.R_reads' HO_4.out).2.2 x7_2 p154 q154
                            cases e154
                            replace p154 := eq_true p154
                            replace q154 := eq_true q154
                            have p19 : 0 ≤ (x7_2 : Int) := of_decide_eq_true (by first | (with_reducible assumption) | assumption)
                            have q19 : (x7_2 : Int) < ((x4_2.length : Int) : Int) := of_decide_eq_true (by first | (with_reducible assumption) | assumption)
                            obtain ⟨go19, co19, eo19, gb19, gl19, cl19, HG19⟩ := Kd.R_form HO_4.out (by omega)
                            (first | cases eo19 | (injection eo19 with ea_ en_ ec_; (first | subst ea_ | (injection ea_ with ea_; subst ea_)); subst ec_; clear en_))
                            have GB19 := Aside0.mk gb19
                            have GG19 := Aside0.mk HG19
                            clear gb19 gl19 HG19
                            (first | simp only [add_plain] at hx154_0 | skip)
                            obtain ⟨hx19_0, hf19_0⟩ := Kd.R_celln 0 HO_4.out (x7_2 : Int) p19 q19
                            replace p19 := eq_true p19
                            replace q19 := eq_true q19
                            have HP21 := Kd.R_putg HO_4.out (x7_2 : Int) (wrap64 ((rd x4_2 x7_2) + 1))
                            go_wp2_with (first | ((with_reducible refine gate_store (t := 3) (p := 34) rfl ?_); refine store_event (t := 3) (p := 34) (v := ?vo_w22) (w1 := (wr.setCell ⟨go19, (x7_2 : Int).toNat, none⟩ (.int .i64 (wrap64 ((rd x4_2 x7_2) + 1))))) ?hg ?ho ?hn ?hr ?_; (case ho => rfl); (case hg => rfl); (case hn => rfl); (case hr => first | (go_simp; done) | (go_simp; rfl)); intro w22 hw; have hg : wr.grownBy w22 (some go19) := (by rw [hw]; exact HP21.2); have hp_ : Kd.R (Kd.int .i64) 3 w22 w.heap.size (fun k_ => some k_ ≠ (.slice (some ad153) t150.length co10 : Value).ownBlock) (.slice (some ⟨go19, 0, none⟩) x4_2.length co20) y155 := (by rw [hw, Ny155.out]; exact HP21.1); clear HP21; have n0_ := Aside0.mk (hp_); have n1_ := Aside0.mk (Kd.R_after (v := (.slice (some ⟨go19, 0, none⟩) x4_2.length co20)) (v1 := (.slice (some ⟨go19, 0, none⟩) x4_2.length co20)) (ok := (fun _ => True)) (by (with_reducible repeat (first | apply Kd.R_alloc | apply Kd.R_drewN | apply Kd.R_drew)); exact Kd.R_mono HO_13.out (fun _ hk => ⟨trivial, hk⟩)) hg (.inl rfl)); have n2_ := Aside0.mk ((by rw [hw]; exact below_set (HB.out) GB19.out : Below w.heap.size w w22)); clear HO_4; clear HO_13; clear HB; have HO_4 := n0_; have HO_13 := n1_; have HB := n2_; clear n0_ n1_ n2_; clear hg hw hp_))
                            go_roundg k2
                            case measure => have := HK1.out; have := HK2.out; omega
                            case rel => exact ⟨(y155), (wrap64 (x7_2 + 1)), (by first | rfl | (simp; done) | (simp [*]; done)), H', ⟨by have := HK1.out; have := HK2.out; omega⟩, ⟨by (with_reducible repeat (first | apply Kd.R_alloc | apply Kd.R_drewN | apply Kd.R_drew)); exact HO_4.out⟩, ⟨by (with_reducible repeat (first | apply Kd.R_alloc | apply Kd.R_drewN | apply Kd.R_drew)); exact Kd.R_mono HO_13.out (fun _ hk => hk.2)⟩, ⟨by repeat (first | (with_reducible first | exact HB.out | apply below_alloc | apply pw_below_drewN | apply below_drew1) | exact HB.out)⟩⟩
                          · rw [if_neg c18] at H
                            exact absurd H (by simp)
                        · rw [if_neg c17] at H
                          exact absurd H (by simp)
                      · rw [if_neg c16] at H
                        have c16b0 : decide (0 < (rd t150 x15_1)) = false := decide_eq_false c16
                        clear c16
                        have H' := Aside0.mk H
                        clear H
                        go_wp2
                        go_roundg k2
                        case measure => have := HK1.out; have := HK2.out; omega
                        case rel => exact ⟨(x4_2), (wrap64 (x15_1 + 1)), (by first | rfl | (simp; done) | (simp [*]; done)), H', ⟨by have := HK1.out; have := HK2.out; omega⟩, ⟨by (with_reducible repeat (first | apply Kd.R_alloc | apply Kd.R_drewN | apply Kd.R_drew)); exact HO_4.out⟩, ⟨by (with_reducible repeat (first | apply Kd.R_alloc | apply Kd.R_drewN | apply Kd.R_drew)); exact HO_13.out⟩, ⟨by repeat (first | (with_reducible first | exact HB.out | apply below_alloc | apply pw_below_drewN | apply below_drew1) | exact HB.out)⟩⟩
                    · rw [if_neg c15] at H
                      have c15b0 : decide (x7_2 ≤ 40) = false := decide_eq_false c15
                      clear c15
                      have H' := Aside0.mk H
                      clear H
                      go_wp2
                      go_roundg k2
                      case measure => have := HK1.out; have := HK2.out; omega
                      case rel => exact ⟨(x4_2), (wrap64 (x15_1 + 1)), (by first | rfl | (simp; done) | (simp [*]; done)), H', ⟨by have := HK1.out; have := HK2.out; omega⟩, ⟨by (with_reducible repeat (first | apply Kd.R_alloc | apply Kd.R_drewN | apply Kd.R_drew)); exact HO_4.out⟩, ⟨by (with_reducible repeat (first | apply Kd.R_alloc | apply Kd.R_drewN | apply Kd.R_drew)); exact HO_13.out⟩, ⟨by repeat (first | (with_reducible first | exact HB.out | apply below_alloc | apply pw_below_drewN | apply below_drew1) | exact HB.out)⟩⟩
              · rw [if_neg c13] at H
                exact absurd H (by simp)
            · rw [if_neg c12] at H
              exact absurd H (by simp)
          · rw [if_neg c11] at H
            have c11b0 : decide (x15_1 < (t150.length : Int)) = false := decide_eq_false c11
            clear c11
            simp only [Option.some.injEq, Prod.mk.injEq] at H
            obtain ⟨rfl, rfl⟩ := H
            go_wp2
            go_ret2
            exact ⟨_, by first | rfl | (simp [errW_none, errW_some] <;> rfl) | (simp [*, errW_none, errW_some] <;> rfl), by (with_reducible repeat (first | apply Kd.R_alloc | apply Kd.R_drewN | apply Kd.R_drew)); exact Kd.R_mono HO_4.out (fun _ hk => trivial), by repeat (first | (with_reducible first | exact HB.out | apply below_alloc | apply pw_below_drewN | apply below_drew1) | exact HB.out)⟩
    · rw [if_neg c4] at H
      exact absurd H (by simp)
  · replace c3 := Bool.eq_false_iff.mpr c3
    subst c3
    have H1 : (some (([] : List Int), false)) = some (r1, r2) := by rw [if_neg (show ¬ (false = true) by decide)] at H; exact H
    clear H
    have H := H1
    clear H1
    simp only [Option.some.injEq, Prod.mk.injEq] at H
    obtain ⟨rfl, rfl⟩ := H
    go_enter Try.func30, Try.ntmps30
    go_wp2_with (first | ((with_reducible refine gate_callee (f := 13) rfl ?_); refine goesL_ (some 9) rfl rfl Try.func13 (by kernel_rfl) rfl #[.slice A0 l0.length c0] rfl (by (try simp only [List.map_toArray, List.map_cons, List.map_nil]); first | done | rfl | (simp only [List.length_drop, List.length_take]; rfl)) ?_; (with_reducible refine (impl_GoodRefs.calls _ _ l0 false _ ?side1 ?side2 A2.out).mono ?_); (case side1 => repeat (first | exact HR0.out | (with_reducible refine Kd.C_alloc ?_ _) | (with_reducible refine Kd.C_drewN ?_ _) | (with_reducible refine Kd.C_drew ?_))); (case side2 => exact HC0.out); rintro e w23 ⟨rfl, hb⟩; refine ⟨_, rfl, ?_⟩; have n0_ := Aside0.mk (below_step (by repeat (first | (with_reducible first | exact HB.out | apply below_alloc | apply pw_below_drewN | apply below_drew1) | exact HB.out)) hb); clear HB; have HB := n0_; clear n0_; (try clear hb); (try clear hb2); (try clear hk); (try clear hi)))
    go_ret2
    exact ⟨_, by first | rfl | (simp [errW_none, errW_some] <;> rfl) | (simp [*, errW_none, errW_some] <;> rfl), by first | exact Kd.R_nil _ _ _ _ _ | exact Kd.N_nil _ _ _ _ _ | exact Kd.V_nil _ _ _ _ _ | exact Kd.Q_nil _ _ _ _ _ | exact Kd.S_nil _ _ _ _ _, by repeat (first | (with_reducible first | exact HB.out | apply below_alloc | apply pw_below_drewN | apply below_drew1) | exact HB.out)⟩

end Go.Proofs.Ytgkoclacdmmkiaa.PFnExactHitsOf
