-- Written by a program of this project (xprint.py) out of the translation; Lean checks it.
import Derived.Test.YtcmlledlhknbpaaPFnExactPlayChoicesx0
import Derived.Test.YtcmlledlhknbpaaPFnExactPlayChoicesx2
import Derived.Test.YtcmlledlhknbpaaPFnExactPlayChoicesx3
namespace Go.Proofs.Ytcmlledlhknbpaa.PFnExactPlayChoices
open Go.RowKit Go.Proofs.YtcmlledlhknbpaaW.PrintWords Go.Proofs.YtcmlledlhknbpaaW.PrintLast Go.Proofs.YtcmlledlhknbpaaW.PrintMore
attribute [local go_sem] max2_int min2_int max_two min_two max_three min_three max_four min_four   -- for this text's walks alone
set_option linter.unusedVariables false
set_option linter.unusedSimpArgs false

/-! ### xAll_i64_impl_PlayChoices_1: function 29, with function 30 -/
def xAll_i64_impl_PlayChoices_1.z (x : Int) : Option Bool := (impl_PlayChoices_1.f x).bind fun b => some (!b)
def xAll_i64_impl_PlayChoices_1.f (l0 : List Int) : Option (Bool) := if l0.length < 9223372036854775807 then ((idxO (xAll_i64_impl_PlayChoices_1.z) l0 0).bind fun i => some (!decide (i ≥ 0))) else none
set_option maxHeartbeats 8000000 in
set_option maxRecDepth 100000 in
theorem xAll_i64_impl_PlayChoices_1.calls (A0 : Option Addr) (c0 : Nat) (l0 : List Int) (r : Bool) (w : World) (hr0 : Kd.C (Kd.int .i64) w A0 l0.length l0) (hc0 : l0.length ≤ c0) (h : xAll_i64_impl_PlayChoices_1.f l0 = some r) :
    Calls Try.prog 29 #[.slice A0 l0.length c0, .func (.func 30) #[] #[]] w fun e w' => e = .returned (.bool r) ∧ Below w.heap.size w w' := by
  have hbig : l0.length < 9223372036854775807 := by
    by_cases c : l0.length < 9223372036854775807
    · exact c
    · unfold xAll_i64_impl_PlayChoices_1.f at h; rw [if_neg c] at h; cases h
  have h1 : ((idxO (xAll_i64_impl_PlayChoices_1.z) l0 0).bind fun i => some (!decide (i ≥ 0))) = some r := by unfold xAll_i64_impl_PlayChoices_1.f at h; rw [if_pos hbig] at h; exact h
  clear h
  obtain ⟨i, hi1, hi2⟩ := Option.bind_eq_some_iff.mp h1
  clear h1
  obtain rfl := Option.some.inj hi2
  clear hi2
  have eg : ∀ args w, (callFunc 45 args).run Try.prog w = .ok (.enter 45 args) w := enters_of Try.func45 (by kernel_rfl) rfl
  have hb1 : Below w.heap.size w (w.alloc (.cells #[.func (.func 30) #[] #[]] 42)) := (Below.refl _ w).alloc (Nat.le_refl _) _
  have hcall := xContainsFunc_i64 (xAll_i64_impl_PlayChoices_1.z) 45 #[.pointer (some ⟨w.heap.size, 0, none⟩)] eg A0 c0 l0 i (w.alloc (.cells #[.func (.func 30) #[] #[]] 42)) (Kd.C_below hr0 hb1) hc0 hbig
    (by
      intro W x b hb hz
      have hcell : W.cell? ⟨w.heap.size, 0, none⟩ = some (.func (.func 30) #[] #[]) := (hb.cell (p := ⟨w.heap.size, 0, none⟩) (by simp)).trans (by simp)
      obtain ⟨b2, hq, hb2⟩ := Option.bind_eq_some_iff.mp hz
      obtain rfl : (!b2) = b := Option.some.inj hb2
      have hq' := Aside0.mk hq
      have hb' := Aside0.mk hb
      clear hb hz hb2 hq
      show Calls Try.prog 45 #[.int .i64 x, .pointer (some ⟨w.heap.size, 0, none⟩)] W _
      go_enter Try.func45, Try.ntmps45
      go_wp2_with (go_at_call 30; refine (impl_PlayChoices_1.calls x b2 _ hq'.out).mono ?_; rintro e w' ⟨rfl, ⟨nd, rfl⟩⟩)
      go_ret
      exact ⟨rfl, by repeat (first | (with_reducible first | exact hb'.out | apply below_alloc | apply pw_below_drewN | apply below_drew1) | exact hb'.out)⟩)
    hi1
  have hb1' := Aside0.mk hb1
  clear hr0 hc0 hbig hi1 hb1 eg
  go_enter Try.func29, Try.ntmps29
  go_wp2_with (go_at_call 44; refine hcall.mono ?_; rintro e w' ⟨rfl, hb'⟩)
  go_ret
  exact ⟨rfl, below_then hb1'.out (by simp) hb'⟩
theorem xinfo3 : (Try.prog.info? 3).map (fun i => (i.zero, i.size, i.bytes)) = some (some (.int .i64 0), 1, 8) := by kernel_rfl
set_option maxHeartbeats 4000000 in
theorem xClone_i64.calls (A0 : Option Addr) (c0 : Nat) (l0 : List Int) (w : World) (hr0 : Kd.C (Kd.int .i64) w A0 l0.length l0) (hc0 : l0.length ≤ c0) (hbig : l0.length < 17592186044416) :
    Calls Try.prog 49 #[.slice A0 l0.length c0] w fun e w' => ∃ v0_ : Value, e = .returned (v0_) ∧ Kd.R (Kd.int .i64) 3 w' w.heap.size (fun _ => True) v0_ l0 ∧ Below w.heap.size w w' := by
  have HR0 := Aside0.mk hr0
  have HC0 := Aside0.mk hc0
  have HG := Aside0.mk hbig
  have HB := Aside0.mk (Below.refl w.heap.size w)
  clear hc0 hbig
  have q22 : ∀ (w : World) (a : Option Addr) (n c n' c' : Nat), (binOp .eql 22 (.slice a n c) (.slice none n' c')).run Try.prog w = .ok (.bool a.isNone) w := fun w a n c n' c' => Lib.run_eql_slice_nil w _ _ a n c n' c' Try.underlying22
  cases A0 with
  | none =>
    have hl : l0 = [] := by
      cases l0 with
      | nil => rfl
      | cons x xs => obtain ⟨ad, c, he, _⟩ := Kd.C_get hr0 (0 : Int) 0 (by omega) (by simp); cases he
    clear hr0
    subst hl
    go_enter Try.func49, Try.ntmps49
    go_wp2
    go_ret
    exact ⟨_, rfl, Kd.R_nil _ _ _ _ _, HB.out⟩
  | some ad =>
    clear hr0
    go_enter Try.func49, Try.ntmps49
    go_wp2_with (first
      | ((with_reducible refine gate_dst (N := 5) rfl ?_); refine Kd.R_lit (Kd.int .i64) w.heap.size 3 ?hg (N := 5) ?hd (xs := ([] : List Int)) (inner := []) (ok := fun _ => True) (okp := fun _ => True) ?hr ?hp (fun _ hk => hk) trivial (Below.refl _ _) (Nat.le_refl _) (by simp) ?_; (case hd => rfl); (case hg => rfl); (case hr => first | (go_simp; done) | (go_simp; rfl)); (case hp => exact (Reps.none _ _)); intro v1 w1 ho1 hb1 hg_ hnew_; clear hg_ hnew_; have HO1 := Aside0.mk ho1; have HB1 := Aside0.mk hb1; clear ho1 hb1)
      | ((with_reducible refine gate_builtin (b := .append) (xs := #[.tmp 5, .tmp 6]) rfl ?_); at_builtin; refine Kd.R_append_rows (Kd.int .i64) (w0 := w) w.heap.size rfl (.tmp 5) (.tmp 6) 22 3 (.int .i64 0) 8 rfl Try.underlying22 xinfo3 rfl (by decide) (by omega) v1 [] l0 _ _ _ (fun _ => True) (fun _ => False) rfl rfl ?aO ?aR (fun _ _ h => h) (fun _ h => h.elim) ?aF ?aB ?aS ?aL ?_; (case aR => exact Kd.C_below HR0.out HB1.out); (case aB => exact HB1.out); (case aF => exact fun _ _ => trivial); (case aO => exact HO1.out); (case aS => exact HB1.out.size); (case aL => have := HG.out; simp; omega); intro v2 w2 ho hb hg hat; have HO2 := Aside0.mk ho; have HB2 := Aside0.mk hb; clear ho hb hg hat))
    go_ret
    exact ⟨_, rfl, HO2.out, HB2.out⟩
/-- a row of whole numbers of the call's own, written over, and perhaps made shorter -/
theorem xOver_i64 {w0 w : World} {base e g cap n m q : Nat} {xs ys : List Int} (hB : Below base w0 w) (ho : Kd.R (Kd.int .i64) e w base (fun _ => True) (.slice (some ⟨g, 0, none⟩) n cap) xs) (hl : ys.length = xs.length) (hm : m ≤ ys.length) :
    Kd.R (Kd.int .i64) e ((w.drewN q).setCells g 0 (ys.map (Value.int .i64))) base (fun _ => True) (.slice (some ⟨g, 0, none⟩) m cap) (ys.take m) ∧ Below base w0 ((w.drewN q).setCells g 0 (ys.map (Value.int .i64))) := by
  obtain ⟨h1, h2⟩ := Kd.own_of_R ho
  rcases h2 with ⟨hn, _⟩ | ⟨g', cap', cur, hv, hb, hg, hnc, hcm, hcs, ht⟩
  · cases hn
  · injection hv with hv1 hv2 hv3
    injection hv1 with hv1
    injection hv1 with hv1
    subst hv1 hv3
    have hg2 : (w.drewN q).heap[g]? = some (.cells cur e (0, 0)) := hg
    obtain ⟨cur', h3, h4, h5⟩ := setCells_row (ys.map (Value.int .i64)) 0 (w.drewN q) cur hg2 (by rw [List.length_map, hcs]; omega)
    refine ⟨Kd.R_of_own (h1 := fun _ => rfl) ⟨by rw [encs_length]; simp, .inr ⟨g, cap, cur', by rw [List.length_take]; congr 1; omega, hb, h3, by rw [List.length_take]; omega, hcm, by rw [h4, hcs], ?_⟩⟩ (fun _ _ => trivial), ?_⟩
    · rw [h5, List.length_take, List.take_zero, List.nil_append, List.take_append_of_le_length (by simp; omega), Nat.mul_one, Nat.min_eq_left hm]
      simp [encs, List.map_take]
    · obtain ⟨a1, a2, a3, a4⟩ := setCells_same g (ys.map (Value.int .i64)) 0 (w.drewN q)
      exact ⟨a1.trans hB.os, a2.trans hB.tape, a3.trans hB.output, by rw [a4]; exact hB.size, fun k hk => (setCells_far _ 0 k (by omega)).trans (hB.block k hk)⟩
theorem xOwn_slice {e : Nat} {w : World} {base : Nat} {ok : Nat → Prop} {v : Value} {xs : List Int} (h : Kd.R (Kd.int .i64) e w base ok v xs) (hx : xs ≠ []) :
    ∃ g cap, v = .slice (some ⟨g, 0, none⟩) xs.length cap ∧ xs.length ≤ cap ∧ cap ≤ maxLen ∧ ∀ j, j < xs.length → w.cell? ⟨g, 0 + j, none⟩ = some (.int .i64 (xs.getD j 0)) ∧ w.frozen? ⟨g, 0 + j, none⟩ = false := by
  obtain ⟨h1, h2⟩ := Kd.own_of_R h
  rcases h2 with ⟨_, hn⟩ | ⟨g, cap, cur, hv, hb, hg, hnc, hcm, hcs, ht⟩
  · exact absurd (List.eq_nil_of_length_eq_zero hn) hx
  · refine ⟨g, cap, hv, hnc, hcm, fun j hj => ?_⟩
    subst hv
    have h3 := Kd.R_cell (0 : Int) h (j : Int) (by omega) (by omega)
    rw [Nat.zero_add]
    exact h3
set_option maxHeartbeats 4000000 in
/-- slices.Delete of one element of a row of the call's own -/
theorem xDelete1_i64 (w0 w : World) (base : Nat) (v : Value) (l : List Int) (i : Nat) (hi : i < l.length) (hB : Below base w0 w) (ho : Kd.R (Kd.int .i64) 3 w base (fun _ => True) v l) :
    Calls Try.prog 47 #[v, .int .i64 i, .int .i64 ((i : Int) + 1)] w fun e w' => ∃ v0_ : Value, e = .returned (v0_) ∧ Kd.R (Kd.int .i64) 3 w' base (fun _ => True) v0_ (l.eraseIdx i) ∧ Below base w0 w' := by
  obtain ⟨g, cap, rfl, hc1, hc2, hcell⟩ := xOwn_slice ho (by intro h; rw [h] at hi; simp at hi)
  have hm : (maxLen : Nat) = 9223372036854775807 := rfl
  rw [show ((i : Int) + 1) = ((i + 1 : Nat) : Int) by omega]
  refine (Try.slices_Delete_int_cells g 0 l.length cap i (i + 1) l w (Nat.le_refl _) hc1 (by omega) (by omega) (by omega) (fun j hj => (hcell j hj).1) (fun j hj => (hcell j hj).2)).mono ?_
  rintro e w' ⟨rfl, q, rfl⟩
  have hlen : (l.take i ++ l.drop (i + 1)).length = l.length - 1 := by simp; omega
  have hfull : List.take l.length l = l := List.take_of_length_le (Nat.le_refl _)
  rw [hfull]
  have hk := xOver_i64 (q := q) (m := l.length - 1) (ys := l.take i ++ l.drop (i + 1) ++ List.replicate (i + 1 - i) 0) hB ho (by rw [List.length_append, hlen]; simp; omega) (by rw [List.length_append, hlen]; omega)
  refine ⟨_, rfl, ?_, hk.2⟩
  have e3 : List.take (l.length - 1) (l.take i ++ l.drop (i + 1) ++ List.replicate (i + 1 - i) (0 : Int)) = l.take i ++ l.drop (i + 1) := by
    rw [List.take_append_of_le_length (by omega)]
    exact List.take_of_length_le (by omega)
  have h2 := hk.1
  rw [e3] at h2
  rw [show l.length - (i + 1 - i) = l.length - 1 by omega, List.eraseIdx_eq_take_drop_succ]
  exact h2
def Try.xIns_ren : Go.Shelf.Ren := ⟨fun | 21 => 48 | 27 => 58 | 28 => 59 | 35 => 65 | 39 => 69 | n => n, fun | 22 => 22 | 3 => 3 | 4 => 4 | 0 => 0 | n => n, fun | n => n⟩
theorem Try.xIns_lays : Go.Proofs.Lays2.n21 Try.prog Try.xIns_ren := {
  mixed := by kernel_rfl
  f21 := Try.func48.trans (congrArg some (by kernel_rfl))
  f27 := Try.func58.trans (congrArg some (by kernel_rfl))
  f28 := Try.func59.trans (congrArg some (by kernel_rfl))
  f35 := Try.func65.trans (congrArg some (by kernel_rfl))
  f39 := Try.func69.trans (congrArg some (by kernel_rfl))
  t0 := Try.underlying0
  a0 := Try.isAgg0
  z0 := Try.sizeOf0
  v0 := Try.zeroValue0
  t3 := Try.underlying3
  a3 := Try.isAgg3
  z3 := Try.sizeOf3
  v3 := Try.zeroValue3
  t4 := Try.underlying4
  a4 := Try.isAgg4
  z4 := Try.sizeOf4
  v4 := Try.zeroValue4
  t22 := Try.underlying22
  a22 := Try.isAgg22
  z22 := Try.sizeOf22
  v22 := Try.zeroValue22
  i3 := by kernel_rfl }
theorem xR_row {w : World} {base g cap e : Nat} {cur : Array Value} {ys : List Int} (hb : base ≤ g) (hg : w.heap[g]? = some (.cells cur e (0, 0))) (hn : ys.length ≤ cap) (hm : cap ≤ maxLen) (hs : cur.size = cap) (ht : cur.toList.take ys.length = ys.map (Value.int .i64)) :
    Kd.R (Kd.int .i64) e w base (fun _ => True) (.slice (some ⟨g, 0, none⟩) ys.length cap) ys :=
  Kd.R_of_own (h1 := fun _ => rfl) ⟨by rw [encs_length]; simp, .inr ⟨g, cap, cur, rfl, hb, hg, hn, hm, by rw [hs, Nat.mul_one], by rw [Nat.mul_one, ht]; rfl⟩⟩ (fun _ _ => trivial)
/-- a list with one element more, at a place -/
def insL (xs : List Int) (i : Nat) (x : Int) : List Int := xs.take i ++ x :: xs.drop i
theorem insL_length (xs : List Int) (i : Nat) (x : Int) (hi : i ≤ xs.length) : (insL xs i x).length = xs.length + 1 := by
  unfold insL; rw [List.length_append, List.length_cons, List.length_take, List.length_drop]; omega
theorem below_setCells {B : Nat} {w0 w : World} (h : Below B w0 w) {g : Nat} (hg : B ≤ g) (o : Nat) (vs : List Value) : Below B w0 (w.setCells g o vs) := by
  obtain ⟨a1, a2, a3, a4⟩ := setCells_same g vs o w
  exact ⟨a1.trans h.os, a2.trans h.tape, a3.trans h.output, by rw [a4]; exact h.size, fun k hk => (setCells_far _ o k (by omega)).trans (h.block k hk)⟩
set_option maxHeartbeats 4000000 in
/-- slices.Insert of one element into a row of the call's own -/
theorem xInsert1_i64 (w : World) (base : Nat) (v : Value) (xs : List Int) (i : Nat) (x : Int) (hi : i ≤ xs.length) (hlen : xs.length < 1000000) (hbase : base ≤ w.heap.size) (ho : Kd.R (Kd.int .i64) 3 w base (fun _ => True) v xs) :
    Calls Try.prog 48 #[v, .int .i64 i, .slice (some ⟨w.heap.size, 0, none⟩) 1 1] (w.alloc (.cells #[.int .i64 x] 3)) fun e w' => ∃ v0_ : Value, e = .returned (v0_) ∧ Kd.R (Kd.int .i64) 3 w' base (fun _ => True) v0_ (insL xs i x) ∧ Below base w w' := by
  have hm : (maxLen : Nat) = 9223372036854775807 := rfl
  have hB0 : Below base w (w.alloc (.cells #[.int .i64 x] 3)) := (Below.refl _ w).alloc hbase _
  have hvs : ∀ j v, ([Value.int .i64 x] : List Value)[j]? = some v → (w.alloc (.cells #[.int .i64 x] 3)).cell? ⟨w.heap.size, 0 + j, none⟩ = some v := by
    intro j v hj
    cases j with
    | zero => simp at hj; subst hj; simp
    | succ j => simp at hj
  have h1v : ∀ v ∈ ([Value.int .i64 x] : List Value), v.oneCell' = true := by
    intro v hv
    obtain rfl := List.mem_singleton.mp hv
    rfl
  have hown := Kd.own_of_R ho
  have hpl : ∀ ys : List Int, ∀ v ∈ ys.map (Value.int .i64), v.oneCell' = true := by
    intro ys v hv
    obtain ⟨y, _, rfl⟩ := List.mem_map.mp hv
    rfl
  obtain ⟨hl, hrow⟩ := hown
  rcases hrow with ⟨rfl, hn0⟩ | ⟨g, cap, cur, rfl, hb, hg, hnc, hcm, hcs, ht⟩
  · have hx : xs = [] := List.eq_nil_of_length_eq_zero hn0
    subst hx
    have hi0 : i = 0 := by simpa using hi
    subst hi0
    refine (Go.Proofs.Any2.slices_Insert_int_end_grow Try.xIns_lays none 0 0 w.heap.size 0 1 1 [] [.int .i64 x] _ (by omega) (by omega) (by omega) (by omega) rfl rfl (fun _ => rfl) (fun a ha => by cases ha) hvs h1v).mono ?_
    rintro e w' ⟨rfl, rfl⟩
    obtain ⟨gc, hgc⟩ : ∃ gc, gc = grownCap (w.alloc (.cells #[.int .i64 x] 3)) (0 + 1) 0 (Try.xIns_ren.t 3) := ⟨_, rfl⟩
    have g1 : 0 + 1 ≤ gc := by rw [hgc]; exact grownCap_ge _ _ _ _
    have g2 : gc ≤ maxLen := by rw [hgc]; exact grownCap_le_maxLen _ _ _ _ (by omega)
    rw [← hgc]
    refine ⟨_, rfl, ?_, ?_⟩
    · refine xR_row (ys := insL [] 0 x) (cur := (([] ++ [Value.int .i64 x]).toArray ++ Builtin.zeroCells (Value.int .i64 0).cells (gc - (0 + 1)))) (by simp; omega) (blk_new _ _) (by simp [insL]; omega) g2 ?_ ?_
      · rw [Array.size_append, size_zeroCells]; simp [Value.cells]; omega
      · simp [insL]
    · exact (hB0.drew).alloc (by simp; omega) _
  · have hg' : (w.alloc (.cells #[.int .i64 x] 3)).heap[g]? = some (.cells cur 3 (0, 0)) := (Below.heap_alloc w _ g (blk_lt hg)).trans hg
    have hgl : g < w.heap.size := blk_lt hg
    rw [Nat.mul_one] at ht hcs
    have ht2 : cur.toList.take xs.length = xs.map (Value.int .i64) := ht
    have hcell : ∀ j v, (xs.map (Value.int .i64))[j]? = some v → (w.alloc (.cells #[.int .i64 x] 3)).cell? ⟨g, 0 + j, none⟩ = some v := by
      intro j v hj
      have hj2 : j < xs.length := by have z := (List.getElem?_eq_some_iff.mp hj).1; simpa using z
      rw [← ht2, List.getElem?_take_of_lt hj2] at hj
      unfold World.cell?
      simp only [hg', Nat.zero_add]
      simpa using hj
    have hsome : ∀ j, j < cap → ((w.alloc (.cells #[.int .i64 x] 3)).cell? ⟨g, 0 + j, none⟩).isSome = true := by
      intro j hj
      unfold World.cell?
      simp only [hg', Nat.zero_add]
      rw [Array.getElem?_eq_getElem (by omega)]; rfl
    have hfr : ∀ j, (w.alloc (.cells #[.int .i64 x] 3)).frozen? ⟨g, j, none⟩ = false := by
      intro j
      unfold World.frozen?
      simp only [hg']
      simp
    have hsa : (w.alloc (.cells #[.int .i64 x] 3)).shape? w.heap.size = some (3, 1) := by
      unfold World.shape?
      rw [blk_new]; rfl
    have hsb : (w.alloc (.cells #[.int .i64 x] 3)).shape? g = some (3, cap) := by
      unfold World.shape?
      rw [hg', ← hcs]
    have hfa : ∀ j, (w.alloc (.cells #[.int .i64 x] 3)).frozen? ⟨w.heap.size, j, none⟩ = false := by
      intro j
      unfold World.frozen?
      simp only [blk_new]
      simp
    by_cases hin : i = xs.length
    · subst hin
      by_cases hroom : xs.length + 1 ≤ cap
      · refine (Go.Proofs.Any2.slices_Insert_int_end_room Try.xIns_lays g 0 xs.length cap w.heap.size 0 1 1 [.int .i64 x] _ (by omega) hroom (by omega) rfl (fun j hj => by have z := hsome (xs.length + j) (by omega); rw [← Nat.add_assoc] at z; exact z) (fun j hj => hfr _) hvs h1v).mono ?_
        rintro e w' ⟨rfl, rfl⟩
        obtain ⟨cur', h3, h4, h5⟩ := setCells_row [Value.int .i64 x] (0 + xs.length) _ cur hg' (by simp; omega)
        refine ⟨_, rfl, ?_, below_setCells hB0 hb _ _⟩
        have hl2 : (insL xs xs.length x).length = xs.length + 1 := insL_length xs _ x hi
        rw [← hl2]
        refine xR_row hb h3 (by omega) hcm (by rw [h4, hcs]) ?_
        rw [h5, hl2, Nat.zero_add, ht2]
        rw [List.take_append_of_le_length (by simp), List.take_of_length_le (by simp)]
        simp [insL]
      · have hcn : cap = xs.length := by omega
        refine (Go.Proofs.Any2.slices_Insert_int_end_grow Try.xIns_lays (some ⟨g, 0, none⟩) xs.length cap w.heap.size 0 1 1 (xs.map (Value.int .i64)) [.int .i64 x] _ (by omega) hnc (by omega) (by omega) (by simp) rfl (fun h => by cases h) (fun a ha j v hj => by cases ha; have z := hcell j v hj; rw [Addr.add_lit]; exact z) hvs h1v).mono ?_
        rintro e w' ⟨rfl, rfl⟩
        obtain ⟨gc, hgc⟩ : ∃ gc, gc = grownCap (w.alloc (.cells #[.int .i64 x] 3)) (xs.length + 1) cap (Try.xIns_ren.t 3) := ⟨_, rfl⟩
        have g1 : xs.length + 1 ≤ gc := by rw [hgc]; exact grownCap_ge _ _ _ _
        have g2 : gc ≤ maxLen := by rw [hgc]; exact grownCap_le_maxLen _ _ _ _ (by omega)
        rw [← hgc]
        have hl2 : (insL xs xs.length x).length = xs.length + 1 := insL_length xs _ x hi
        refine ⟨_, rfl, ?_, (hB0.drew).alloc (by simp; omega) _⟩
        rw [← hl2]
        refine xR_row (cur := ((xs.map (Value.int .i64) ++ [Value.int .i64 x]).toArray ++ Builtin.zeroCells (Value.int .i64 0).cells (gc - (insL xs xs.length x).length))) (by simp; omega) (blk_new _ _) (by omega) g2 ?_ ?_
        · rw [Array.size_append, size_zeroCells]; simp [Value.cells]; omega
        · rw [Array.toList_append, List.take_append_of_le_length (by simp [hl2]), List.take_of_length_le (by simp [hl2])]
          simp [insL]
    · have hlt : i < xs.length := by omega
      have hl2 : (insL xs i x).length = xs.length + 1 := insL_length xs i x hi
      by_cases hroom : xs.length + 1 ≤ cap
      · refine (Go.Proofs.Any2.slices_Insert_int_shift Try.xIns_lays g 0 xs.length cap i w.heap.size 0 1 1 (xs.map (Value.int .i64)) [.int .i64 x] _ hlt (by omega) hroom (by omega) (by omega) (by simp) rfl hcell (fun j hj => hsome j (by omega)) (fun j _ => hfr _) hvs (hpl xs) h1v 3 3 1 cap hsa hsb (by omega) (hfa _) (hfa _)).mono ?_
        rintro e w' ⟨rfl, rfl⟩
        have hgd : (w.alloc (.cells #[.int .i64 x] 3)).drew.heap[g]? = some (.cells cur 3 (0, 0)) := hg'
        obtain ⟨c1, h3, h4, h5⟩ := setCells_row ((xs.map (Value.int .i64)).drop i) (0 + (i + 1)) _ cur hgd (by simp; omega)
        obtain ⟨c2, h6, h7, h8⟩ := setCells_row [Value.int .i64 x] (0 + i) _ c1 h3 (by simp; omega)
        refine ⟨_, rfl, ?_, below_setCells (below_setCells hB0.drew hb _ _) hb _ _⟩
        rw [← hl2]
        refine xR_row hb h6 (by omega) hcm (by rw [h7, h4, hcs]) ?_
        rw [h8, h5, hl2]
        have e1 : (cur.toList.take (0 + (i + 1))).length = i + 1 := by rw [List.length_take, Array.length_toList]; omega
        have e2 : cur.toList.take i = (xs.map (Value.int .i64)).take i := by rw [← ht2, List.take_take]; congr 1; omega
        have e3 : (cur.toList.take (0 + (i + 1)) ++ (xs.map (Value.int .i64)).drop i ++ cur.toList.drop (0 + (i + 1) + ((xs.map (Value.int .i64)).drop i).length)).take (0 + i) = (xs.map (Value.int .i64)).take i := by
          rw [List.append_assoc, List.take_append_of_le_length (by omega), List.take_take, ← e2]; congr 1; omega
        have e4 : (cur.toList.take (0 + (i + 1)) ++ (xs.map (Value.int .i64)).drop i ++ cur.toList.drop (0 + (i + 1) + ((xs.map (Value.int .i64)).drop i).length)).drop (0 + i + [Value.int .i64 x].length) = (xs.map (Value.int .i64)).drop i ++ cur.toList.drop (0 + (i + 1) + ((xs.map (Value.int .i64)).drop i).length) := by
          have e6 : 0 + i + [Value.int .i64 x].length = (cur.toList.take (0 + (i + 1))).length := by rw [e1, List.length_singleton]; omega
          rw [List.append_assoc, e6, List.drop_left]
        rw [e3, e4, ← List.append_assoc]
        have e5 : ((xs.map (Value.int .i64)).take i ++ [Value.int .i64 x] ++ (xs.map (Value.int .i64)).drop i).length = xs.length + 1 := by simp; omega
        rw [List.take_append_of_le_length (by rw [e5]; exact Nat.le_refl _), List.take_of_length_le (by rw [e5]; exact Nat.le_refl _)]
        unfold insL
        rw [List.map_append, List.map_cons, List.map_take, List.map_drop]
        simp
      · refine (Go.Proofs.Any2.slices_Insert_int_grow Try.xIns_lays g 0 xs.length cap i w.heap.size 0 1 1 (xs.map (Value.int .i64)) [.int .i64 x] _ hlt (by omega) hnc (by omega) (by omega) (by simp) rfl hcell hvs (hpl xs) h1v).mono ?_
        rintro e w' ⟨rfl, rfl⟩
        obtain ⟨gc, hgc⟩ : ∃ gc, gc = grownCap (w.alloc (.cells #[.int .i64 x] 3)) (xs.length + 1) cap (Try.xIns_ren.t 3) := ⟨_, rfl⟩
        have g1 : xs.length + 1 ≤ gc := by rw [hgc]; exact grownCap_ge _ _ _ _
        have g2 : gc ≤ maxLen := by rw [hgc]; exact grownCap_le_maxLen _ _ _ _ (by omega)
        rw [← hgc]
        obtain ⟨cur, hcur⟩ : ∃ cur : Array Value, cur = (((xs.map (Value.int .i64)).take i).toArray ++ Builtin.zeroCells (Value.int .i64 0).cells (xs.length + 1 - i) ++ Builtin.zeroCells (Value.int .i64 0).cells (gc - (xs.length + 1))) := ⟨_, rfl⟩
        have hcz : cur.size = gc := by rw [hcur, Array.size_append, Array.size_append, size_zeroCells, size_zeroCells]; simp [Value.cells]; omega
        have hct : cur.toList.take i = (xs.map (Value.int .i64)).take i := by
          rw [hcur, Array.toList_append, Array.toList_append, List.append_assoc, List.take_append_of_le_length (by simp; omega), List.take_of_length_le (by simp; omega)]
        rw [← hcur]
        have hnew : (((w.alloc (.cells #[.int .i64 x] 3)).alloc (.cells cur (Try.xIns_ren.t 3))).drew).heap[(w.alloc (.cells #[.int .i64 x] 3)).heap.size]? = some (.cells cur 3 (0, 0)) := blk_new _ _
        obtain ⟨c1, h3, h4, h5⟩ := setCells_row [Value.int .i64 x] i _ cur hnew (by simp; omega)
        have h3' : ((((w.alloc (.cells #[.int .i64 x] 3)).alloc (.cells cur (Try.xIns_ren.t 3))).drew.setCells (w.alloc (.cells #[.int .i64 x] 3)).heap.size i [Value.int .i64 x]).drew).heap[(w.alloc (.cells #[.int .i64 x] 3)).heap.size]? = some (.cells c1 3 (0, 0)) := h3
        obtain ⟨c2, h6, h7, h8⟩ := setCells_row ((xs.map (Value.int .i64)).drop i) (i + 1) _ c1 h3' (by simp; omega)
        have hbn : base ≤ (w.alloc (.cells #[.int .i64 x] 3)).heap.size := by simp; omega
        refine ⟨_, rfl, ?_, below_setCells (below_setCells (hB0.alloc hbn _).drew hbn _ _).drew hbn _ _⟩
        rw [← hl2]
        refine xR_row hbn h6 (by omega) g2 (by rw [h7, h4, hcz]) ?_
        have e1 : c1.toList.take (i + 1) = (xs.map (Value.int .i64)).take i ++ [Value.int .i64 x] := by
          rw [h5, hct, List.take_append_of_le_length (by simp; omega), List.take_of_length_le (by simp; omega)]
        rw [h8, e1, hl2]
        have e5 : ((xs.map (Value.int .i64)).take i ++ [Value.int .i64 x] ++ (xs.map (Value.int .i64)).drop i).length = xs.length + 1 := by simp; omega
        rw [List.take_append_of_le_length (by rw [e5]; exact Nat.le_refl _), List.take_of_length_le (by rw [e5]; exact Nat.le_refl _)]
        unfold insL
        rw [List.map_append, List.map_cons, List.map_take, List.map_drop]
        simp
/-- references played, where a rule (which may remember) tells what goes -/
def playO {σ : Type} (k : Nat) (goes : σ → Int → List Int → Option (Int × σ)) (size : Int) : List Int → Int → List Int → Int → σ → Option (List Int × Int)
  | [], _, pages, hits, _ => some (pages, hits)
  | p :: ps, i, pages, hits, s =>
    (slices_BinarySearch_int_int.f k pages p).bind fun r => if r.2 = true then playO k goes size ps (i + 1) pages (wrap64 (hits + 1)) s
      else if size = 0 then playO k goes size ps (i + 1) pages hits s
      else if (pages.length : Int) = size then
        (goes s (wrap64 (i + 1)) pages).bind fun q => if 0 ≤ q.1 ∧ q.1 < (pages.length : Int) ∧ pages.length < 900000 then
          (slices_BinarySearch_int_int.f k (pages.eraseIdx q.1.toNat) p).bind fun r2 => if 0 ≤ r2.1 ∧ r2.1 ≤ ((pages.eraseIdx q.1.toNat).length : Int) then
            playO k goes size ps (i + 1) (insL (pages.eraseIdx q.1.toNat) r2.1.toNat p) hits q.2 else none
        else none
      else if 0 ≤ r.1 ∧ r.1 ≤ (pages.length : Int) ∧ pages.length < 900000 then playO k goes size ps (i + 1) (insL pages r.1.toNat p) hits s else none
theorem playO_at {σ : Type} (k : Nat) (goes : σ → Int → List Int → Option (Int × σ)) (size : Int) (l : List Int) (n : Nat) (h : n < l.length) (pages : List Int) (hits : Int) (s : σ) :
    playO k goes size (l.drop n) (n : Int) pages hits s = (slices_BinarySearch_int_int.f k pages l[n]).bind fun r => if r.2 = true then playO k goes size (l.drop (n + 1)) ((n + 1 : Nat) : Int) pages (wrap64 (hits + 1)) s
      else if size = 0 then playO k goes size (l.drop (n + 1)) ((n + 1 : Nat) : Int) pages hits s
      else if (pages.length : Int) = size then
        (goes s (wrap64 ((n : Int) + 1)) pages).bind fun q => if 0 ≤ q.1 ∧ q.1 < (pages.length : Int) ∧ pages.length < 900000 then
          (slices_BinarySearch_int_int.f k (pages.eraseIdx q.1.toNat) l[n]).bind fun r2 => if 0 ≤ r2.1 ∧ r2.1 ≤ ((pages.eraseIdx q.1.toNat).length : Int) then
            playO k goes size (l.drop (n + 1)) ((n + 1 : Nat) : Int) (insL (pages.eraseIdx q.1.toNat) r2.1.toNat l[n]) hits q.2 else none
        else none
      else if 0 ≤ r.1 ∧ r.1 ≤ (pages.length : Int) ∧ pages.length < 900000 then playO k goes size (l.drop (n + 1)) ((n + 1 : Nat) : Int) (insL pages r.1.toNat l[n]) hits s else none := by
  rw [List.drop_eq_getElem_cons h]; rfl
theorem playO_mono {σ : Type} (k : Nat) (g1 g2 : σ → Int → List Int → Option (Int × σ)) (hg : ∀ s n p, LeO (g1 s n p) (g2 s n p)) (size : Int) (l : List Int) : ∀ (i : Int) (pages : List Int) (hits : Int) (s : σ), LeO (playO k g1 size l i pages hits s) (playO (k + 1) g2 size l i pages hits s) := by
  induction l with
  | nil => intro i pages hits s; exact LeO.refl _
  | cons p ps ih =>
    intro i pages hits s
    unfold playO
    exact LeO.bind (slices_BinarySearch_int_int.mono _ _ _) (fun _ => LeO.ite (ih _ _ _ _) (LeO.ite (ih _ _ _ _) (LeO.ite (LeO.bind (hg _ _ _) (fun _ => LeO.ite (LeO.bind (slices_BinarySearch_int_int.mono _ _ _) (fun _ => LeO.ite (ih _ _ _ _) (LeO.none _))) (LeO.none _))) (LeO.ite (ih _ _ _ _) (LeO.none _)))))
/-- what a function that a row outlives may do: blocks from B on stay -/
theorem xR_goes {w W w' : World} {v : Value} {xs : List Int} {B : Nat} (h : Kd.R (Kd.int .i64) 3 W B (fun _ => True) v xs) (hk : ∀ q, B ≤ q → q < W.heap.size → w'.heap[q]? = W.heap[q]?) : Kd.R (Kd.int .i64) 3 w' B (fun _ => True) v xs :=
  Kd.R_mono (Kd.R_step (Kd.R_bound h) (fun q hq hlt => hk q hq.2.1 hlt)) (fun _ _ => trivial)
set_option maxHeartbeats 16000000 in
set_option maxRecDepth 100000 in
theorem xplayBy {σ : Type} (k : Nat) (goes : σ → Int → List Int → Option (Int × σ)) (g : Nat) (lb : Array Value) (eg : ∀ args w, (callFunc g args).run Try.prog w = .ok (.enter g args) w) (Inv : σ → World → Prop)
    (wp w : World) (hBp : Below wp.heap.size wp w) (A0 : Option Addr) (c0 : Nat) (l : List Int) (hr0 : Kd.C (Kd.int .i64) wp A0 l.length l) (hc0 : l.length ≤ c0) (size : Int) (s : σ)
    (hinv : ∀ (W W' : World) (s : σ), Inv s W → (∀ q, q < w.heap.size → W'.heap[q]? = W.heap[q]?) → Inv s W') (hI : Inv s w)
    (hg : ∀ (W : World) (s : σ) (next : Int) (pages : List Int) (A : Option Addr) (c : Nat) (r : Int) (s' : σ), Below wp.heap.size wp W → w.heap.size ≤ W.heap.size → Inv s W → Kd.C (Kd.int .i64) W A pages.length pages → pages.length ≤ c → goes s next pages = some (r, s') →
      Calls Try.prog g (#[.int .i64 next, .slice A pages.length c] ++ lb) W fun e w' => e = .returned (.int .i64 r) ∧ Below wp.heap.size wp w' ∧ W.heap.size ≤ w'.heap.size ∧ (∀ q, w.heap.size ≤ q → q < W.heap.size → w'.heap[q]? = W.heap[q]?) ∧ Inv s' w')
    (hl : l.length < 900000) (ps : List Int) (hh : Int) (h : playO k goes size l 0 [] 0 s = some (ps, hh)) (hps : ps.length < 900000) :
    Calls Try.prog 31 #[.slice A0 l.length c0, .int .i64 size, .func (.func g) #[] lb] w fun e w' => ∃ v0_ : Value, e = .returned (.tuple #[v0_, .int .i64 hh]) ∧ Kd.R (Kd.int .i64) 3 w' w.heap.size (fun _ => True) v0_ ps ∧ Below wp.heap.size wp w' := by
  have HR0 := Aside0.mk hr0
  have HC0 := Aside0.mk hc0
  have HG := Aside0.mk hg
  have HV := Aside0.mk hinv
  have HI := Aside0.mk hI
  have HBP := Aside0.mk hBp
  have HL := Aside0.mk hl
  have HPS := Aside0.mk hps
  have HH : Aside0 (playO k goes size (l.drop 0) ((0 : Nat) : Int) [] 0 s = some (ps, hh)) := ⟨h⟩
  have HZ : Aside0 (wp.heap.size ≤ w.heap.size) := ⟨hBp.size⟩
  clear hr0 hc0 hg hinv hI hBp hl hps h
  go_enter Try.func31, Try.ntmps31
  go_wp2
  go_loopg [8, 9, 17] l.length (fun gg s8 s9 s17 wr => ∃ (kk : Nat) (v : Value) (pages : List Int) (hits : Int) (st : σ), kk ≤ l.length ∧ l.length - kk ≤ gg ∧ s17 = .int .i64 kk ∧ v = s8 ∧ s9 = .int .i64 hits ∧ Aside0 (Below wp.heap.size wp wr) ∧ Aside0 (w.heap.size ≤ wr.heap.size) ∧ Aside0 (Kd.R (Kd.int .i64) 3 wr w.heap.size (fun _ => True) v pages) ∧ Aside0 (Inv st wr) ∧ Aside0 (playO k goes size (l.drop kk) (kk : Int) pages hits st = some (ps, hh)))
  case atStart => exact ⟨0, .slice none 0 0, [], 0, s, Nat.zero_le _, by omega, rfl, rfl, rfl, HBP, ⟨Nat.le_refl _⟩, ⟨Kd.R_nil _ _ _ _ _⟩, HI, HH⟩
  case round =>
    clear HH HI HBP
    obtain ⟨kk, v, pages, hits, st, hkk, hgk, rfl, rfl, rfl, HB, HSZ, HO, HI, HP⟩ := hrel
    obtain ⟨Av, cv, ev⟩ := Kd.R_slice HO.out
    subst ev
    by_cases hlt : kk < l.length
    · have hltz : (kk : Int) < (l.length : Int) := by omega
      obtain ⟨ad, he, hy0⟩ := Kd.at_int (Kd.C_below HR0.out HB.out) (kk : Int) (by omega) hltz
      have hrd : rd l (kk : Int) = l[kk] := by unfold rd; simp [List.getD_eq_getElem?_getD, hlt]
      rw [hrd, Int.toNat_natCast] at hy0
      subst he
      have H := HP.out
      rw [playO_at k goes size l kk hlt] at H
      clear HP hrd
      generalize l[kk] = p at *
      obtain ⟨⟨at_, th⟩, hbs, H⟩ := Option.bind_eq_some_iff.mp H
      have HBS := Aside0.mk hbs
      clear hbs
      have HW : Aside0 (wrap64 ((kk : Int) + 1) = ((kk + 1 : Nat) : Int)) := ⟨by have := HL.out; unfold wrap64; omega⟩
      cases th with
      | true =>
        have H' : Aside0 (playO k goes size (l.drop (kk + 1)) ((kk + 1 : Nat) : Int) pages (wrap64 (hits + 1)) st = some (ps, hh)) := ⟨by rw [if_pos rfl] at H; exact H⟩
        clear H
        go_wp2_with (go_at_call 46; (with_reducible refine (slices_BinarySearch_int_int.calls k Av cv pages p at_ true _ ?s1 ?s2 HBS.out).mono ?_); (case s1 => exact (Kd.R_reads' HO.out).2.2); (case s2 => exact (Kd.R_reads' HO.out).2.1); rintro e w' ⟨rfl, ⟨nd, rfl⟩⟩)
        have hw := HW.out
        go_roundg (l.length - (kk + 1))
        case measure => omega
        case rel => exact ⟨kk + 1, _, pages, _, st, by omega, by omega, by first | (rw [hw]; done) | (simp [hw]; done) | go_num, rfl, rfl, ⟨pw_below_drewN HB.out nd⟩, ⟨HSZ.out⟩, ⟨Kd.R_drewN HO.out nd⟩, ⟨HV.out _ _ _ HI.out (fun _ _ => rfl)⟩, H'⟩
      | false =>
        simp only [Bool.false_eq_true, if_false] at H
        by_cases hs0 : size = 0
        · have H' : Aside0 (playO k goes size (l.drop (kk + 1)) ((kk + 1 : Nat) : Int) pages hits st = some (ps, hh)) := ⟨by rw [if_pos hs0] at H; exact H⟩
          have hs0b : (size == 0) = true := by simp [hs0]
          clear H hs0
          go_wp2_with (go_at_call 46; (with_reducible refine (slices_BinarySearch_int_int.calls k Av cv pages p at_ false _ ?s3 ?s4 HBS.out).mono ?_); (case s3 => exact (Kd.R_reads' HO.out).2.2); (case s4 => exact (Kd.R_reads' HO.out).2.1); rintro e w' ⟨rfl, ⟨nd, rfl⟩⟩)
          have hw := HW.out
          go_roundg (l.length - (kk + 1))
          case measure => omega
          case rel => exact ⟨kk + 1, _, pages, _, st, by omega, by omega, by first | (rw [hw]; done) | (simp [hw]; done) | go_num, rfl, rfl, ⟨pw_below_drewN HB.out nd⟩, ⟨HSZ.out⟩, ⟨Kd.R_drewN HO.out nd⟩, ⟨HV.out _ _ _ HI.out (fun _ _ => rfl)⟩, H'⟩
        · rw [if_neg hs0] at H
          have hs0b : (size == 0) = false := by simp [hs0]
          by_cases hq : (pages.length : Int) = size
          · rw [if_pos hq] at H
            have hqb : ((pages.length : Int) == size) = true := by simp [hq]
            obtain ⟨⟨r, st2⟩, hgo, H⟩ := Option.bind_eq_some_iff.mp H
            by_cases hr : 0 ≤ r ∧ r < (pages.length : Int) ∧ pages.length < 900000
            · rw [if_pos hr] at H
              obtain ⟨hr1, hr2, hr3⟩ := hr
              obtain ⟨rn, rfl⟩ := Int.eq_ofNat_of_zero_le hr1
              simp only [Int.toNat_natCast] at H
              obtain ⟨⟨an, th2⟩, hbs2, H⟩ := Option.bind_eq_some_iff.mp H
              have hrl : (pages.eraseIdx rn).length = pages.length - 1 := List.length_eraseIdx_of_lt (by omega)
              by_cases ha : 0 ≤ an ∧ an ≤ ((pages.eraseIdx rn).length : Int)
              · rw [if_pos ha] at H
                obtain ⟨ha1, ha2⟩ := ha
                obtain ⟨a2, rfl⟩ := Int.eq_ofNat_of_zero_le ha1
                simp only [Int.toNat_natCast] at H
                have H' := Aside0.mk H
                have HGO := Aside0.mk hgo
                have HBS2 := Aside0.mk hbs2
                have HRN := Aside0.mk (show rn < pages.length by omega)
                have HA2 := Aside0.mk (show a2 ≤ (pages.eraseIdx rn).length by omega)
                have HRL := Aside0.mk (show (pages.eraseIdx rn).length < 900000 by omega)
                have hrw : wrap64 ((rn : Int) + 1) = (rn : Int) + 1 := by unfold wrap64; omega
                clear H hgo hbs2 hr1 hr2 hr3 hrl ha1 ha2
                go_wp2_with (first
                  | (go_at_call 46; (with_reducible refine (slices_BinarySearch_int_int.calls k Av cv pages p at_ false _ ?s5 ?s6 HBS.out).mono ?_); (case s5 => exact (Kd.R_reads' HO.out).2.2); (case s6 => exact (Kd.R_reads' HO.out).2.1); rintro e w' ⟨rfl, ⟨nd, rfl⟩⟩)
                  | (go_at_fn g; refine (HG.out _ st _ pages Av cv (rn : Int) st2 (pw_below_drewN HB.out nd) HSZ.out (HV.out _ _ _ HI.out (fun _ _ => rfl)) (Kd.C_drewN (Kd.R_reads' HO.out).2.2 nd) (Kd.R_reads' HO.out).2.1 HGO.out).mono ?_; rintro e w2 ⟨rfl, hb2, hz2, hk2, hi2⟩; have HB2 := Aside0.mk hb2; have HZ2 : Aside0 (w.heap.size ≤ w2.heap.size) := ⟨Nat.le_trans HSZ.out hz2⟩; have HI2 := Aside0.mk hi2; have HO2 := Aside0.mk (xR_goes (w := w) (Kd.R_drewN HO.out nd) hk2); clear hb2 hz2 hk2 hi2)
                  | (go_at_call 47; refine (xDelete1_i64 _ _ w.heap.size (.slice Av pages.length cv) pages rn HRN.out (Below.refl _ _) HO2.out).mono ?_; rintro e w3 ⟨v3, rfl, ho3, hb3⟩; obtain ⟨A3, c3, e3⟩ := Kd.R_slice ho3; subst e3; have HO3 := Aside0.mk ho3; have HB3 := Aside0.mk hb3; clear ho3 hb3)
                  | (go_at_call 46; (with_reducible refine (slices_BinarySearch_int_int.calls k A3 c3 (pages.eraseIdx rn) p (a2 : Int) th2 _ ?s7 ?s8 HBS2.out).mono ?_); (case s7 => exact (Kd.R_reads' HO3.out).2.2); (case s8 => exact (Kd.R_reads' HO3.out).2.1); rintro e w' ⟨rfl, ⟨nd2, rfl⟩⟩)
                  | (go_at_call 48; refine (xInsert1_i64 (w3.drewN nd2) w.heap.size (.slice A3 (pages.eraseIdx rn).length c3) (pages.eraseIdx rn) a2 p HA2.out (by have := HRL.out; omega) (Nat.le_trans HZ2.out HB3.out.size) (Kd.R_drewN HO3.out nd2)).mono ?_; rintro e w4 ⟨v4, rfl, ho4, hb4⟩; have HO4 := Aside0.mk ho4; have HB4 := Aside0.mk hb4; clear ho4 hb4))
                have hw := HW.out
                go_roundg (l.length - (kk + 1))
                case measure => omega
                case rel =>
                  refine ⟨kk + 1, v4, insL (pages.eraseIdx rn) a2 p, _, st2, by omega, by omega, by first | (rw [hw]; done) | (simp [hw]; done) | go_num, rfl, rfl, ⟨?_⟩, ⟨?_⟩, HO4, ⟨?_⟩, H'⟩
                  · exact (HB2.out.trans (HB3.out.mono HZ.out)).trans ((pw_below_drewN (Below.refl _ _) nd2).trans (HB4.out.mono HZ.out))
                  · exact Nat.le_trans (Nat.le_trans HZ2.out HB3.out.size) HB4.out.size
                  · exact HV.out _ _ _ HI2.out (fun q hq => (HB4.out.block q hq).trans (HB3.out.block q hq))
              · rw [if_neg ha] at H; cases H
            · rw [if_neg hr] at H; cases H
          · rw [if_neg hq] at H
            have hqb : ((pages.length : Int) == size) = false := by simp [hq]
            by_cases ha : 0 ≤ at_ ∧ at_ ≤ (pages.length : Int) ∧ pages.length < 900000
            · rw [if_pos ha] at H
              obtain ⟨ha1, ha2, ha3⟩ := ha
              obtain ⟨a2, rfl⟩ := Int.eq_ofNat_of_zero_le ha1
              simp only [Int.toNat_natCast] at H
              have H' := Aside0.mk H
              have HA2 := Aside0.mk (show a2 ≤ pages.length by omega)
              have HRL := Aside0.mk ha3
              clear H ha1 ha2 ha3
              go_wp2_with (first
                | (go_at_call 46; (with_reducible refine (slices_BinarySearch_int_int.calls k Av cv pages p (a2 : Int) false _ ?s9 ?s10 HBS.out).mono ?_); (case s9 => exact (Kd.R_reads' HO.out).2.2); (case s10 => exact (Kd.R_reads' HO.out).2.1); rintro e w' ⟨rfl, ⟨nd, rfl⟩⟩)
                | (go_at_call 48; refine (xInsert1_i64 (wr.drewN nd) w.heap.size (.slice Av pages.length cv) pages a2 p HA2.out (by have := HRL.out; omega) HSZ.out (Kd.R_drewN HO.out nd)).mono ?_; rintro e w4 ⟨v4, rfl, ho4, hb4⟩; have HO4 := Aside0.mk ho4; have HB4 := Aside0.mk hb4; clear ho4 hb4))
              have hw := HW.out
              go_roundg (l.length - (kk + 1))
              case measure => omega
              case rel =>
                refine ⟨kk + 1, v4, insL pages a2 p, _, st, by omega, by omega, by first | (rw [hw]; done) | (simp [hw]; done) | go_num, rfl, rfl, ⟨?_⟩, ⟨?_⟩, HO4, ⟨?_⟩, H'⟩
                · exact (pw_below_drewN HB.out nd).trans (HB4.out.mono HZ.out)
                · exact Nat.le_trans HSZ.out HB4.out.size
                · exact HV.out _ _ _ HI.out (fun q hq => HB4.out.block q hq)
            · rw [if_neg ha] at H; cases H
    · have hlt2 : ¬ (kk : Int) < (l.length : Int) := by omega
      have H := HP.out
      rw [List.drop_of_length_le (by omega)] at H
      unfold playO at H
      obtain ⟨rfl, rfl⟩ := Prod.mk.inj (Option.some.inj H)
      clear H HP
      go_wp2_with (go_at_call 49; refine (xClone_i64.calls Av cv pages _ (Kd.R_reads' HO.out).2.2 (Kd.R_reads' HO.out).2.1 (by have := HPS.out; omega)).mono ?_; rintro e w1 ⟨v1, rfl, ho, hb⟩; have HO1 := Aside0.mk ho; have HB1 := Aside0.mk hb; clear ho hb)
      go_ret2
      exact ⟨_, rfl, Kd.R_lower HO1.out HSZ.out, HB.out.trans (HB1.out.mono HB.out.size)⟩
/-! ### impl_PlayChoices: function 10 -/
/-- what is chosen next, of what is left of the choices -/
def chG (size : Int) : List Int → Int → List Int → Option (Int × List Int)
  | [], _, _ => some (0, [])
  | n :: r, _, _ => if size = 0 then none else some (Int.tmod n size, r)
def impl_PlayChoices.f (k : Nat) (l0 : List Int) (a1 : Int) (l2 : List Int) : Option (List Int × Int × Bool) :=
  (impl_GoodRefs.f l0).bind fun b1 => if b1 = true then ((impl_isSize.f a1).bind fun b2 => if b2 = true then
    (if (l2.length : Int) > 200 then some ([], 0, false) else ((xAll_i64_impl_PlayChoices_1.f l2).bind fun b3 => if b3 = true then
      ((playO k (chG a1) a1 l0 0 [] 0 l2).bind fun q => if q.1.length < 900000 ∧ l0.length < 900000 then some (q.1, q.2, true) else none) else some ([], 0, false)))
    else some ([], 0, false)) else some ([], 0, false)
theorem impl_PlayChoices.mono : ∀ a0 a1 a2 k, LeO (impl_PlayChoices.f k a0 a1 a2) (impl_PlayChoices.f (k + 1) a0 a1 a2) := by
  intro a0 a1 a2 k
  unfold impl_PlayChoices.f
  exact LeO.bind (LeO.refl _) (fun _ => LeO.ite (LeO.bind (LeO.refl _) (fun _ => LeO.ite (LeO.ite (LeO.refl _) (LeO.bind (LeO.refl _) (fun _ => LeO.ite (LeO.bind (playO_mono k _ _ (fun s n p => LeO.refl _) _ _ _ _ _ _) (fun _ => LeO.refl _)) (LeO.refl _)))) (LeO.refl _))) (LeO.refl _))
/-- what the literal remembers: what is left of the choices, in a variable; and the size -/
def xChInv (wp : World) (size : Int) (rest : List Int) (W : World) : Prop :=
  ∃ (A : Option Addr) (c : Nat), Boxed W (wp.heap.size + 1) 22 (.slice A rest.length c) ∧ rest.length ≤ c ∧ Kd.C (Kd.int .i64) wp A rest.length rest ∧ Boxed W wp.heap.size 3 (.int .i64 size)
set_option maxHeartbeats 8000000 in
set_option maxRecDepth 100000 in
theorem xCh_lit (wp : World) (size next r : Int) (rest rest2 pages : List Int) (A : Option Addr) (c : Nat) (W : World) (hb : Below wp.heap.size wp W) (hi : xChInv wp size rest W) (h : chG size rest next pages = some (r, rest2)) :
    Calls Try.prog 32 #[.int .i64 next, .slice A pages.length c, .pointer (some ⟨wp.heap.size + 1, 0, none⟩), .pointer (some ⟨wp.heap.size, 0, none⟩)] W fun e w' => e = .returned (.int .i64 r) ∧ Below wp.heap.size wp w' ∧ W.heap.size ≤ w'.heap.size ∧ (∀ q, wp.heap.size + 2 ≤ q → w'.heap[q]? = W.heap[q]?) ∧ xChInv wp size rest2 w' := by
  obtain ⟨A2, c2, hx, hc, hC, hs⟩ := hi
  have HX := Aside0.mk hx
  have HS := Aside0.mk hs
  have HC := Aside0.mk hC
  have HB := Aside0.mk hb
  have HCC := Aside0.mk hc
  have h1 := hx.cell
  have h2 := hs.cell
  have h3 := hx.frozen
  clear hx hs hC hb hc
  obtain ⟨i0, hi0, _, hsz0, _⟩ := info_parts xinfo3
  cases rest with
  | nil =>
    obtain ⟨rfl, rfl⟩ := Prod.mk.inj (Option.some.inj h)
    clear h
    go_enter Try.func32, Try.ntmps32
    go_wp2
    go_ret
    exact ⟨rfl, HB.out, Nat.le_refl _, fun _ _ => rfl, ⟨A2, c2, HX.out, HCC.out, HC.out, HS.out⟩⟩
  | cons n rest =>
    have h7 : (if size = 0 then none else some (Int.tmod n size, rest)) = some (r, rest2) := h
    clear h
    by_cases h0 : size = 0
    · rw [if_pos h0] at h7; cases h7
    · rw [if_neg h0] at h7
      obtain ⟨rfl, rfl⟩ := Prod.mk.inj (Option.some.inj h7)
      clear h7
      have hlen : (n :: rest).length = rest.length + 1 := rfl
      obtain ⟨ad, he, hy0⟩ := Kd.at_int (Kd.C_below HC.out HB.out) (0 : Int) (by omega) (by omega)
      subst he
      have hrd : rd (n :: rest) (0 : Int) = n := rfl
      rw [hrd, Int.toNat_zero] at hy0
      have hy1 : W.cell? ad = some (.int .i64 n) := hy0
      have hcut := cut_from (P := Try.prog) 22 3 .i64 Try.underlying22 hi0 1 hsz0 (some ad) (rest.length + 1) c2 1 (by omega) (by omega)
      have hD : Kd.C (Kd.int .i64) wp (if c2 = 1 then some ad else (some ad).map (·.add (1 * 1))) rest.length rest := Kd.C_drop (m := 1) HC.out (by omega) HCC.out
      have hcut2 : ∀ V : World, (Instr.slice 22 (.slice (some ad) (rest.length + 1) c2) (some (.int .i64 1)) none none).run Try.prog V = .ok (.slice (if c2 = 1 then some ad else (some ad).map (·.add (1 * 1))) rest.length (c2 - 1)) V := fun V => by
        have z := hcut V
        simp only [Int.toNat_one, Nat.add_sub_cancel] at z
        exact z
      clear hcut
      generalize (if c2 = 1 then some ad else (some ad).map (·.add (1 * 1))) = A3 at *
      have HD := Aside0.mk hD
      have hzb : (((rest.length : Int) + 1) == 0) = false := by simp only [beq_eq_false_iff_ne]; omega
      have hz : ¬ ((rest.length : Int) + 1 = 0) := by omega
      have hp : (0 : Int) < (rest.length : Int) + 1 := by omega
      have h0b : (size == 0) = false := by simp [h0]
      clear hD hrd
      go_enter Try.func32, Try.ntmps32
      go_wp2
      go_ret
      refine ⟨rfl, (by repeat (first | exact HB.out.setCell (p := ⟨wp.heap.size + 1, 0, none⟩) (Nat.le_succ _) _ | apply below_drew1 | apply pw_below_drewN)), ?_, fun q hq => ?_, ⟨A3, c2 - 1, HX.out.set _, (by have := HCC.out; simp only [List.length_cons] at this; omega), HD.out, HS.out.other (by omega) _⟩⟩
      · have z := ((Below.refl 0 W).setCell (p := ⟨wp.heap.size + 1, 0, none⟩) (Nat.zero_le _) (.slice A3 rest.length (c2 - 1))).size
        exact z
      · exact Below.heap_setCell W ⟨wp.heap.size + 1, 0, none⟩ _ q (by show q ≠ wp.heap.size + 1; omega)
set_option maxHeartbeats 8000000 in
set_option maxRecDepth 100000 in
theorem impl_PlayChoices.calls (k : Nat) (A0 : Option Addr) (c0 : Nat) (l0 : List Int) (a1 : Int) (A2 : Option Addr) (c2 : Nat) (l2 : List Int) (r1 : List Int) (r2 : Int) (r3 : Bool) (w : World) (hr0 : Kd.C (Kd.int .i64) w A0 l0.length l0) (hc0 : l0.length ≤ c0) (hr2 : Kd.C (Kd.int .i64) w A2 l2.length l2) (hc2 : l2.length ≤ c2) (h : impl_PlayChoices.f k l0 a1 l2 = some (r1, r2, r3)) :
    Calls Try.prog 10 #[.slice A0 l0.length c0, .int .i64 a1, .slice A2 l2.length c2] w fun e w' => ∃ v0_ : Value, e = .returned (.tuple #[v0_, .int .i64 r2, .bool r3]) ∧ Kd.R (Kd.int .i64) 3 w' w.heap.size (fun _ => True) v0_ r1 ∧ Below w.heap.size w w' := by
  have HR0 := Aside0.mk hr0
  have HC0 := Aside0.mk hc0
  have HR2 := Aside0.mk hr2
  have HC2 := Aside0.mk hc2
  clear hr0 hc0 hr2 hc2
  unfold impl_PlayChoices.f at h
  obtain ⟨b1, hb1, h1⟩ := Option.bind_eq_some_iff.mp h
  clear h
  have H1 := Aside0.mk hb1
  clear hb1
  have HW0 : Aside0 (Below w.heap.size w ((w.alloc (.cells #[.int .i64 a1] 3)).alloc (.cells #[.slice A2 l2.length c2] 22))) := ⟨below_alloc (below_alloc (Below.refl _ w) _) _⟩
  have HX0 : Aside0 (Boxed ((w.alloc (.cells #[.int .i64 a1] 3)).alloc (.cells #[.slice A2 l2.length c2] 22)) w.heap.size 3 (.int .i64 a1)) := ⟨(Boxed.new w 3 (.int .i64 a1)).alloc _⟩
  have HY0 : Aside0 (Boxed ((w.alloc (.cells #[.int .i64 a1] 3)).alloc (.cells #[.slice A2 l2.length c2] 22)) (w.heap.size + 1) 22 (.slice A2 l2.length c2)) := ⟨by have z := Boxed.new (w.alloc (.cells #[.int .i64 a1] 3)) 22 (.slice A2 l2.length c2); rw [World.size_alloc] at z; exact z⟩
  have HZ0 : Aside0 (w.heap.size < (((w.alloc (.cells #[.int .i64 a1] 3)).alloc (.cells #[.slice A2 l2.length c2] 22))).heap.size ∧ w.heap.size + 1 < (((w.alloc (.cells #[.int .i64 a1] 3)).alloc (.cells #[.slice A2 l2.length c2] 22))).heap.size) := ⟨HX0.out.lt, HY0.out.lt⟩
  cases b1 with
  | false =>
    have h9 := h1
    rw [if_neg (by decide)] at h9
    clear h1
    obtain ⟨rfl, h8⟩ := Prod.mk.inj (Option.some.inj h9)
    obtain ⟨rfl, rfl⟩ := Prod.mk.inj h8
    clear h9 h8
    go_enter Try.func10, Try.ntmps10
    go_wp2_with (first
      | (go_at_call 27; (with_reducible refine (impl_GoodRefs.calls A0 c0 l0 _ _ ?s1 ?s2 H1.out).mono ?_); (case s1 => exact Kd.C_below HR0.out HW0.out); (case s2 => exact HC0.out); rintro e w1 ⟨rfl, hb1⟩; have HB1 := Aside0.mk (below_step HW0.out hb1); have hx1 : Boxed w1 w.heap.size 3 (.int .i64 a1) := (hb1.block w.heap.size HZ0.out.1).trans HX0.out; have hy1 : Boxed w1 (w.heap.size + 1) 22 (.slice A2 l2.length c2) := (hb1.block (w.heap.size + 1) HZ0.out.2).trans HY0.out; have HX1 := Aside0.mk hx1; have HY1 := Aside0.mk hy1; have hp1 := hx1.cell; have hq1 := hy1.cell; clear hx1 hy1 hb1))
    go_ret3
    exact ⟨_, rfl, Kd.R_nil _ _ _ _ _, (by repeat (first | exact HB1.out | apply below_drew1 | apply pw_below_drewN | apply below_alloc))⟩
  | true =>
    rw [if_pos rfl] at h1
    obtain ⟨b2, hb2, h2⟩ := Option.bind_eq_some_iff.mp h1
    clear h1
    have H2 := Aside0.mk hb2
    clear hb2
    cases b2 with
    | false =>
      have h9 := h2
      rw [if_neg (by decide)] at h9
      clear h2
      obtain ⟨rfl, h8⟩ := Prod.mk.inj (Option.some.inj h9)
      obtain ⟨rfl, rfl⟩ := Prod.mk.inj h8
      clear h9 h8
      go_enter Try.func10, Try.ntmps10
      go_wp2_with (first
        | (go_at_call 27; (with_reducible refine (impl_GoodRefs.calls A0 c0 l0 _ _ ?s1 ?s2 H1.out).mono ?_); (case s1 => exact Kd.C_below HR0.out HW0.out); (case s2 => exact HC0.out); rintro e w1 ⟨rfl, hb1⟩; have HB1 := Aside0.mk (below_step HW0.out hb1); have hx1 : Boxed w1 w.heap.size 3 (.int .i64 a1) := (hb1.block w.heap.size HZ0.out.1).trans HX0.out; have hy1 : Boxed w1 (w.heap.size + 1) 22 (.slice A2 l2.length c2) := (hb1.block (w.heap.size + 1) HZ0.out.2).trans HY0.out; have HX1 := Aside0.mk hx1; have HY1 := Aside0.mk hy1; have hp1 := hx1.cell; have hq1 := hy1.cell; clear hx1 hy1 hb1)
        | (go_at_call 28; (with_reducible refine (impl_isSize.calls a1 _ _ H2.out).mono ?_); rintro e w' ⟨rfl, ⟨nd, rfl⟩⟩))
      go_ret3
      exact ⟨_, rfl, Kd.R_nil _ _ _ _ _, (by repeat (first | exact HB1.out | apply below_drew1 | apply pw_below_drewN | apply below_alloc))⟩
    | true =>
      rw [if_pos rfl] at h2
      by_cases h200 : (l2.length : Int) > 200
      · have h9 := h2
        rw [if_pos h200] at h9
        have h200b : (200 : Int) < (l2.length : Int) := h200
        clear h2
        obtain ⟨rfl, h8⟩ := Prod.mk.inj (Option.some.inj h9)
        obtain ⟨rfl, rfl⟩ := Prod.mk.inj h8
        clear h9 h8
        go_enter Try.func10, Try.ntmps10
        go_wp2_with (first
          | (go_at_call 27; (with_reducible refine (impl_GoodRefs.calls A0 c0 l0 _ _ ?s1 ?s2 H1.out).mono ?_); (case s1 => exact Kd.C_below HR0.out HW0.out); (case s2 => exact HC0.out); rintro e w1 ⟨rfl, hb1⟩; have HB1 := Aside0.mk (below_step HW0.out hb1); have hx1 : Boxed w1 w.heap.size 3 (.int .i64 a1) := (hb1.block w.heap.size HZ0.out.1).trans HX0.out; have hy1 : Boxed w1 (w.heap.size + 1) 22 (.slice A2 l2.length c2) := (hb1.block (w.heap.size + 1) HZ0.out.2).trans HY0.out; have HX1 := Aside0.mk hx1; have HY1 := Aside0.mk hy1; have hp1 := hx1.cell; have hq1 := hy1.cell; clear hx1 hy1 hb1)
          | (go_at_call 28; (with_reducible refine (impl_isSize.calls a1 _ _ H2.out).mono ?_); rintro e w' ⟨rfl, ⟨nd, rfl⟩⟩))
        go_ret3
        exact ⟨_, rfl, Kd.R_nil _ _ _ _ _, (by repeat (first | exact HB1.out | apply below_drew1 | apply pw_below_drewN | apply below_alloc))⟩
      · rw [if_neg h200] at h2
        have h200b : ¬ (200 : Int) < (l2.length : Int) := h200
        obtain ⟨b3, hb3, h3⟩ := Option.bind_eq_some_iff.mp h2
        clear h2
        have H3 := Aside0.mk hb3
        clear hb3
        cases b3 with
        | false =>
          have h9 := h3
          rw [if_neg (by decide)] at h9
          clear h3
          obtain ⟨rfl, h8⟩ := Prod.mk.inj (Option.some.inj h9)
          obtain ⟨rfl, rfl⟩ := Prod.mk.inj h8
          clear h9 h8
          go_enter Try.func10, Try.ntmps10
          go_wp2_with (first
            | (go_at_call 27; (with_reducible refine (impl_GoodRefs.calls A0 c0 l0 _ _ ?s1 ?s2 H1.out).mono ?_); (case s1 => exact Kd.C_below HR0.out HW0.out); (case s2 => exact HC0.out); rintro e w1 ⟨rfl, hb1⟩; have HB1 := Aside0.mk (below_step HW0.out hb1); have hx1 : Boxed w1 w.heap.size 3 (.int .i64 a1) := (hb1.block w.heap.size HZ0.out.1).trans HX0.out; have hy1 : Boxed w1 (w.heap.size + 1) 22 (.slice A2 l2.length c2) := (hb1.block (w.heap.size + 1) HZ0.out.2).trans HY0.out; have HX1 := Aside0.mk hx1; have HY1 := Aside0.mk hy1; have hp1 := hx1.cell; have hq1 := hy1.cell; clear hx1 hy1 hb1)
            | (go_at_call 28; (with_reducible refine (impl_isSize.calls a1 _ _ H2.out).mono ?_); rintro e w' ⟨rfl, ⟨nd, rfl⟩⟩)
            | (go_at_call 29; (with_reducible refine (xAll_i64_impl_PlayChoices_1.calls A2 c2 l2 _ _ ?s3 ?s4 H3.out).mono ?_); (case s3 => exact Kd.C_below HR2.out (pw_below_drewN HB1.out nd)); (case s4 => exact HC2.out); rintro e w2 ⟨rfl, hb2⟩; have HB2 := Aside0.mk (below_step (pw_below_drewN HB1.out nd) hb2); have hx2 : Boxed w2 w.heap.size 3 (.int .i64 a1) := (hb2.block w.heap.size HX1.out.lt).trans HX1.out; have hy2 : Boxed w2 (w.heap.size + 1) 22 (.slice A2 l2.length c2) := (hb2.block (w.heap.size + 1) HY1.out.lt).trans HY1.out; have HX2 := Aside0.mk hx2; have HY2 := Aside0.mk hy2; have hp2 := hx2.cell; have hq2 := hy2.cell; clear hx2 hy2 hb2))
          go_ret3
          exact ⟨_, rfl, Kd.R_nil _ _ _ _ _, (by repeat (first | exact HB2.out | apply below_drew1 | apply pw_below_drewN | apply below_alloc))⟩
        | true =>
          rw [if_pos rfl] at h3
          obtain ⟨⟨ps, hh⟩, hp, h4⟩ := Option.bind_eq_some_iff.mp h3
          clear h3
          by_cases hl : ps.length < 900000 ∧ l0.length < 900000
          · rw [if_pos hl] at h4
            obtain ⟨rfl, h5⟩ := Prod.mk.inj (Option.some.inj h4)
            obtain ⟨rfl, rfl⟩ := Prod.mk.inj h5
            obtain ⟨hl1, hl2⟩ := hl
            clear h4 h5
            have HP := Aside0.mk hp
            have HL1 := Aside0.mk hl1
            have HL2 := Aside0.mk hl2
            clear hp hl1 hl2
            have HCALL : Aside0 (∀ W : World, Below w.heap.size w W → Boxed W w.heap.size 3 (.int .i64 a1) → Boxed W (w.heap.size + 1) 22 (.slice A2 l2.length c2) → Calls Try.prog 31 #[.slice A0 l0.length c0, .int .i64 a1, .func (.func 32) #[] #[.pointer (some ⟨w.heap.size + 1, 0, none⟩), .pointer (some ⟨w.heap.size, 0, none⟩)]] W fun e w' => ∃ v0_ : Value, e = .returned (.tuple #[v0_, .int .i64 hh]) ∧ Kd.R (Kd.int .i64) 3 w' w.heap.size (fun _ => True) v0_ ps ∧ Below w.heap.size w w') := ⟨fun W hW hx hy => by
              have hz := hy.lt
              refine (xplayBy k (chG a1) 32 #[.pointer (some ⟨w.heap.size + 1, 0, none⟩), .pointer (some ⟨w.heap.size, 0, none⟩)] (enters_of Try.func32 (by kernel_rfl) rfl) (xChInv w a1) w W hW A0 c0 l0 HR0.out HC0.out a1 l2 (fun V V' s hv hq => ?_) ⟨A2, c2, hy, HC2.out, HR2.out, hx⟩ (fun V s next pages A c r s2 hb hz2 hi _ _ hgo => ?_) HL2.out ps hh HP.out HL1.out).mono fun e w' ⟨v, e1, e2, e3⟩ => ⟨v, e1, Kd.R_lower e2 hW.size, e3⟩
              · obtain ⟨A, c, g1, g2, g3, g4⟩ := hv
                exact ⟨A, c, (hq _ hz).trans g1, g2, g3, (hq _ (by omega)).trans g4⟩
              · exact (xCh_lit w a1 next r s s2 pages A c V hb hi hgo).mono fun e w' ⟨e1, e2, e3, e4, e5⟩ => ⟨e1, e2, e3, fun q hq _ => e4 q (by omega), e5⟩⟩
            go_enter Try.func10, Try.ntmps10
            go_wp2_with (first
              | (go_at_call 27; (with_reducible refine (impl_GoodRefs.calls A0 c0 l0 _ _ ?s1 ?s2 H1.out).mono ?_); (case s1 => exact Kd.C_below HR0.out HW0.out); (case s2 => exact HC0.out); rintro e w1 ⟨rfl, hb1⟩; have HB1 := Aside0.mk (below_step HW0.out hb1); have hx1 : Boxed w1 w.heap.size 3 (.int .i64 a1) := (hb1.block w.heap.size HZ0.out.1).trans HX0.out; have hy1 : Boxed w1 (w.heap.size + 1) 22 (.slice A2 l2.length c2) := (hb1.block (w.heap.size + 1) HZ0.out.2).trans HY0.out; have HX1 := Aside0.mk hx1; have HY1 := Aside0.mk hy1; have hp1 := hx1.cell; have hq1 := hy1.cell; clear hx1 hy1 hb1)
              | (go_at_call 28; (with_reducible refine (impl_isSize.calls a1 _ _ H2.out).mono ?_); rintro e w' ⟨rfl, ⟨nd, rfl⟩⟩)
              | (go_at_call 29; (with_reducible refine (xAll_i64_impl_PlayChoices_1.calls A2 c2 l2 _ _ ?s3 ?s4 H3.out).mono ?_); (case s3 => exact Kd.C_below HR2.out (pw_below_drewN HB1.out nd)); (case s4 => exact HC2.out); rintro e w2 ⟨rfl, hb2⟩; have HB2 := Aside0.mk (below_step (pw_below_drewN HB1.out nd) hb2); have hx2 : Boxed w2 w.heap.size 3 (.int .i64 a1) := (hb2.block w.heap.size HX1.out.lt).trans HX1.out; have hy2 : Boxed w2 (w.heap.size + 1) 22 (.slice A2 l2.length c2) := (hb2.block (w.heap.size + 1) HY1.out.lt).trans HY1.out; have HX2 := Aside0.mk hx2; have HY2 := Aside0.mk hy2; have hp2 := hx2.cell; have hq2 := hy2.cell; clear hx2 hy2 hb2)
              | (go_at_call 31; refine (HCALL.out _ HB2.out HX2.out HY2.out).mono ?_; rintro e w3 ⟨v3, rfl, ho3, hb3⟩; have HO3 := Aside0.mk ho3; have HB3 := Aside0.mk hb3; clear ho3 hb3))
            go_ret3
            exact ⟨_, rfl, HO3.out, HB3.out⟩
          · rw [if_neg hl] at h4; cases h4

/-! ### laws_eqIntS: function 11 -/
def laws_eqIntS.l0 : Nat → List Int → List Int → Int → Option (Bool)
  | 0, _, _, _ => none
  | k + 1, x0, x1, x5 => if x5 < (x0.length : Int) then (if 0 ≤ x5 then (if x5 < (x1.length : Int) then (if (rd x0 x5) = (rd x1 x5) then (laws_eqIntS.l0 k x0 x1 (wrap64 (x5 + 1))) else (some false)) else (none)) else (none)) else (some true)
def laws_eqIntS.f (k : Nat) (l0 : List Int) (l1 : List Int) : Option (Bool) := if (l0.length : Int) = (l1.length : Int) then (laws_eqIntS.l0 k l0 l1 0) else (some false)
theorem laws_eqIntS.mono_l : ∀ k, (∀ y0 y1 y2, LeO (laws_eqIntS.l0 k y0 y1 y2) (laws_eqIntS.l0 (k + 1) y0 y1 y2))
  | 0 => fun _ _ _ r h => by simp [laws_eqIntS.l0] at h
  | k + 1 => by
    have ih0 := laws_eqIntS.mono_l k
    · intro y0 y1 y2
      unfold laws_eqIntS.l0
      repeat' first
      | (with_reducible exact ih0 _ _ _)
      | (with_reducible exact LeO.refl _)
      | (with_reducible exact LeO.none _)
      | (with_reducible refine LeO.ite ?_ ?_)
      | (with_reducible refine LeO.bind ?_ (fun _ => ?_))
      | exact ih0 _ _ _
      | exact LeO.none _
      | refine LeO.ite ?_ ?_
      | refine LeO.bind ?_ (fun _ => ?_)
theorem laws_eqIntS.mono : ∀ a0 a1 k, LeO (laws_eqIntS.f k a0 a1) (laws_eqIntS.f (k + 1) a0 a1) := by
  intro a0 a1 k
  have ih0 := laws_eqIntS.mono_l k
  unfold laws_eqIntS.f
  repeat' first
      | (with_reducible exact ih0 _ _ _)
      | (with_reducible exact LeO.refl _)
      | (with_reducible exact LeO.none _)
      | (with_reducible refine LeO.ite ?_ ?_)
      | (with_reducible refine LeO.bind ?_ (fun _ => ?_))
      | exact ih0 _ _ _
      | exact LeO.none _
      | refine LeO.ite ?_ ?_
      | refine LeO.bind ?_ (fun _ => ?_)
set_option maxHeartbeats 8000000 in
set_option maxRecDepth 100000 in
theorem laws_eqIntS.calls (k : Nat) (A0 : Option Addr) (c0 : Nat) (l0 : List Int) (A1 : Option Addr) (c1 : Nat) (l1 : List Int) (r : Bool) (w : World) (hr0 : Kd.C (Kd.int .i64) w A0 l0.length l0) (hc0 : l0.length ≤ c0) (hr1 : Kd.C (Kd.int .i64) w A1 l1.length l1) (hc1 : l1.length ≤ c1) (h : laws_eqIntS.f k l0 l1 = some r) :
    Calls Try.prog 11 #[.slice A0 l0.length c0, .slice A1 l1.length c1] w fun e w' => e = .returned (.bool r) ∧ Drawn0 w w' := by
  have HR0 := Aside0.mk hr0
  have HC0 := Aside0.mk hc0
  clear hr0 hc0
  have HR1 := Aside0.mk hr1
  have HC1 := Aside0.mk hc1
  clear hr1 hc1
  have H : (if (l0.length : Int) = (l1.length : Int) then (laws_eqIntS.l0 k l0 l1 0) else (some false)) = some r := h
  clear h
  by_cases c3 : (l0.length : Int) = (l1.length : Int)
  · rw [if_pos c3] at H
    have c3b0 : ((l0.length : Int) == (l1.length : Int)) = true := beq_iff_eq.mpr c3
    have c3b1 : ((l0.length : Int) != (l1.length : Int)) = false := bne_eq_false_iff_eq.mpr c3
    have c3b2 : (l0.length == l1.length) = true := by first | simpa using c3 | (simp at c3 ⊢; omega)
    clear c3
    have H' := Aside0.mk H
    clear H
    go_enter Try.func11, Try.ntmps11
    go_wp2
    repeat (go_quiet (fail); try go_wp2)
    go_loopg [5] k (fun kq v5 w' => ∃ (x5_1 : Int), v5 = .int .i64 x5_1 ∧ Aside0 (laws_eqIntS.l0 kq l0 l1 x5_1 = some r) ∧ Aside0 (kq ≤ k) ∧ Drawn0 w w')
    case atStart => exact ⟨(0), (by first | rfl | (simp; done) | (simp [*]; done)), H', ⟨Nat.le_refl _⟩, by repeat (first | exact Drawn0.refl _ | apply Drawn0.step)⟩
    case round =>
      clear H'
      try clear c1
      try clear p2
      try clear c3
      try clear c3b0
      try clear c3b1
      try clear c3b2
      obtain ⟨x5_1, rfl, HA, HK1, ⟨m1, rfl⟩⟩ := hrel
      cases gk with
      | zero => exact absurd HA.out (by simp [laws_eqIntS.l0])
      | succ k1 =>
        have H := HA.out
        clear HA
        simp only [laws_eqIntS.l0] at H
        by_cases c4 : x5_1 < (l0.length : Int)
        · rw [if_pos c4] at H
          have c4b0 : decide (x5_1 < (l0.length : Int)) = true := decide_eq_true c4
          clear c4
          by_cases c5 : 0 ≤ x5_1
          · rw [if_pos c5] at H
            have c5b0 : decide (0 ≤ x5_1) = true := decide_eq_true c5
            clear c5
            by_cases c6 : x5_1 < (l1.length : Int)
            · rw [if_pos c6] at H
              have c6b0 : decide (x5_1 < (l1.length : Int)) = true := decide_eq_true c6
              clear c6
              by_cases c7 : (rd l0 x5_1) = (rd l1 x5_1)
              · rw [if_pos c7] at H
                have c7b0 : ((rd l0 x5_1) == (rd l1 x5_1)) = true := beq_iff_eq.mpr c7
                have c7b1 : ((rd l0 x5_1) != (rd l1 x5_1)) = false := bne_eq_false_iff_eq.mpr c7
                clear c7
                have H' := Aside0.mk H
                clear H
                have p167 : 0 ≤ (x5_1 : Int) := of_decide_eq_true (by first | (with_reducible assumption) | assumption)
                have q167 : x5_1 < (l0.length : Int) := of_decide_eq_true (by first | (with_reducible assumption) | assumption)
                obtain ⟨ad167, e167, hx167_0⟩ := Kd.at_int HR0.out x5_1 p167 q167
                cases e167
                replace p167 := eq_true p167
                replace q167 := eq_true q167
                have p168 : 0 ≤ (x5_1 : Int) := of_decide_eq_true (by first | (with_reducible assumption) | assumption)
                have q168 : x5_1 < (l1.length : Int) := of_decide_eq_true (by first | (with_reducible assumption) | assumption)
                obtain ⟨ad168, e168, hx168_0⟩ := Kd.at_int HR1.out x5_1 p168 q168
                cases e168
                replace p168 := eq_true p168
                replace q168 := eq_true q168
                go_wp2
                repeat (go_quiet (fail); try go_wp2)
                go_roundg k1
                case measure => have := HK1.out; omega
                case rel => exact ⟨(wrap64 (x5_1 + 1)), (by first | rfl | (simp; done) | (simp [*]; done)), H', ⟨by have := HK1.out; omega⟩, by repeat (first | exact Drawn0.refl _ | apply Drawn0.step)⟩
              · rw [if_neg c7] at H
                have c7b0 : ((rd l0 x5_1) == (rd l1 x5_1)) = false := beq_eq_false_iff_ne.mpr c7
                have c7b1 : ((rd l0 x5_1) != (rd l1 x5_1)) = true := bne_iff_ne.mpr c7
                obtain rfl := Option.some.inj H
                have p167 : 0 ≤ (x5_1 : Int) := of_decide_eq_true (by first | (with_reducible assumption) | assumption)
                have q167 : x5_1 < (l0.length : Int) := of_decide_eq_true (by first | (with_reducible assumption) | assumption)
                obtain ⟨ad167, e167, hx167_0⟩ := Kd.at_int HR0.out x5_1 p167 q167
                cases e167
                replace p167 := eq_true p167
                replace q167 := eq_true q167
                have p168 : 0 ≤ (x5_1 : Int) := of_decide_eq_true (by first | (with_reducible assumption) | assumption)
                have q168 : x5_1 < (l1.length : Int) := of_decide_eq_true (by first | (with_reducible assumption) | assumption)
                obtain ⟨ad168, e168, hx168_0⟩ := Kd.at_int HR1.out x5_1 p168 q168
                cases e168
                replace p168 := eq_true p168
                replace q168 := eq_true q168
                go_wp2
                repeat (go_quiet (fail); try go_wp2)
                go_ret
                exact ⟨by first | rfl | (simp; done) | (simp [*]; done), by repeat (first | exact Drawn0.refl _ | apply Drawn0.step)⟩
            · rw [if_neg c6] at H
              exact absurd H (by simp)
          · rw [if_neg c5] at H
            exact absurd H (by simp)
        · rw [if_neg c4] at H
          have c4b0 : decide (x5_1 < (l0.length : Int)) = false := decide_eq_false c4
          clear c4
          obtain rfl := Option.some.inj H
          go_wp2
          repeat (go_quiet (fail); try go_wp2)
          go_ret
          exact ⟨by first | rfl | (simp; done) | (simp [*]; done), by repeat (first | exact Drawn0.refl _ | apply Drawn0.step)⟩
  · rw [if_neg c3] at H
    have c3b0 : ((l0.length : Int) == (l1.length : Int)) = false := beq_eq_false_iff_ne.mpr c3
    have c3b1 : ((l0.length : Int) != (l1.length : Int)) = true := bne_iff_ne.mpr c3
    have c3b2 : (l0.length == l1.length) = false := by first | simpa using c3 | (simp at c3 ⊢; omega)
    obtain rfl := Option.some.inj H
    go_enter Try.func11, Try.ntmps11
    go_wp2
    repeat (go_quiet (fail); try go_wp2)
    go_ret
    exact ⟨by first | rfl | (simp; done) | (simp [*]; done), by repeat (first | exact Drawn0.refl _ | apply Drawn0.step)⟩

end Go.Proofs.Ytcmlledlhknbpaa.PFnExactPlayChoices
