-- Written by a program of this project (xprint.py) out of the translation; Lean checks it.
import Derived.Test.YtgpimekdfnpffaaPFnTouchedx0
import Derived.Test.YtgpimekdfnpffaaPFnTouchedx2
namespace Go.Proofs.Ytgpimekdfnpffaa.PFnTouched
open Go.RowKit Go.Proofs.YtgpimekdfnpffaaW.PrintWords Go.Proofs.YtgpimekdfnpffaaW.PrintLast Go.Proofs.YtgpimekdfnpffaaW.PrintMore
attribute [local go_sem] max2_int min2_int max_two min_two max_three min_three max_four min_four   -- for this text's walks alone
set_option linter.unusedVariables false
set_option linter.unusedSimpArgs false

theorem xinfo3 : (Try.prog.info? 3).map (fun i => (i.zero, i.size, i.bytes)) = some (some (.int .i64 0), 1, 8) := by kernel_rfl
/-- a row of whole numbers of the call's own, written over, and perhaps made shorter -/
theorem xOver_i64 {w0 w : World} {base e g cap n m q : Nat} {xs ys : List Int} (hB : Below base w0 w) (ho : Kd.R (Kd.int .i64) e w base (fun _ => True) (.slice (some ⟨g, 0, none⟩) n cap) xs) (hl : ys.length = xs.length) (hm : m ≤ ys.length) :
    Kd.R (Kd.int .i64) e ((w.drewN q).setCells g 0 (ys.map (Value.int .i64))) base (fun _ => True) (.slice (some ⟨g, 0, none⟩) m cap) (ys.take m) ∧ Below base w0 ((w.drewN q).setCells g 0 (ys.map (Value.int .i64))) := by
  obtain ⟨h1, h2⟩ := Kd.own_of_R ho
  rcases h2 with ⟨hn, _⟩ | ⟨g', cap', cur, hv, hb, hg, hnc, hcm, hcs, ht⟩
  · cases hn
  · injection hv with hv1 hv2 hv3
    injection hv1 with hv1
    injection hv1 with hv1
    subst hv1 hv3
    have hg2 : (w.drewN q).heap[g]? = some (.cells cur e (0, 0)) := hg
    obtain ⟨cur', h3, h4, h5⟩ := setCells_row (ys.map (Value.int .i64)) 0 (w.drewN q) cur hg2 (by rw [List.length_map, hcs]; omega)
    refine ⟨Kd.R_of_own (h1 := fun _ => rfl) ⟨by rw [encs_length]; simp, .inr ⟨g, cap, cur', by rw [List.length_take]; congr 1; omega, hb, h3, by rw [List.length_take]; omega, hcm, by rw [h4, hcs], ?_⟩⟩ (fun _ _ => trivial), ?_⟩
    · rw [h5, List.length_take, List.take_zero, List.nil_append, List.take_append_of_le_length (by simp; omega), Nat.mul_one, Nat.min_eq_left hm]
      simp [encs, List.map_take]
    · obtain ⟨a1, a2, a3, a4⟩ := setCells_same g (ys.map (Value.int .i64)) 0 (w.drewN q)
      exact ⟨a1.trans hB.os, a2.trans hB.tape, a3.trans hB.output, by rw [a4]; exact hB.size, fun k hk => (setCells_far _ 0 k (by omega)).trans (hB.block k hk)⟩
theorem xOwn_slice {e : Nat} {w : World} {base : Nat} {ok : Nat → Prop} {v : Value} {xs : List Int} (h : Kd.R (Kd.int .i64) e w base ok v xs) (hx : xs ≠ []) :
    ∃ g cap, v = .slice (some ⟨g, 0, none⟩) xs.length cap ∧ xs.length ≤ cap ∧ cap ≤ maxLen ∧ ∀ j, j < xs.length → w.cell? ⟨g, 0 + j, none⟩ = some (.int .i64 (xs.getD j 0)) ∧ w.frozen? ⟨g, 0 + j, none⟩ = false := by
  obtain ⟨h1, h2⟩ := Kd.own_of_R h
  rcases h2 with ⟨_, hn⟩ | ⟨g, cap, cur, hv, hb, hg, hnc, hcm, hcs, ht⟩
  · exact absurd (List.eq_nil_of_length_eq_zero hn) hx
  · refine ⟨g, cap, hv, hnc, hcm, fun j hj => ?_⟩
    subst hv
    have h3 := Kd.R_cell (0 : Int) h (j : Int) (by omega) (by omega)
    rw [Nat.zero_add]
    exact h3
theorem xadd_block (ad : Addr) (k : Nat) : (ad.add k).block = ad.block := by unfold Addr.add; split <;> rfl
section
attribute [local go_sem] Oper.semAt_some
open Go.Shelf Go.Sort
set_option maxRecDepth 100000 in
set_option maxHeartbeats 4000000 in
/-- slices.Values's closure over a row of whole numbers, in whatever loop -/
theorem xValues1_in (F : Fence) (n : Nat) (h7 : F.fn 80) (hro : F.round = none) (hn : 1 ≤ n) (l Bs n₀ cap : Nat) (ad : Addr) (zs : List Int) (hreach : zs.length * 8 ≤ 140737488351232) (hb : ad.block < n₀) (J Jx : List Int → World → Prop)
    (hY : ∀ pre x W, J pre W → pre.length < zs.length → YieldAt F (n - 1) Try.prog l #[.int .i64 x] W fun e W' =>
      (e = .returned (.bool true) ∧ J (pre ++ [x]) W' ∧ Below n₀ W W') ∨ (e = .returned (.bool false) ∧ Jx (pre ++ [x]) W'))
    (W : World) (hBs : W.cell? ⟨Bs, 0, none⟩ = some (.slice (some ad) zs.length cap)) (hc : ∀ j, j < zs.length → W.cell? (ad.add j) = some (.int .i64 (zs[j]?.getD 0))) (h0 : J [] W) :
    CallsIn F n Try.prog 80 #[.func (.yield l) #[] #[], .pointer (some ⟨Bs, 0, none⟩)] W fun e W' => (∃ v, e = .returned v) ∧
      ((∃ ys, ys = zs ∧ J ys W') ∨ (∃ pre, pre <+: zs ∧ Jx pre W')) := by
  refine callsIn_of_wp Try.func80 rfl h7 ?_ hro
  simp only [Try.ntmps80, List.size_toArray, List.length_cons, List.length_nil, Nat.reduceAdd, Nat.reduceSub, Array.replicate_succ, Array.replicate_zero, List.push_toArray, List.append_toArray, List.nil_append, List.cons_append]
  gi_wp2
  gi_loopw [7] (fun i wr => ∃ k : Nat, k ≤ zs.length ∧ i = .int .i64 k ∧ J (zs.take k) wr ∧ Below n₀ W wr)
    (fun i _ => zs.length - (intOf i).toNat)
  case atStart => exact ⟨0, Nat.zero_le _, rfl, h0, Below.refl _ _⟩
  case round =>
    obtain ⟨k, hk, rfl, hJs, hnx⟩ := hrel
    have hcx : k < zs.length → wr.cell? (ad.add k) = some (.int .i64 (zs[k]?.getD 0)) := fun h => (hnx.cell (p := ad.add k) (by rw [xadd_block]; exact hb)).trans (hc k h)
    by_cases hlt : k < zs.length
    · have htk : zs.take k ++ [zs[k]] = zs.take (k + 1) := (List.take_succ_eq_append_getElem hlt).symm
      obtain ⟨fn, tmps, assign, body, hy, hR⟩ := hY _ zs[k] wr hJs (by rw [List.length_take]; omega)
      have hcx' : wr.cell? (ad.add k) = some (.int .i64 zs[k]) := by rw [hcx hlt]; simp [hlt]
      gi_wp2
      refine hR.mono ?_
      rintro e W3 (⟨rfl, hJ3, hk3⟩ | ⟨rfl, hJx3⟩)
      · gi_wp2
        go_roundw
        case rel => exact ⟨k + 1, by omega, by simp, by rw [← htk]; exact hJ3, hnx.trans hk3⟩
        case measure => simp [intOf]; omega
      · gi_wp2
        refine bodyPost_ret (results_none rfl _ _ _) rfl ?_
        exact ⟨⟨_, rfl⟩, .inr ⟨_, List.take_prefix (k + 1) zs, by rw [← htk]; exact hJx3⟩⟩
    · obtain rfl : k = zs.length := by omega
      gi_wp2
      go_end0
      exact ⟨⟨_, rfl⟩, .inl ⟨_, rfl, by rw [List.take_length] at hJs; exact hJs⟩⟩
set_option maxRecDepth 100000 in
set_option maxHeartbeats 2000000 in
theorem xValues1_nil_in (F : Fence) (n : Nat) (h7 : F.fn 80) (hro : F.round = none) (l Bs cap : Nat) (a : Option Addr) (J : List Int → World → Prop) (W : World) (hBs : W.cell? ⟨Bs, 0, none⟩ = some (.slice a 0 cap)) (h0 : J [] W) :
    CallsIn F n Try.prog 80 #[.func (.yield l) #[] #[], .pointer (some ⟨Bs, 0, none⟩)] W fun e W' => (∃ v, e = .returned v) ∧ J [] W' := by
  refine callsIn_of_wp Try.func80 rfl h7 ?_ hro
  simp only [Try.ntmps80, List.size_toArray, List.length_cons, List.length_nil, Nat.reduceAdd, Nat.reduceSub, Array.replicate_succ, Array.replicate_zero, List.push_toArray, List.append_toArray, List.nil_append, List.cons_append]
  gi_wp2
  gi_loopw [7] (fun i wr => i = .int .i64 0 ∧ J [] wr) (fun _ _ => 0)
  case atStart => exact ⟨rfl, h0⟩
  case round =>
    obtain ⟨rfl, hJs⟩ := hrel
    gi_wp2
    go_end0
    exact ⟨⟨_, rfl⟩, hJs⟩
set_option maxHeartbeats 1000000 in
theorem xValues_in (F : Fence) (n : Nat) (h5 : F.fn 72) (hro : F.round = none) (a : Option Addr) (len cap : Nat) (w : World) :
    CallsIn F n Try.prog 72 #[.slice a len cap] w fun e w' => e = .returned (.func (.func 80) #[] #[.pointer (some ⟨w.heap.size, 0, none⟩)]) ∧ w' = w.alloc (.cells #[.slice a len cap] 23) := by
  refine callsIn_of_wp Try.func72 rfl h5 ?_ hro
  simp only [Try.ntmps72, List.size_toArray, List.length_cons, List.length_nil, Nat.reduceAdd, Nat.reduceSub, Array.replicate_succ, Array.replicate_zero, List.push_toArray, List.append_toArray, List.nil_append, List.cons_append]
  gi_wp2
  go_ret
  exact ⟨rfl, rfl⟩
theorem xValues_stops (F : Fence) (n : Nat) (h7 : F.fn 80) (hro : F.round = none) (hn : 1 ≤ n) (Bs n₀ cap : Nat) (a : Option Addr) (zs : List Int) (hreach : zs.length * 8 ≤ 140737488351232) (w : World) (hBs : Bs < w.heap.size) (hn₀ : n₀ ≤ w.heap.size)
    (hc : w.cell? ⟨Bs, 0, none⟩ = some (.slice a zs.length cap)) (hI : ∀ j, j < zs.length → ∃ ad, a = some ad ∧ ad.block < n₀ ∧ w.cell? (ad.add j) = some (.int .i64 (zs[j]?.getD 0))) :
    SeqStopsK F n Try.prog 80 #[.pointer (some ⟨Bs, 0, none⟩)] (fun x : Int => #[Value.int .i64 x]) (Below n₀) (fun ys => ys = zs) (fun pre => pre <+: zs) zs.length w := fun l J Jx W hW _ _ hY h0 => by
  have hc' := (hW.cell (p := ⟨Bs, 0, none⟩) hBs).trans hc
  by_cases h : zs = []
  · subst h
    exact (xValues1_nil_in F n h7 hro l Bs cap a J W hc' h0).mono fun e W' ⟨he, hj⟩ => ⟨he, .inl ⟨_, rfl, hj⟩⟩
  · obtain ⟨ad, rfl, hb, _⟩ := hI 0 (List.length_pos_iff.mpr h)
    refine xValues1_in F n h7 hro hn l Bs n₀ cap ad zs hreach hb J Jx hY W hc' (fun j hj => ?_) h0
    obtain ⟨ad', e, _, h2⟩ := hI j hj
    cases e
    exact ((hW.mono hn₀).cell (p := ad.add j) (by rw [xadd_block]; exact hb)).trans h2
set_option maxRecDepth 100000 in
set_option maxHeartbeats 4000000 in
/-- slices.AppendSeq(nil, seq) -/
theorem xAppendSeq_in (F : Fence) (n : Nat) (h86 : F.fn 86) (hro : F.round = none) (hn : 3 ≤ n) (gf : Nat) (lb : Array Value) (hF : F.fn gf) (eg : ∀ args w, (callFunc gf args).run Try.prog w = .ok (.enter gf args) w) (zs : List Int) (hlen : zs.length ≤ maxLen) (hbytes : zs.length * 8 ≤ 140737488355328) (w : World)
    (hseq : SeqStopsK F (n - 1) Try.prog gf lb (fun x : Int => #[Value.int .i64 x]) (Below w.heap.size) (fun ys => ys = zs) (fun pre => pre <+: zs) zs.length (w.alloc (.cells #[.slice none 0 0] 23))) :
    CallsIn F n Try.prog 86 #[.slice none 0 0, .func (.func gf) #[] lb] w fun e W' => ∃ v, e = .returned v ∧ W'.ownsRow w.heap.size 3 1 v zs.length (zs.map (Value.int .i64)) ∧ (v = .slice none 0 0 ↔ zs = []) ∧ Below w.heap.size w W' := by
  have h1 : 1 ≤ n := by omega
  obtain ⟨i0, hi, hz0, hz1, hz2⟩ := info_parts xinfo3
  refine callsIn_of_wp_marks Try.func86 rfl h86 ?_ hro
  simp only [Try.ntmps86, List.size_toArray, List.length_cons, List.length_nil, Nat.reduceAdd, Nat.reduceSub, Array.replicate_succ, Array.replicate_zero, List.push_toArray, List.append_toArray, List.nil_append, List.cons_append]
  gi_wp2
  have bO := Boxed.new w 23 (.slice none 0 0)
  have hB0 : Below w.heap.size w (w.alloc (.cells #[.slice none 0 0] 23)) := (Below.refl _ w).alloc (Nat.le_refl _) _
  refine wpIn_rangeFunc_ownG hro h1 (gf := gf) (lb := lb) rfl hF eg hseq belowK_t (belowK_b (by simp)) (Below.refl _ _) (fun _ => rfl)
    (fun pre W => (∃ v, Boxed W w.heap.size 23 v ∧ W.ownsRow w.heap.size 3 1 v pre.length (pre.map (Value.int .i64)) ∧ (v = .slice none 0 0 ↔ pre = [])) ∧ Below w.heap.size w W)
    (fun _ _ _ => False)
    (OwnFrom.and (Own.from (holdsRow_own w.heap.size w.heap.size 23 3 1 (fun pre : List Int => pre.length) (fun pre => pre.map (Value.int .i64)) (fun pre v => v = .slice none 0 0 ↔ pre = [])) _) (ownFrom_below (Nat.le_refl _) (by simp)))
    (fun _ _ _ _ _ hs _ _ => hs)
    ⟨⟨_, bO, World.ownsRow_nil _ _ _ _, by simp⟩, hB0⟩
    (fun x => { tmps := #[.slice none 0 0, .func (.func gf) #[] lb, .pointer (some ⟨w.heap.size, 0, none⟩), undef, .slice none 0 0, .int .i64 x, .func (.func gf) #[] lb, .int .i64 x, undef, undef, undef, undef, undef], defers := [] }) ?assign ?body ?done ?stop
  case assign =>
    intro l x W K hK
    gi_wp2
    exact hK
  case body =>
    rintro l pre x W ⟨⟨v, hv, hrow, hnil⟩, hB⟩ hlt
    have hc := hv.cell
    gi_wp2_with (gi_at_builtin; refine wpListIn_append_own _ rfl _ _ 23 rfl w.heap.size 3 i0 (.int .i64 0) 1 8 Try.underlying23 hi hz0 hz1 hz2 rfl (by decide) _ _ _ rfl (hrow.alloc _) ⟨W.heap.size, 0, none⟩ 1 1 [.int .i64 x] rfl rfl (cell_one_new _ _ _) (by simp [Value.oneCell']) (by omega) (by omega) (by have := hB.size; simp; omega) ?_; intro v' w1 hown' hgrow _; obtain ⟨g', cap', rfl⟩ := ownsRow_succ hown'; obtain ⟨hv1, hv2, hr2, hk2, hb2⟩ := hv.appended (by decide) hrow hB.size (Nat.le_refl _) hown' hgrow; have hc1 := hv1.cell; have hf1 := hv1.frozen)
    exact ⟨hk2.from _, hb2, ⟨_, hv2, by simpa using hr2, by simp⟩, hB.trans hb2⟩
  case done =>
    rintro D ys W hD rfl ⟨⟨v, hv, hrow, hnil⟩, hB⟩ hK
    have hc := hv.cell
    gi_wp2
    refine ⟨by simp, .inl ⟨_, _, rfl, run_takeDeferred hK, ?_⟩⟩
    exact ⟨_, results_tmp rfl _ _ _, v, rfl, ownsRow_putObj hrow _ hK rfl, hnil, hB.trans (belowK_b (w := w) (Nat.le_refl _) W D _ _ (by simp at hD; omega) hK rfl rfl)⟩
  case stop =>
    rintro D c pre W _ _ h _
    exact h.elim
end
/-! ### impl_unlike: function 49 -/
/-- unlike: how many numbers are left of the sorted row once runs are made one -/
def impl_unlike.f (l0 : List Int) : Option (Int) := if l0.length < 1000000000000 then some ((Lib.compact (l0.mergeSort fun x y => decide (x ≤ y))).length : Int) else none
section
attribute [local go_sem] Oper.semAt_some
open Go.Shelf Go.Sort
set_option maxRecDepth 100000 in
set_option maxHeartbeats 2000000 in
theorem xCollect_in (F : Fence) (n : Nat) (h60 : F.fn 78) (h86 : F.fn 86) (hro : F.round = none) (hn : 4 ≤ n) (gf : Nat) (lb : Array Value) (hF : F.fn gf) (eg : ∀ args w, (callFunc gf args).run Try.prog w = .ok (.enter gf args) w) (zs : List Int) (hlen : zs.length ≤ maxLen) (hbytes : zs.length * 8 ≤ 140737488355328) (w : World)
    (hseq : SeqStopsK F (n - 1 - 1) Try.prog gf lb (fun x : Int => #[Value.int .i64 x]) (Below w.heap.size) (fun ys => ys = zs) (fun pre => pre <+: zs) zs.length (w.alloc (.cells #[.slice none 0 0] 23))) :
    CallsIn F n Try.prog 78 #[.func (.func gf) #[] lb] w fun e W' => ∃ v, e = .returned v ∧ W'.ownsRow w.heap.size 3 1 v zs.length (zs.map (Value.int .i64)) ∧ (v = .slice none 0 0 ↔ zs = []) ∧ Below w.heap.size w W' := by
  have h1 : 1 ≤ n := by omega
  refine callsIn_of_wp Try.func78 rfl h60 ?_ hro
  simp only [Try.ntmps78, List.size_toArray, List.length_cons, List.length_nil, Nat.reduceAdd, Nat.reduceSub, Array.replicate_succ, Array.replicate_zero, List.push_toArray, List.append_toArray, List.nil_append, List.cons_append]
  gi_wp2_with (gi_at_call 86; refine (xAppendSeq_in F (n - 1) h86 hro (by omega) gf lb hF eg zs hlen hbytes _ hseq).mono ?_; rintro e W ⟨v, rfl, ho, hn2, hb⟩)
  go_ret
  exact ⟨v, rfl, ho, hn2, hb⟩
end
section
open Go.Shelf Go.Sort
set_option maxRecDepth 100000 in
set_option maxHeartbeats 2000000 in
theorem xSorted (gf : Nat) (lb : Array Value) (eg : ∀ args w, (callFunc gf args).run Try.prog w = .ok (.enter gf args) w) (zs : List Int) (hlen : zs.length < 4611686018427387904) (hbytes : zs.length * 8 ≤ 140737488355328) (w : World)
    (hseq : ∀ n, 1 ≤ n → SeqStopsK Fence.wide n Try.prog gf lb (fun x : Int => #[Value.int .i64 x]) (Below w.heap.size) (fun ys => ys = zs) (fun pre => pre <+: zs) zs.length (w.alloc (.cells #[.slice none 0 0] 23))) :
    Calls Try.prog 71 #[.func (.func gf) #[] lb] w fun e W' => ∃ v, e = .returned v ∧ W'.ownsRow w.heap.size 3 1 v zs.length ((zs.mergeSort fun x y => decide (x ≤ y)).map (Value.int .i64)) ∧ (v = .slice none 0 0 ↔ zs = []) ∧ Below w.heap.size w W' := by
  have cC : Calls Try.prog 78 #[.func (.func gf) #[] lb] w fun e W' => ∃ v, e = .returned v ∧ W'.ownsRow w.heap.size 3 1 v zs.length (zs.map (Value.int .i64)) ∧ (v = .slice none 0 0 ↔ zs = []) ∧ Below w.heap.size w W' :=
    callsIn_wide.1 (xCollect_in Fence.wide 6 trivial trivial rfl (by omega) gf lb trivial eg zs (by have : maxLen = 9223372036854775807 := rfl; omega) hbytes w (hseq _ (by omega)))
  by_cases hz : zs = []
  · have HZ := Aside0.mk hz
    clear hz
    go_enter Try.func71, Try.ntmps71
    go_wp2_with (first
      | (go_at_call 78; (refine cC.mono ?_; rintro e w1 ⟨v, rfl, ho, hn, hb⟩; obtain rfl := hn.2 HZ.out; have HO1 := Aside0.mk ho; have HB1 := Aside0.mk hb; clear ho hb hn))
      | (go_at_call 79; refine (Try.slices_Sort_int_none none 0 _).mono ?_; rintro e w2 ⟨rfl, rfl⟩))
    go_ret
    obtain rfl := HZ.out
    exact ⟨_, rfl, by simpa using HO1.out, by simp, HB1.out⟩
  · have HZ := Aside0.mk hz
    clear hz
    go_enter Try.func71, Try.ntmps71
    go_wp2_with (first
      | (go_at_call 78; (refine cC.mono ?_; rintro e w1 ⟨v, rfl, ho, hn, hb⟩; obtain ⟨gb, cap, cur, rfl, hbase, hgb, r1, r2, r3, r4⟩ := ho.2.resolve_left (fun hh => HZ.out (hn.1 hh.1)); have cS := Try.slices_Sort_int gb 0 cap zs w1 (holds_of_block_i hgb (by simpa using r4)) (Array.getElem?_eq_some_iff.1 hgb).1 hlen; have HO1 := Aside0.mk ho; have HB1 := Aside0.mk hb; have HG := Aside0.mk hgb; have HBS := Aside0.mk hbase; have HR1 := Aside0.mk r1; have HR2 := Aside0.mk r2; have HR3 := Aside0.mk r3; clear ho hb hn hgb r4 r1 r2 r3 hbase))
      | (go_at_call 79; refine cS.mono ?_; rintro e w2 ⟨rfl, nn, os, rfl⟩))
    go_ret
    exact ⟨_, rfl, ownsRow_sorted_i (by simp) HBS.out HG.out HR1.out HR2.out HR3.out, ⟨fun h => by simp at h, fun h => absurd h HZ.out⟩, HB1.out.grown (grownBy_sorted_i _) HB1.out.size (fun j hj => by cases hj; exact HBS.out)⟩
theorem xcell_lt {w : World} {p : Addr} {v : Value} (h : w.cell? p = some v) : p.block < w.heap.size := by
  by_cases hlt : p.block < w.heap.size
  · exact hlt
  · unfold World.cell? at h
    rw [Array.getElem?_eq_none (by omega)] at h
    cases h
set_option maxRecDepth 100000 in
set_option maxHeartbeats 4000000 in
theorem impl_unlike.calls (A0 : Option Addr) (c0 : Nat) (l0 : List Int) (r : Int) (w : World) (hr0 : Kd.C (Kd.int .i64) w A0 l0.length l0) (hc0 : l0.length ≤ c0) (h : impl_unlike.f l0 = some r) :
    Calls Try.prog 49 #[.slice A0 l0.length c0] w fun e w' => e = .returned (.int .i64 r) ∧ Below w.heap.size w w' := by
  unfold impl_unlike.f at h
  by_cases hb : l0.length < 1000000000000
  · rw [if_pos hb] at h
    have HV := Aside0.mk (Option.some.inj h)
    have HL := Aside0.mk hb
    have cV := callsIn_wide.1 (xValues_in Fence.wide 3 trivial rfl A0 l0.length c0 w)
    have cS := xSorted 80 #[.pointer (some ⟨w.heap.size, 0, none⟩)] (enters_of Try.func80 (by kernel_rfl) rfl) l0 (by omega) (by omega) (w.alloc (.cells #[.slice A0 l0.length c0] 23)) (fun n hn =>
      xValues_stops Fence.wide n trivial rfl hn w.heap.size (w.alloc (.cells #[.slice A0 l0.length c0] 23)).heap.size c0 A0 l0 (by omega) _ (by simp; omega) (by simp)
        ((Boxed.new w 23 (.slice A0 l0.length c0)).alloc _).cell (fun j hj => by
          obtain ⟨ad, e, hx⟩ := Kd.at_int hr0 (j : Int) (by omega) (by omega)
          have hx2 : w.cell? (ad.add j) = some (.int .i64 (l0[j]?.getD 0)) := by rw [← List.getD_eq_getElem?_getD]; exact hx
          have hlt := xcell_lt hx2
          rw [xadd_block] at hlt
          exact ⟨ad, e, by simp; omega, (((Below.refl _ w).alloc (Nat.le_refl _) _).alloc (by simp) _ |>.cell (p := ad.add j) (by rw [xadd_block]; exact hlt)).trans hx2⟩))
    clear hr0 hc0 h hb
    by_cases hz : l0 = []
    · have HZ := Aside0.mk hz
      clear hz
      go_enter Try.func49, Try.ntmps49
      go_wp2_with (first
        | (go_at_call 72; (refine cV.mono ?_; rintro e w1 ⟨rfl, rfl⟩))
        | (go_at_call 71; refine cS.mono ?_; rintro e w1 ⟨v, rfl, ho, hn, hb⟩; obtain rfl := hn.2 HZ.out; have HB1 := Aside0.mk hb; clear ho hb hn)
        | (go_at_call 70; refine (Try.slices_Compact_int_empty none 0 _).mono ?_; rintro e w2 ⟨rfl, rfl⟩))
      go_ret
      obtain rfl := HZ.out
      exact ⟨by rw [← HV.out]; simp [Lib.compact, Lib.compactUpTo], ((Below.refl _ w).alloc (Nat.le_refl _) _).trans (HB1.out.mono (by simp))⟩
    · have HZ := Aside0.mk hz
      clear hz
      go_enter Try.func49, Try.ntmps49
      go_wp2_with (first
        | (go_at_call 72; refine cV.mono ?_; rintro e w1 ⟨rfl, rfl⟩)
        | (go_at_call 71; (refine cS.mono ?_; rintro e w1 ⟨v, rfl, ho, hn, hb⟩; have hR : Kd.R (Kd.int .i64) 3 w1 (w.heap.size + 1) (fun _ => True) v (l0.mergeSort fun x y => decide (x ≤ y)) := Kd.R_of_own (h1 := fun _ => rfl) (by have h5 := ho; rw [World.size_alloc] at h5; rw [List.length_mergeSort]; exact h5) (fun _ _ => trivial); obtain ⟨g, cap, rfl, hc1, hc2, hcell⟩ := xOwn_slice hR (by intro h2; apply HZ.out; have := congrArg List.length h2; simpa using this); have hcp := Try.slices_Compact_int_cells g 0 l0.length cap (l0.mergeSort fun x y => decide (x ≤ y)) w1 (by simp) (by have := HL.out; omega) (by simpa using hc1) (fun j hj => (hcell j hj).1) (fun j hj => (hcell j (by simpa using hj)).2); have HB1 := Aside0.mk hb; have HO1 := Aside0.mk hR; clear ho hb hn hcell hR))
        | (go_at_call 70; refine hcp.mono ?_; rintro e w2 ⟨rfl, q, rfl⟩))
      go_ret
      have hfull : List.take l0.length (l0.mergeSort fun x y => decide (x ≤ y)) = l0.mergeSort fun x y => decide (x ≤ y) := List.take_of_length_le (by simp)
      rw [hfull]
      have hle := Lib.compact_length_le (l0.mergeSort fun x y => decide (x ≤ y))
      rw [List.length_mergeSort] at hle
      have hB2 := HB1.out
      rw [World.size_alloc] at hB2
      have hk := xOver_i64 (xs := l0.mergeSort fun x y => decide (x ≤ y)) (q := q) (m := 0) (ys := Lib.compact (l0.mergeSort fun x y => decide (x ≤ y)) ++ List.replicate (l0.length - (Lib.compact (l0.mergeSort fun x y => decide (x ≤ y))).length) 0) hB2 HO1.out (by rw [List.length_append, List.length_replicate, List.length_mergeSort]; omega) (by omega)
      have hk2 := hk.2.mono (show w.heap.size ≤ w.heap.size + 1 from Nat.le_succ _)
      rw [List.map_append, List.map_replicate] at hk2
      exact ⟨by rw [← HV.out]; rfl, ((Below.refl _ w).alloc (Nat.le_refl _) _).trans hk2⟩
  · rw [if_neg hb] at h; cases h
end

/-! ### slices_Index_int_int: function 66 -/
def slices_Index_int_int.l0 : Nat → List Int → Int → Int → Int → Option (Int)
  | 0, _, _, _, _ => none
  | k + 1, x0, x1, x7, x8 => if x8 < x7 then (if 0 ≤ x8 then (if x8 < (x0.length : Int) then (if x1 = (rd x0 x8) then (some x8) else (slices_Index_int_int.l0 k x0 x1 x7 (wrap64 (x8 + 1)))) else (none)) else (none)) else (some (-1))
def slices_Index_int_int.f (k : Nat) (l0 : List Int) (a1 : Int) : Option (Int) := slices_Index_int_int.l0 k l0 a1 (l0.length : Int) 0
theorem slices_Index_int_int.mono_l : ∀ k, (∀ y0 y1 y2 y3, LeO (slices_Index_int_int.l0 k y0 y1 y2 y3) (slices_Index_int_int.l0 (k + 1) y0 y1 y2 y3))
  | 0 => fun _ _ _ _ r h => by simp [slices_Index_int_int.l0] at h
  | k + 1 => by
    have ih0 := slices_Index_int_int.mono_l k
    · intro y0 y1 y2 y3
      unfold slices_Index_int_int.l0
      repeat' first
      | (with_reducible exact ih0 _ _ _ _)
      | (with_reducible exact LeO.refl _)
      | (with_reducible exact LeO.none _)
      | (with_reducible refine LeO.ite ?_ ?_)
      | (with_reducible refine LeO.bind ?_ (fun _ => ?_))
      | exact ih0 _ _ _ _
      | exact LeO.none _
      | refine LeO.ite ?_ ?_
      | refine LeO.bind ?_ (fun _ => ?_)
theorem slices_Index_int_int.mono : ∀ a0 a1 k, LeO (slices_Index_int_int.f k a0 a1) (slices_Index_int_int.f (k + 1) a0 a1) := by
  intro a0 a1 k
  have ih0 := slices_Index_int_int.mono_l k
  unfold slices_Index_int_int.f
  repeat' first
      | (with_reducible exact ih0 _ _ _ _)
      | (with_reducible exact LeO.refl _)
      | (with_reducible exact LeO.none _)
      | (with_reducible refine LeO.ite ?_ ?_)
      | (with_reducible refine LeO.bind ?_ (fun _ => ?_))
      | exact ih0 _ _ _ _
      | exact LeO.none _
      | refine LeO.ite ?_ ?_
      | refine LeO.bind ?_ (fun _ => ?_)
set_option maxHeartbeats 8000000 in
set_option maxRecDepth 100000 in
theorem slices_Index_int_int.calls (k : Nat) (A0 : Option Addr) (c0 : Nat) (l0 : List Int) (a1 : Int) (r : Int) (w : World) (hr0 : Kd.C (Kd.int .i64) w A0 l0.length l0) (hc0 : l0.length ≤ c0) (h : slices_Index_int_int.f k l0 a1 = some r) :
    Calls Try.prog 66 #[.slice A0 l0.length c0, .int .i64 a1] w fun e w' => e = .returned (.int .i64 r) ∧ Drawn0 w w' := by
  have HR0 := Aside0.mk hr0
  have HC0 := Aside0.mk hc0
  clear hr0 hc0
  have H : (slices_Index_int_int.l0 k l0 a1 (l0.length : Int) 0) = some r := h
  clear h
  have H' := Aside0.mk H
  clear H
  go_enter Try.func66, Try.ntmps66
  go_wp2
  go_loopg [8] k (fun kq v8 w' => ∃ (x8_1 : Int), v8 = .int .i64 x8_1 ∧ Aside0 (slices_Index_int_int.l0 kq l0 a1 (l0.length : Int) x8_1 = some r) ∧ Aside0 (kq ≤ k) ∧ Drawn0 w w')
  case atStart => exact ⟨(0), (by first | rfl | (simp; done) | (simp [*]; done)), H', ⟨Nat.le_refl _⟩, by repeat (first | exact Drawn0.refl _ | apply Drawn0.step)⟩
  case round =>
    clear H'
    try clear p2
    obtain ⟨x8_1, rfl, HA, HK1, ⟨m1, rfl⟩⟩ := hrel
    cases gk with
    | zero => exact absurd HA.out (by simp [slices_Index_int_int.l0])
    | succ k1 =>
      have H := HA.out
      clear HA
      simp only [slices_Index_int_int.l0] at H
      by_cases c3 : x8_1 < (l0.length : Int)
      · rw [if_pos c3] at H
        have c3b0 : decide (x8_1 < (l0.length : Int)) = true := decide_eq_true c3
        clear c3
        by_cases c4 : 0 ≤ x8_1
        · rw [if_pos c4] at H
          have c4b0 : decide (0 ≤ x8_1) = true := decide_eq_true c4
          clear c4
          by_cases c5 : x8_1 < (l0.length : Int)
          · rw [if_pos c5] at H
            have c5b0 : decide (x8_1 < (l0.length : Int)) = true := decide_eq_true c5
            clear c5
            by_cases c6 : a1 = (rd l0 x8_1)
            · rw [if_pos c6] at H
              have c6b0 : (a1 == (rd l0 x8_1)) = true := beq_iff_eq.mpr c6
              have c6b1 : (a1 != (rd l0 x8_1)) = false := bne_eq_false_iff_eq.mpr c6
              clear c6
              obtain rfl := Option.some.inj H
              have p208 : 0 ≤ (x8_1 : Int) := of_decide_eq_true (by first | (with_reducible assumption) | assumption)
              have q208 : x8_1 < (l0.length : Int) := of_decide_eq_true (by first | (with_reducible assumption) | assumption)
              obtain ⟨ad208, e208, hx208_0⟩ := Kd.at_int HR0.out x8_1 p208 q208
              cases e208
              replace p208 := eq_true p208
              replace q208 := eq_true q208
              go_wp2
              go_ret
              exact ⟨by first | rfl | (simp; done) | (simp [*]; done), by repeat (first | exact Drawn0.refl _ | apply Drawn0.step)⟩
            · rw [if_neg c6] at H
              have c6b0 : (a1 == (rd l0 x8_1)) = false := beq_eq_false_iff_ne.mpr c6
              have c6b1 : (a1 != (rd l0 x8_1)) = true := bne_iff_ne.mpr c6
              have H' := Aside0.mk H
              clear H
              have p208 : 0 ≤ (x8_1 : Int) := of_decide_eq_true (by first | (with_reducible assumption) | assumption)
              have q208 : x8_1 < (l0.length : Int) := of_decide_eq_true (by first | (with_reducible assumption) | assumption)
              obtain ⟨ad208, e208, hx208_0⟩ := Kd.at_int HR0.out x8_1 p208 q208
              cases e208
              replace p208 := eq_true p208
              replace q208 := eq_true q208
              go_wp2
              go_roundg k1
              case measure => have := HK1.out; omega
              case rel => exact ⟨(wrap64 (x8_1 + 1)), (by first | rfl | (simp; done) | (simp [*]; done)), H', ⟨by have := HK1.out; omega⟩, by repeat (first | exact Drawn0.refl _ | apply Drawn0.step)⟩
          · rw [if_neg c5] at H
            exact absurd H (by simp)
        · rw [if_neg c4] at H
          exact absurd H (by simp)
      · rw [if_neg c3] at H
        have c3b0 : decide (x8_1 < (l0.length : Int)) = false := decide_eq_false c3
        clear c3
        obtain rfl := Option.some.inj H
        go_wp2
        go_ret
        exact ⟨by first | rfl | (simp; done) | (simp [*]; done), by repeat (first | exact Drawn0.refl _ | apply Drawn0.step)⟩

set_option maxHeartbeats 4000000 in
theorem xClone_i64.calls (A0 : Option Addr) (c0 : Nat) (l0 : List Int) (w : World) (hr0 : Kd.C (Kd.int .i64) w A0 l0.length l0) (hc0 : l0.length ≤ c0) (hbig : l0.length < 17592186044416) :
    Calls Try.prog 65 #[.slice A0 l0.length c0] w fun e w' => ∃ v0_ : Value, e = .returned (v0_) ∧ Kd.R (Kd.int .i64) 3 w' w.heap.size (fun _ => True) v0_ l0 ∧ Below w.heap.size w w' := by
  have HR0 := Aside0.mk hr0
  have HC0 := Aside0.mk hc0
  have HG := Aside0.mk hbig
  have HB := Aside0.mk (Below.refl w.heap.size w)
  clear hc0 hbig
  have q22 : ∀ (w : World) (a : Option Addr) (n c n' c' : Nat), (binOp .eql 23 (.slice a n c) (.slice none n' c')).run Try.prog w = .ok (.bool a.isNone) w := fun w a n c n' c' => Lib.run_eql_slice_nil w _ _ a n c n' c' Try.underlying23
  cases A0 with
  | none =>
    have hl : l0 = [] := by
      cases l0 with
      | nil => rfl
      | cons x xs => obtain ⟨ad, c, he, _⟩ := Kd.C_get hr0 (0 : Int) 0 (by omega) (by simp); cases he
    clear hr0
    subst hl
    go_enter Try.func65, Try.ntmps65
    go_wp2
    go_ret
    exact ⟨_, rfl, Kd.R_nil _ _ _ _ _, HB.out⟩
  | some ad =>
    clear hr0
    go_enter Try.func65, Try.ntmps65
    go_wp2_with (first
      | ((with_reducible refine gate_dst (N := 5) rfl ?_); refine Kd.R_lit (Kd.int .i64) w.heap.size 3 ?hg (N := 5) ?hd (xs := ([] : List Int)) (inner := []) (ok := fun _ => True) (okp := fun _ => True) ?hr ?hp (fun _ hk => hk) trivial (Below.refl _ _) (Nat.le_refl _) (by simp) ?_; (case hd => rfl); (case hg => rfl); (case hr => first | (go_simp; done) | (go_simp; rfl)); (case hp => exact (Reps.none _ _)); intro v1 w1 ho1 hb1 hg_ hnew_; clear hg_ hnew_; have HO1 := Aside0.mk ho1; have HB1 := Aside0.mk hb1; clear ho1 hb1)
      | ((with_reducible refine gate_builtin (b := .append) (xs := #[.tmp 5, .tmp 6]) rfl ?_); at_builtin; refine Kd.R_append_rows (Kd.int .i64) (w0 := w) w.heap.size rfl (.tmp 5) (.tmp 6) 23 3 (.int .i64 0) 8 rfl Try.underlying23 xinfo3 rfl (by decide) (by omega) v1 [] l0 _ _ _ (fun _ => True) (fun _ => False) rfl rfl ?aO ?aR (fun _ _ h => h) (fun _ h => h.elim) ?aF ?aB ?aS ?aL ?_; (case aR => exact Kd.C_below HR0.out HB1.out); (case aB => exact HB1.out); (case aF => exact fun _ _ => trivial); (case aO => exact HO1.out); (case aS => exact HB1.out.size); (case aL => have := HG.out; simp; omega); intro v2 w2 ho hb hg hat; have HO2 := Aside0.mk ho; have HB2 := Aside0.mk hb; clear ho hb hg hat))
    go_ret
    exact ⟨_, rfl, HO2.out, HB2.out⟩
set_option maxHeartbeats 4000000 in
/-- slices.Delete of one element of a row of the call's own -/
theorem xDelete1_i64 (w0 w : World) (base : Nat) (v : Value) (l : List Int) (i : Nat) (hi : i < l.length) (hB : Below base w0 w) (ho : Kd.R (Kd.int .i64) 3 w base (fun _ => True) v l) :
    Calls Try.prog 73 #[v, .int .i64 i, .int .i64 ((i : Int) + 1)] w fun e w' => ∃ v0_ : Value, e = .returned (v0_) ∧ Kd.R (Kd.int .i64) 3 w' base (fun _ => True) v0_ (l.eraseIdx i) ∧ Below base w0 w' := by
  obtain ⟨g, cap, rfl, hc1, hc2, hcell⟩ := xOwn_slice ho (by intro h; rw [h] at hi; simp at hi)
  have hm : (maxLen : Nat) = 9223372036854775807 := rfl
  rw [show ((i : Int) + 1) = ((i + 1 : Nat) : Int) by omega]
  refine (Try.slices_Delete_int_cells g 0 l.length cap i (i + 1) l w (Nat.le_refl _) hc1 (by omega) (by omega) (by omega) (fun j hj => (hcell j hj).1) (fun j hj => (hcell j hj).2)).mono ?_
  rintro e w' ⟨rfl, q, rfl⟩
  have hlen : (l.take i ++ l.drop (i + 1)).length = l.length - 1 := by simp; omega
  have hfull : List.take l.length l = l := List.take_of_length_le (Nat.le_refl _)
  rw [hfull]
  have hk := xOver_i64 (q := q) (m := l.length - 1) (ys := l.take i ++ l.drop (i + 1) ++ List.replicate (i + 1 - i) 0) hB ho (by rw [List.length_append, hlen]; simp; omega) (by rw [List.length_append, hlen]; omega)
  refine ⟨_, rfl, ?_, hk.2⟩
  have e3 : List.take (l.length - 1) (l.take i ++ l.drop (i + 1) ++ List.replicate (i + 1 - i) (0 : Int)) = l.take i ++ l.drop (i + 1) := by
    rw [List.take_append_of_le_length (by omega)]
    exact List.take_of_length_le (by omega)
  have h2 := hk.1
  rw [e3] at h2
  rw [show l.length - (i + 1 - i) = l.length - 1 by omega, List.eraseIdx_eq_take_drop_succ]
  exact h2
set_option maxHeartbeats 8000000 in
set_option maxRecDepth 100000 in
/-- slices.Grow of nothing: an empty row with room -/
theorem xGrow0_i64 (w : World) (n : Nat) (hn : n < 17592186044416) :
    Calls Try.prog 81 #[.slice none 0 0, .int .i64 n] w fun e w' => ∃ v0_ : Value, e = .returned (v0_) ∧ Kd.R (Kd.int .i64) 3 w' w.heap.size (fun _ => True) v0_ [] ∧ Below w.heap.size w w' := by
  by_cases h0 : n = 0
  · subst h0
    go_enter Try.func81, Try.ntmps81
    go_wp2
    go_ret
    exact ⟨_, rfl, Kd.R_nil _ _ _ _ _, Below.refl _ _⟩
  · have hp : (0 : Int) < (n : Int) := by omega
    have hw : wrap64 (n : Int) = (n : Int) := by unfold wrap64; omega
    have HN := Aside0.mk hn
    clear hn h0
    obtain ⟨A, hA⟩ : ∃ A : Option Addr, A = none := ⟨_, rfl⟩
    have HO0 := Aside0.mk (show ∀ W : World, Kd.R (Kd.int .i64) 3 W w.heap.size (fun _ => True) (.slice A 0 0) [] from fun W => by rw [hA]; exact Kd.R_nil _ _ _ _ _)
    rw [← hA]
    clear hA
    obtain ⟨i0, hi0, _, hsz0, _⟩ := info_parts xinfo3
    have hcut0 := cut_to (P := Try.prog) 23 3 .i64 Try.underlying23 hi0 A 0 0 0 (by omega) (by omega) (by omega)
    simp only [Int.toNat_zero] at hcut0
    go_enter Try.func81, Try.ntmps81
    go_wp2_with (((with_reducible refine gate_builtin (b := .append) (xs := #[.tmp 20, .tmp 21]) rfl ?_); at_builtin; (refine Kd.R_append_zeros (Kd.int .i64) (w0 := w) w.heap.size rfl (.tmp 20) (.tmp 21) 23 3 3 (.int .i64 0) 8 rfl Try.underlying23 Try.underlying3 xinfo3 rfl (by decide) (by omega) (.slice A 0 0) [] (0 : Int) (wrap64 (n : Int)) (fun _ => True) rfl rfl rfl (fun _ _ => trivial) (HO0.out _) (by rw [hw]; omega) (Below.refl _ _) (Nat.le_refl _) ?aL ?_); (case aL => have := HN.out; rw [hw]; simp; omega); intro v1 w1 ho hb hg hat; obtain ⟨y, hy⟩ : ∃ y : List Int, y = ([] : List Int) ++ List.replicate (wrap64 (n : Int)).toNat 0 := ⟨_, rfl⟩; rw [← hy] at ho; clear hy; obtain ⟨A1, c1, e1⟩ := Kd.R_slice ho; subst e1; have HO1 := Aside0.mk ho; have HB1 := Aside0.mk hb; have hcut := cut_to (P := Try.prog) 23 3 .i64 Try.underlying23 hi0 A1 y.length c1 0 (by omega) (by omega) (Kd.R_reads' HO1.out).2.1; simp only [Int.toNat_zero] at hcut; clear ho hb hg hat))
    go_ret
    exact ⟨_, rfl, Kd.R_take (m := 0) HO1.out (by omega), HB1.out⟩
set_option maxHeartbeats 8000000 in
set_option maxRecDepth 100000 in
/-- slices.Concat of two rows -/
theorem xConcat2_i64 (w : World) (g : Nat) (Aa Ab : Option Addr) (ca cb : Nat) (la lb : List Int) (hg : g < w.heap.size)
    (h0 : w.cell? ⟨g, 0, none⟩ = some (.slice Aa la.length ca)) (h1 : w.cell? ⟨g, 1, none⟩ = some (.slice Ab lb.length cb))
    (hra : Kd.C (Kd.int .i64) w Aa la.length la) (hrb : Kd.C (Kd.int .i64) w Ab lb.length lb) (hn : la.length + lb.length < 17592186044416) :
    Calls Try.prog 74 #[.slice (some ⟨g, 0, none⟩) 2 2] w fun e w' => ∃ v0_ : Value, e = .returned (v0_) ∧ Kd.R (Kd.int .i64) 3 w' w.heap.size (fun _ => True) v0_ (la ++ lb) ∧ Below w.heap.size w w' := by
  have HN := Aside0.mk hn
  have HRA := Aside0.mk hra
  have HRB := Aside0.mk hrb
  have H0 := Aside0.mk h0
  have H1 := Aside0.mk h1
  have HG := Aside0.mk hg
  have e1 : wrap64 (0 + (la.length : Int)) = (la.length : Int) := by unfold wrap64; omega
  have e2 : wrap64 ((la.length : Int) + (lb.length : Int)) = ((la.length + lb.length : Nat) : Int) := by unfold wrap64; omega
  have E1 := Aside0.mk e1
  have E2 := Aside0.mk e2
  clear hn hra hrb h0 h1 hg e1 e2
  go_enter Try.func74, Try.ntmps74
  go_wp2
  go_loopg [3, 11] 2 (fun gg s3 s11 wr => ∃ (kk : Nat) (sz : Nat), kk ≤ 2 ∧ 2 - kk ≤ gg ∧ s11 = .int .i64 kk ∧ s3 = .int .i64 sz ∧ Aside0 (Drawn0 w wr) ∧ Aside0 (kk = 0 ∧ sz = 0 ∨ kk = 1 ∧ sz = la.length ∨ kk = 2 ∧ sz = la.length + lb.length))
  case atStart => exact ⟨0, 0, by omega, by omega, rfl, rfl, ⟨Drawn0.refl _⟩, ⟨.inl ⟨rfl, rfl⟩⟩⟩
  case round =>
    obtain ⟨kk, sz, hk, hgk, rfl, rfl, ⟨nd, rfl⟩, HS⟩ := hrel
    obtain ⟨rfl, rfl⟩ | ⟨rfl, rfl⟩ | ⟨rfl, rfl⟩ := HS.out
    · have hc : w.cell? ⟨g, 0, none⟩ = some (.slice Aa la.length ca) := H0.out
      have hw := E1.out
      have hp : ¬ (la.length : Int) < 0 := by omega
      simp only [Int.zero_add] at hw
      go_wp2
      go_roundg 1
      case measure => omega
      case rel => exact ⟨1, la.length, by omega, by omega, rfl, by first | rfl | (simp; done) | (simp [hw]; done), ⟨by repeat (first | exact Drawn0.refl _ | apply Drawn0.step)⟩, ⟨.inr (.inl ⟨rfl, rfl⟩)⟩⟩
    · have hc : w.cell? ⟨g, 1, none⟩ = some (.slice Ab lb.length cb) := H1.out
      have hw := E2.out
      have hp : ¬ ((la.length + lb.length : Nat) : Int) < 0 := by omega
      go_wp2
      go_roundg 0
      case measure => omega
      case rel => exact ⟨2, la.length + lb.length, by omega, by omega, rfl, by first | rfl | (simp; done) | (simp [hw]; done), ⟨by repeat (first | exact Drawn0.refl _ | apply Drawn0.step)⟩, ⟨.inr (.inr ⟨rfl, rfl⟩)⟩⟩
    · go_wp2_with (go_at_call 81; refine (xGrow0_i64 _ (la.length + lb.length) HN.out).mono ?_; rintro e w1 ⟨v1, rfl, ho, hb⟩)
      have HO := Aside0.mk ho
      have HB := Aside0.mk (below_then (pw_below_drewN (Below.refl _ w) nd) (Nat.le_refl _) hb)
      clear ho hb HS
      go_loopg [6, 27] 2 (fun gg s6 s27 wr => ∃ (kk : Nat) (v : Value) (ys : List Int), kk ≤ 2 ∧ 2 - kk ≤ gg ∧ s27 = .int .i64 kk ∧ v = s6 ∧ Aside0 (Below w.heap.size w wr) ∧ Aside0 (Kd.R (Kd.int .i64) 3 wr w.heap.size (fun _ => True) v ys) ∧ Aside0 (kk = 0 ∧ ys = [] ∨ kk = 1 ∧ ys = la ∨ kk = 2 ∧ ys = la ++ lb))
      case atStart => exact ⟨0, v1, [], by omega, by omega, rfl, rfl, HB, HO, ⟨.inl ⟨rfl, rfl⟩⟩⟩
      case round =>
        clear HB HO
        obtain ⟨kk, v, ys, hk, hgk, rfl, rfl, HB, HO, HS⟩ := hrel
        obtain ⟨rfl, rfl⟩ | ⟨rfl, rfl⟩ | ⟨rfl, rfl⟩ := HS.out
        · have hc : wr.cell? ⟨g, 0, none⟩ = some (.slice Aa la.length ca) := (HB.out.cell (p := ⟨g, 0, none⟩) HG.out).trans H0.out
          go_wp2_with ((with_reducible refine gate_builtin (b := .append) (xs := #[.tmp 31, .tmp 32]) rfl ?_); at_builtin; (refine Kd.R_append_rows (Kd.int .i64) (w0 := w) w.heap.size rfl (.tmp 31) (.tmp 32) 23 3 (.int .i64 0) 8 rfl Try.underlying23 xinfo3 rfl (by decide) (by omega) v [] la _ _ _ (fun _ => True) (fun _ => False) rfl rfl ?aO ?aR (fun _ _ h => h) (fun _ h => h.elim) ?aF ?aB ?aS ?aL ?_); (case aR => exact Kd.C_below HRA.out HB.out); (case aB => exact HB.out); (case aF => exact fun _ _ => trivial); (case aO => exact HO.out); (case aS => exact HB.out.size); (case aL => have := HN.out; simp; omega); intro v2 w2 ho hb hg hat; have HO2 := Aside0.mk ho; have HB2 := Aside0.mk hb; clear ho hb hg hat)
          go_roundg 1
          case measure => omega
          case rel => exact ⟨1, v2, la, by omega, by omega, rfl, rfl, HB2, by simpa using HO2, ⟨.inr (.inl ⟨rfl, rfl⟩)⟩⟩
        · have hc : wr.cell? ⟨g, 1, none⟩ = some (.slice Ab lb.length cb) := (HB.out.cell (p := ⟨g, 1, none⟩) HG.out).trans H1.out
          go_wp2_with ((with_reducible refine gate_builtin (b := .append) (xs := #[.tmp 31, .tmp 32]) rfl ?_); at_builtin; (refine Kd.R_append_rows (Kd.int .i64) (w0 := w) w.heap.size rfl (.tmp 31) (.tmp 32) 23 3 (.int .i64 0) 8 rfl Try.underlying23 xinfo3 rfl (by decide) (by omega) v ys lb _ _ _ (fun _ => True) (fun _ => False) rfl rfl ?aO ?aR (fun _ _ h => h) (fun _ h => h.elim) ?aF ?aB ?aS ?aL ?_); (case aR => exact Kd.C_below HRB.out HB.out); (case aB => exact HB.out); (case aF => exact fun _ _ => trivial); (case aO => exact HO.out); (case aS => exact HB.out.size); (case aL => have := HN.out; omega); intro v2 w2 ho hb hg hat; have HO2 := Aside0.mk ho; have HB2 := Aside0.mk hb; clear ho hb hg hat)
          go_roundg 0
          case measure => omega
          case rel => exact ⟨2, v2, ys ++ lb, by omega, by omega, rfl, rfl, HB2, HO2, ⟨.inr (.inr ⟨rfl, rfl⟩)⟩⟩
        · go_wp2
          go_ret
          exact ⟨_, rfl, HO.out, HB.out⟩
/-! ### impl_touch: function 50 -/
theorem xerase_idx (l : List Int) (p : Int) : ∀ (h : l.findIdx (fun x => p == x) < l.length), l.eraseIdx (l.findIdx (fun x => p == x)) = l.erase p := by
  induction l with
  | nil => intro h; simp at h
  | cons x xs ih =>
    intro h
    rw [List.findIdx_cons] at h ⊢
    by_cases e : p = x
    · subst e; simp
    · have e1 : (p == x) = false := beq_eq_false_iff_ne.mpr e
      have e2 : (x == p) = false := beq_eq_false_iff_ne.mpr (fun h => e h.symm)
      rw [e1] at h ⊢
      simp only [cond_false, List.length_cons, Nat.add_lt_add_iff_right] at h ⊢
      rw [List.eraseIdx_cons_succ, List.erase_cons, e2, ih h]; rfl
/-- touch: the page ahead, without it elsewhere, cut; and whether it was there -/
def impl_touch.f (l0 : List Int) (a1 : Int) (a2 : Int) : Option (List Int × Bool) :=
  if l0.length < 10000 then (if 0 ≤ a2 then some ((a1 :: l0.erase a1).take a2.toNat, l0.contains a1) else none) else none
theorem xtouch_index (l : List Int) (p : Int) (hb : l.length < 10000) : ∀ (d k n : Nat), n + d = l.length → d < k →
    slices_Index_int_int.l0 k l p (l.length : Int) (n : Int) = some (if n + (l.drop n).findIdx (fun x => p == x) < l.length then ((n + (l.drop n).findIdx (fun x => p == x) : Nat) : Int) else -1) := by
  intro d
  induction d with
  | zero =>
    intro k n hn hk
    obtain ⟨k, rfl⟩ : ∃ m, k = m + 1 := ⟨k - 1, by omega⟩
    have c : ¬ (n : Int) < (l.length : Int) := by omega
    simp only [slices_Index_int_int.l0]; rw [if_neg c, if_neg (by omega)]
  | succ d ih =>
    intro k n hn hk
    obtain ⟨k, rfl⟩ : ∃ m, k = m + 1 := ⟨k - 1, by omega⟩
    have h1 : n < l.length := by omega
    have c1 : (n : Int) < (l.length : Int) := by omega
    have c0 : (0 : Int) ≤ (n : Int) := by omega
    have hr : rd l (n : Int) = l[n] := by unfold rd; simp [List.getD_eq_getElem?_getD, h1]
    simp only [slices_Index_int_int.l0]
    rw [if_pos c1, if_pos c0, if_pos c1, hr, List.drop_eq_getElem_cons h1, List.findIdx_cons, show wrap64 ((n : Int) + 1) = ((n + 1 : Nat) : Int) by unfold wrap64; omega, ih k (n + 1) (by omega) (by omega)]
    by_cases e : p = l[n]
    · rw [if_pos e, show (p == l[n]) = true from beq_iff_eq.mpr e, cond_true, if_pos (by omega), Nat.add_zero]
    · rw [if_neg e, show (p == l[n]) = false from beq_eq_false_iff_ne.mpr e, cond_false, show ∀ z, n + 1 + z = n + (z + 1) by omega]
set_option maxHeartbeats 8000000 in
set_option maxRecDepth 100000 in
theorem impl_touch.calls (A0 : Option Addr) (c0 : Nat) (l0 : List Int) (a1 : Int) (a2 : Int) (r1 : List Int) (r2 : Bool) (w : World) (hr0 : Kd.C (Kd.int .i64) w A0 l0.length l0) (hc0 : l0.length ≤ c0) (h : impl_touch.f l0 a1 a2 = some (r1, r2)) :
    Calls Try.prog 50 #[.slice A0 l0.length c0, .int .i64 a1, .int .i64 a2] w fun e w' => ∃ v0_ : Value, e = .returned (.tuple #[v0_, .bool r2]) ∧ Kd.R (Kd.int .i64) 3 w' w.heap.size (fun _ => True) v0_ r1 ∧ Below w.heap.size w w' := by
  unfold impl_touch.f at h
  by_cases hb : l0.length < 10000
  · rw [if_pos hb] at h
    by_cases h0 : 0 ≤ a2
    · rw [if_pos h0] at h
      simp only [Option.some.injEq, Prod.mk.injEq] at h
      obtain ⟨h1, h2⟩ := h
      have HR0 := Aside0.mk hr0
      have HC0 := Aside0.mk hc0
      have HL := Aside0.mk hb
      have hidx := xtouch_index l0 a1 hb l0.length (l0.length + 1) 0 (by omega) (by omega)
      simp only [List.drop_zero, Nat.zero_add] at hidx
      have HIX := Aside0.mk hidx
      obtain ⟨i0, hi0, _, hsz0, _⟩ := info_parts xinfo3
      clear hr0 hc0 hb hidx hsz0
      have H2 := Aside0.mk h2
      by_cases hin : l0.findIdx (fun x => a1 == x) < l0.length
      · have hct : r2 = true := by
          rw [← h2, List.contains_iff_mem]
          obtain ⟨y, hy, hy2⟩ := List.findIdx_lt_length.mp hin
          rw [show a1 = y from beq_iff_eq.mp hy2]; exact hy
        subst hct
        have HE := Aside0.mk (xerase_idx l0 a1 hin)
        have HJ := HIX.out
        rw [if_pos hin] at HJ
        have HIN := Aside0.mk hin
        generalize l0.findIdx (fun x => a1 == x) = j at *
        have HJ2 := Aside0.mk HJ
        have hj0 : (0 : Int) ≤ (j : Int) := by omega
        have hjw : wrap64 ((j : Int) + 1) = (j : Int) + 1 := by have := HL.out; have := HIN.out; unfold wrap64; omega
        clear HJ hin HIX h2 H2
        obtain ⟨y, hy⟩ : ∃ y : List Int, y = [a1] ++ l0.eraseIdx j := ⟨_, rfl⟩
        have HY := Aside0.mk hy
        clear hy
        have HLE := Aside0.mk (show (l0.eraseIdx j).length ≤ l0.length from List.length_eraseIdx_le _ _)
        have HY2 := Aside0.mk (show y = a1 :: l0.erase a1 from by rw [HY.out, HE.out]; rfl)
        by_cases hs : a2 < (y.length : Int)
        · have HS := Aside0.mk hs
          go_enter Try.func50, Try.ntmps50
          go_wp2_with (first
          | (go_at_call 66; refine (slices_Index_int_int.calls (l0.length + 1) A0 c0 l0 a1 (j : Int) _ HR0.out HC0.out HJ2.out).mono ?_; rintro e w' ⟨rfl, ⟨nd, rfl⟩⟩)
          | (go_at_call 65; refine (xClone_i64.calls A0 c0 l0 _ (Kd.C_drewN HR0.out _) HC0.out (by have := HL.out; omega)).mono ?_; rintro e w1 ⟨v1, rfl, ho, hb⟩; have HO1 := Aside0.mk ho; have HB1 := Aside0.mk (below_step (pw_below_drewN (Below.refl _ w) nd) hb); clear ho hb)
          | (go_at_call 73; refine (xDelete1_i64 w _ w.heap.size v1 l0 j HIN.out HB1.out HO1.out).mono ?_; rintro e w2 ⟨v2, rfl, ho, hb⟩; obtain ⟨A2, c2, e2⟩ := Kd.R_slice ho; subst e2; have HO2 := Aside0.mk ho; have HB2 := Aside0.mk hb; clear ho hb)
          | ((with_reducible refine gate_dst (N := 22) rfl ?_); refine Kd.R_lit (Kd.int .i64) _ 3 ?hg (N := 22) ?hd (xs := ([a1] : List Int)) (inner := [.int .i64 a1]) (ok := fun _ => True) (okp := fun _ => True) ?hr ?hp (fun _ hk => hk) trivial (Below.refl _ _) (Nat.le_refl _) (by simp) ?_; (case hd => rfl); (case hg => rfl); (case hr => first | (go_simp; done) | (go_simp; rfl)); (case hp => exact (Reps.one (show Kd.M (Kd.int .i64) _ _ _ a1 [.int .i64 a1] from rfl) (Reps.none _ _))); intro v3 w3 ho hb hg_ hnew_; clear hg_ hnew_; obtain ⟨A3, c3, e3⟩ := Kd.R_slice ho; subst e3; have HO3 := Aside0.mk ho; have HB3 := Aside0.mk hb; clear ho hb)
          | (go_at_call 74; refine (xConcat2_i64 _ w3.heap.size A3 A2 c3 c2 [a1] (l0.eraseIdx j) (by simp) (by simp) (by simp) (Kd.C_alloc (Kd.R_reads' HO3.out).2.2 _) (Kd.C_alloc (Kd.C_below (Kd.R_reads' HO2.out).2.2 HB3.out) _) (by have := HL.out; have := HLE.out; simp only [List.length_cons, List.length_nil]; omega)).mono ?_; rintro e w5 ⟨v5, rfl, ho, hb⟩; rw [← HY.out] at ho; obtain ⟨A5, c5, e5⟩ := Kd.R_slice ho; subst e5; have HB4 := Aside0.mk (below_step HB2.out HB3.out); have HB5 := Aside0.mk (below_step (below_alloc HB4.out _) hb); have HO5 := Aside0.mk (Kd.R_lower ho (Nat.le_trans HB4.out.size (by simp))); have hcut := cut_to (P := Try.prog) 23 3 .i64 Try.underlying23 hi0 A5 y.length c5 a2 (by omega) (by omega) (Kd.R_reads' HO5.out).2.1; clear ho hb))
          go_ret2
          exact ⟨_, rfl, by rw [← h1, show (a1 :: l0.erase a1).take a2.toNat = y.take (a2 : Int).toNat by rw [HY2.out]]; exact Kd.R_take HO5.out (by omega), HB5.out⟩
        · have HS := Aside0.mk hs
          go_enter Try.func50, Try.ntmps50
          go_wp2_with (first
          | (go_at_call 66; refine (slices_Index_int_int.calls (l0.length + 1) A0 c0 l0 a1 (j : Int) _ HR0.out HC0.out HJ2.out).mono ?_; rintro e w' ⟨rfl, ⟨nd, rfl⟩⟩)
          | (go_at_call 65; refine (xClone_i64.calls A0 c0 l0 _ (Kd.C_drewN HR0.out _) HC0.out (by have := HL.out; omega)).mono ?_; rintro e w1 ⟨v1, rfl, ho, hb⟩; have HO1 := Aside0.mk ho; have HB1 := Aside0.mk (below_step (pw_below_drewN (Below.refl _ w) nd) hb); clear ho hb)
          | (go_at_call 73; refine (xDelete1_i64 w _ w.heap.size v1 l0 j HIN.out HB1.out HO1.out).mono ?_; rintro e w2 ⟨v2, rfl, ho, hb⟩; obtain ⟨A2, c2, e2⟩ := Kd.R_slice ho; subst e2; have HO2 := Aside0.mk ho; have HB2 := Aside0.mk hb; clear ho hb)
          | ((with_reducible refine gate_dst (N := 22) rfl ?_); refine Kd.R_lit (Kd.int .i64) _ 3 ?hg (N := 22) ?hd (xs := ([a1] : List Int)) (inner := [.int .i64 a1]) (ok := fun _ => True) (okp := fun _ => True) ?hr ?hp (fun _ hk => hk) trivial (Below.refl _ _) (Nat.le_refl _) (by simp) ?_; (case hd => rfl); (case hg => rfl); (case hr => first | (go_simp; done) | (go_simp; rfl)); (case hp => exact (Reps.one (show Kd.M (Kd.int .i64) _ _ _ a1 [.int .i64 a1] from rfl) (Reps.none _ _))); intro v3 w3 ho hb hg_ hnew_; clear hg_ hnew_; obtain ⟨A3, c3, e3⟩ := Kd.R_slice ho; subst e3; have HO3 := Aside0.mk ho; have HB3 := Aside0.mk hb; clear ho hb)
          | (go_at_call 74; refine (xConcat2_i64 _ w3.heap.size A3 A2 c3 c2 [a1] (l0.eraseIdx j) (by simp) (by simp) (by simp) (Kd.C_alloc (Kd.R_reads' HO3.out).2.2 _) (Kd.C_alloc (Kd.C_below (Kd.R_reads' HO2.out).2.2 HB3.out) _) (by have := HL.out; have := HLE.out; simp only [List.length_cons, List.length_nil]; omega)).mono ?_; rintro e w5 ⟨v5, rfl, ho, hb⟩; rw [← HY.out] at ho; obtain ⟨A5, c5, e5⟩ := Kd.R_slice ho; subst e5; have HB4 := Aside0.mk (below_step HB2.out HB3.out); have HB5 := Aside0.mk (below_step (below_alloc HB4.out _) hb); have HO5 := Aside0.mk (Kd.R_lower ho (Nat.le_trans HB4.out.size (by simp))); have hcut := cut_to (P := Try.prog) 23 3 .i64 Try.underlying23 hi0 A5 y.length c5 (y.length : Int) (by omega) (by omega) (Kd.R_reads' HO5.out).2.1; clear ho hb))
          go_ret2
          exact ⟨_, rfl, by rw [← h1, show (a1 :: l0.erase a1).take a2.toNat = y.take ((y.length : Int) : Int).toNat by (rw [Int.toNat_natCast, List.take_of_length_le (l := y) (Nat.le_refl _), HY2.out]; exact List.take_of_length_le (by have := HS.out; rw [HY2.out] at this; omega))]; exact Kd.R_take HO5.out (by omega), HB5.out⟩
      · have hnm : ¬ a1 ∈ l0 := fun hmem => hin (List.findIdx_lt_length.mpr ⟨a1, hmem, beq_iff_eq.mpr rfl⟩)
        have hct : r2 = false := by
          rw [← h2]
          exact Bool.eq_false_iff.mpr (fun hh => hnm (List.contains_iff_mem.mp hh))
        subst hct
        have HE := Aside0.mk (List.erase_of_not_mem hnm)
        have HJ := HIX.out
        rw [if_neg hin] at HJ
        have HJ2 := Aside0.mk HJ
        clear HJ hin HIX h2 H2 hnm
        obtain ⟨y, hy⟩ : ∃ y : List Int, y = [a1] ++ l0 := ⟨_, rfl⟩
        have HY := Aside0.mk hy
        clear hy
        have HY2 := Aside0.mk (show y = a1 :: l0.erase a1 from by rw [HY.out, HE.out]; rfl)
        by_cases hs : a2 < (y.length : Int)
        · have HS := Aside0.mk hs
          go_enter Try.func50, Try.ntmps50
          go_wp2_with (first
          | (go_at_call 66; refine (slices_Index_int_int.calls (l0.length + 1) A0 c0 l0 a1 (-1) _ HR0.out HC0.out HJ2.out).mono ?_; rintro e w' ⟨rfl, ⟨nd, rfl⟩⟩)
          | ((with_reducible refine gate_dst (N := 22) rfl ?_); refine Kd.R_lit (Kd.int .i64) _ 3 ?hg (N := 22) ?hd (xs := ([a1] : List Int)) (inner := [.int .i64 a1]) (ok := fun _ => True) (okp := fun _ => True) ?hr ?hp (fun _ hk => hk) trivial (Below.refl _ _) (Nat.le_refl _) (by simp) ?_; (case hd => rfl); (case hg => rfl); (case hr => first | (go_simp; done) | (go_simp; rfl)); (case hp => exact (Reps.one (show Kd.M (Kd.int .i64) _ _ _ a1 [.int .i64 a1] from rfl) (Reps.none _ _))); intro v3 w3 ho hb hg_ hnew_; clear hg_ hnew_; obtain ⟨A3, c3, e3⟩ := Kd.R_slice ho; subst e3; have HO3 := Aside0.mk ho; have HB3 := Aside0.mk hb; clear ho hb)
          | (go_at_call 74; refine (xConcat2_i64 _ w3.heap.size A3 A0 c3 c0 [a1] l0 (by simp) (by simp) (by simp) (Kd.C_alloc (Kd.R_reads' HO3.out).2.2 _) (Kd.C_alloc (Kd.C_below (Kd.C_drewN HR0.out nd) HB3.out) _) (by have := HL.out; simp only [List.length_cons, List.length_nil]; omega)).mono ?_; rintro e w5 ⟨v5, rfl, ho, hb⟩; rw [← HY.out] at ho; obtain ⟨A5, c5, e5⟩ := Kd.R_slice ho; subst e5; have HB4 := Aside0.mk (below_step (pw_below_drewN (Below.refl _ w) nd) HB3.out); have HB5 := Aside0.mk (below_step (below_alloc HB4.out _) hb); have HO5 := Aside0.mk (Kd.R_lower ho (Nat.le_trans HB4.out.size (by simp))); have hcut := cut_to (P := Try.prog) 23 3 .i64 Try.underlying23 hi0 A5 y.length c5 a2 (by omega) (by omega) (Kd.R_reads' HO5.out).2.1; clear ho hb))
          go_ret2
          exact ⟨_, rfl, by rw [← h1, show (a1 :: l0.erase a1).take a2.toNat = y.take (a2 : Int).toNat by rw [HY2.out]]; exact Kd.R_take HO5.out (by omega), HB5.out⟩
        · have HS := Aside0.mk hs
          go_enter Try.func50, Try.ntmps50
          go_wp2_with (first
          | (go_at_call 66; refine (slices_Index_int_int.calls (l0.length + 1) A0 c0 l0 a1 (-1) _ HR0.out HC0.out HJ2.out).mono ?_; rintro e w' ⟨rfl, ⟨nd, rfl⟩⟩)
          | ((with_reducible refine gate_dst (N := 22) rfl ?_); refine Kd.R_lit (Kd.int .i64) _ 3 ?hg (N := 22) ?hd (xs := ([a1] : List Int)) (inner := [.int .i64 a1]) (ok := fun _ => True) (okp := fun _ => True) ?hr ?hp (fun _ hk => hk) trivial (Below.refl _ _) (Nat.le_refl _) (by simp) ?_; (case hd => rfl); (case hg => rfl); (case hr => first | (go_simp; done) | (go_simp; rfl)); (case hp => exact (Reps.one (show Kd.M (Kd.int .i64) _ _ _ a1 [.int .i64 a1] from rfl) (Reps.none _ _))); intro v3 w3 ho hb hg_ hnew_; clear hg_ hnew_; obtain ⟨A3, c3, e3⟩ := Kd.R_slice ho; subst e3; have HO3 := Aside0.mk ho; have HB3 := Aside0.mk hb; clear ho hb)
          | (go_at_call 74; refine (xConcat2_i64 _ w3.heap.size A3 A0 c3 c0 [a1] l0 (by simp) (by simp) (by simp) (Kd.C_alloc (Kd.R_reads' HO3.out).2.2 _) (Kd.C_alloc (Kd.C_below (Kd.C_drewN HR0.out nd) HB3.out) _) (by have := HL.out; simp only [List.length_cons, List.length_nil]; omega)).mono ?_; rintro e w5 ⟨v5, rfl, ho, hb⟩; rw [← HY.out] at ho; obtain ⟨A5, c5, e5⟩ := Kd.R_slice ho; subst e5; have HB4 := Aside0.mk (below_step (pw_below_drewN (Below.refl _ w) nd) HB3.out); have HB5 := Aside0.mk (below_step (below_alloc HB4.out _) hb); have HO5 := Aside0.mk (Kd.R_lower ho (Nat.le_trans HB4.out.size (by simp))); have hcut := cut_to (P := Try.prog) 23 3 .i64 Try.underlying23 hi0 A5 y.length c5 (y.length : Int) (by omega) (by omega) (Kd.R_reads' HO5.out).2.1; clear ho hb))
          go_ret2
          exact ⟨_, rfl, by rw [← h1, show (a1 :: l0.erase a1).take a2.toNat = y.take ((y.length : Int) : Int).toNat by (rw [Int.toNat_natCast, List.take_of_length_le (l := y) (Nat.le_refl _), HY2.out]; exact List.take_of_length_le (by have := HS.out; rw [HY2.out] at this; omega))]; exact Kd.R_take HO5.out (by omega), HB5.out⟩
    · rw [if_neg h0] at h; cases h
  · rw [if_neg hb] at h; cases h

/-! Rows of one's own that are told with a smaller capacity than they have -/
namespace KdC
def R {α : Type} (d : Kd α) (e : Nat) (w : World) (base : Nat) (ok : Nat → Prop) (v : Value) (xs : List α) : Prop :=
  (∀ k, v.ownBlock = some k → ok k) ∧ ∃ A n c c', v = .slice A n c ∧ n ≤ c ∧ c ≤ c' ∧ d.R e w base ok (.slice A n c') xs
theorem own_eq (A : Option Addr) (n c n' c' : Nat) : (Value.slice A n c).ownBlock = (Value.slice A n' c').ownBlock := by cases A <;> rfl
section
variable {α : Type} {d : Kd α} {e e' : Nat} {w w1 W W2 : World} {base b b' : Nat} {ok ok' ok1 : Nat → Prop} {v u : Value} {xs : List α} {S : Nat → Prop}
theorem R_of (h : d.R e w base ok v xs) : R d e w base ok v xs := by
  obtain ⟨A, c, rfl, hl, _⟩ := Kd.R_reads h
  exact ⟨h.1, A, _, c, c, rfl, hl, Nat.le_refl _, h⟩
theorem R_nil (d : Kd α) (e : Nat) (w : World) (base : Nat) (ok : Nat → Prop) : R d e w base ok (.slice none 0 0) [] := R_of (Kd.R_nil _ _ _ _ _)
theorem R_mono (h : R d e w base ok v xs) (hok : ∀ k, ok k → ok' k) : R d e w base ok' v xs := by
  obtain ⟨h0, A, n, c, c', rfl, h1, h2, h3⟩ := h
  exact ⟨fun k hk => hok k (h0 k hk), A, n, c, c', rfl, h1, h2, Kd.R_mono h3 hok⟩
theorem R_below (h : R d e w base ok v xs) (hb : Below w.heap.size w w1) : R d e w1 base ok v xs := by
  obtain ⟨h0, A, n, c, c', rfl, h1, h2, h3⟩ := h
  exact ⟨h0, A, n, c, c', rfl, h1, h2, Kd.R_below h3 hb⟩
theorem R_alloc (h : R d e w base ok v xs) (o : Obj) : R d e (w.alloc o) base ok v xs := R_below h (below_alloc (Below.refl _ _) o)
theorem R_drew (h : R d e w base ok v xs) : R d e w.drew base ok v xs := R_below h (below_drew (Below.refl _ _))
theorem R_drewN (h : R d e w base ok v xs) (m : Nat) : R d e (w.drewN m) base ok v xs := R_below h (pw_below_drewN (Below.refl _ _) m)
theorem R_lower {base' : Nat} (h : R d e w base ok v xs) (hb : base' ≤ base) : R d e w base' ok v xs := by
  obtain ⟨h0, A, n, c, c', rfl, h1, h2, h3⟩ := h
  exact ⟨h0, A, n, c, c', rfl, h1, h2, Kd.R_lower h3 hb⟩
theorem R_lt (h : R d e w base ok v xs) : ∀ k, v.ownBlock = some k → k < w.heap.size := by
  obtain ⟨h0, A, n, c, c', rfl, h1, h2, h3⟩ := h
  rw [own_eq A n c n c']; exact Kd.R_lt h3
theorem R_base (h : R d e w base ok v xs) : ∀ k, v.ownBlock = some k → base ≤ k := by
  obtain ⟨h0, A, n, c, c', rfl, h1, h2, h3⟩ := h
  rw [own_eq A n c n c']; exact Kd.R_base h3
theorem R_elder' (hu : R d e W base ok u xs) (hbase : ∀ k, v.ownBlock = some k → W.heap.size ≤ k) (hb : Below W.heap.size W w1) : R d e w1 base (fun k => ok k ∧ some k ≠ v.ownBlock) u xs := by
  obtain ⟨h0, A, n, c, c', rfl, h1, h2, h3⟩ := hu
  have z := Kd.R_elder' h3 hbase hb
  refine ⟨?_, A, n, c, c', rfl, h1, h2, z⟩
  rw [own_eq A n c n c']; exact z.1
theorem R_new' (h : R d e w1 W.heap.size ok v xs) (hlt : ∀ k, u.ownBlock = some k → k < W.heap.size) : R d e w1 W.heap.size (fun k => ok k ∧ some k ≠ u.ownBlock) v xs := by
  obtain ⟨h0, A, n, c, c', rfl, h1, h2, h3⟩ := h
  have z := Kd.R_new' h3 hlt
  refine ⟨?_, A, n, c, c', rfl, h1, h2, z⟩
  rw [own_eq A n c n c']; exact z.1
theorem R_reads' {A : Option Addr} {n c : Nat} (h : R d e w base ok (.slice A n c) xs) : n = xs.length ∧ n ≤ c ∧ d.C w A xs.length xs := by
  obtain ⟨h0, A', n', c', c2, he, h1, h2, h3⟩ := h
  injection he with e1 e2 e3
  subst e1 e2 e3
  have z := Kd.R_reads' h3
  exact ⟨z.1, h1, z.2.2⟩
theorem R_slice (h : R d e w base ok v xs) : ∃ A c, v = .slice A xs.length c := by
  obtain ⟨h0, A, n, c, c', rfl, h1, h2, h3⟩ := h
  obtain ⟨rfl, _⟩ := Kd.R_reads' h3
  exact ⟨A, c, rfl⟩
theorem R_clip {A : Option Addr} {n c : Nat} (h : d.R e w base ok (.slice A n c) xs) : R d e w base ok (.slice A n n) xs := by
  have z := Kd.R_reads' h
  refine ⟨?_, A, n, n, c, rfl, Nat.le_refl _, z.2.1, h⟩
  rw [own_eq A n n n c]; exact h.1
theorem R_form (h : R d e w base ok v xs) (hp : 0 < xs.length) : ∃ g cap, v = .slice (some ⟨g, 0, none⟩) xs.length cap ∧ base ≤ g ∧ g < w.heap.size ∧ ∃ cells, w.heap[g]? = some (.cells cells e (0, 0)) := by
  obtain ⟨h0, A, n, c, c', rfl, h1, h2, h3⟩ := h
  obtain ⟨g, cap, he, z⟩ := Kd.R_form h3 hp
  injection he with e1 e2 e3
  subst e1 e2
  exact ⟨g, c, rfl, z⟩
theorem R_keptB (h : R d e W base ok v xs) (hk : Kept W W2 S) (hne : ∀ k, ok k → ¬ S k) : R d e W2 base (fun k => ok k ∧ (¬ S k ∧ k < W.heap.size)) v xs := by
  obtain ⟨h0, A, n, c, c', rfl, h1, h2, h3⟩ := h
  have z := Kd.R_keptB h3 hk hne
  refine ⟨?_, A, n, c, c', rfl, h1, h2, z⟩
  rw [own_eq A n c n c']; exact z.1
theorem R_tight (hE : d.E = []) (h : R d e w base ok v xs) : R d e w base (fun k => some k = v.ownBlock) v xs := by
  obtain ⟨h0, A, n, c, c', rfl, h1, h2, h3⟩ := h
  have z := Kd.R_tight hE h3
  refine ⟨fun k hk => hk.symm, A, n, c, c', rfl, h1, h2, ?_⟩
  rw [own_eq A n c n c']; exact z
theorem R_reok (hE : d.E = []) (h : R d e W base ok1 v xs) (hok : ∀ k, v.ownBlock = some k → ok k) : R d e W base ok v xs := R_mono (R_tight hE h) (fun k hk => hok k hk.symm)
end
section
variable {α : Type} {enc : α → Value} {h1 : ∀ x, (enc x).oneCell' = true} {e base g n cap : Nat} {ok : Nat → Prop} {W : World} {xs : List α}
theorem R_celln (d : α) (h : R (Kd.scalar enc h1) e W base ok (.slice (some ⟨g, 0, none⟩) n cap) xs) (i : Int) (h0 : 0 ≤ i) (hi : i < n) : W.cell? ⟨g, i.toNat, none⟩ = some (enc (rdOf d xs i)) ∧ W.frozen? ⟨g, i.toNat, none⟩ = false := by
  obtain ⟨hz, A, n', c, c', he, h1, h2, h3⟩ := h
  injection he with e1 e2 e3
  subst e1 e2 e3
  exact Kd.R_celln d h3 i h0 hi
theorem R_putg (h : R (Kd.scalar enc h1) e W base ok (.slice (some ⟨g, 0, none⟩) n cap) xs) (i : Int) (x : α) : R (Kd.scalar enc h1) e (W.setCell ⟨g, i.toNat, none⟩ (enc x)) base ok (.slice (some ⟨g, 0, none⟩) n cap) (xs.set i.toNat x) ∧ W.grownBy (W.setCell ⟨g, i.toNat, none⟩ (enc x)) (some g) := by
  obtain ⟨hz, A, n', c, c', he, h1, h2, h3⟩ := h
  injection he with e1 e2 e3
  subst e1 e2 e3
  have z := Kd.R_putg h3 i x
  exact ⟨⟨hz, _, _, _, c', rfl, h1, h2, z.1⟩, z.2⟩
end
end KdC
/-! ### slices_Clip_int_int: function 51 -/
def slices_Clip_int_int.f (l0 : List Int) : Option (List Int) := some l0
theorem slices_Clip_int_int.calls (A0 : Option Addr) (c0 : Nat) (l0 : List Int) (r : List Int) (w : World) (hr0 : Kd.C (Kd.int .i64) w A0 l0.length l0) (hc0 : l0.length ≤ c0) (h : slices_Clip_int_int.f l0 = some r) :
    Calls Try.prog 51 #[.slice A0 l0.length c0] w fun e w' => ∃ v0_ : Value, e = .returned v0_ ∧ v0_ = .slice A0 l0.length l0.length ∧ r = l0 ∧ Drawn0 w w' := by
  obtain rfl : l0 = r := Option.some.inj h
  go_enter Try.func51, Try.ntmps51
  go_wp2
  go_ret
  exact ⟨_, rfl, rfl, by first | rfl | trivial, ⟨0, rfl⟩⟩

/-- the first place, counted from n, at which p holds; -1 if there is none -/
def idxO {α : Type} (p : α → Option Bool) : List α → Int → Option Int
  | [], _ => some (-1)
  | x :: xs, n => (p x).bind fun b => if b = true then some n else idxO p xs (n + 1)
theorem idxO_at {α : Type} (p : α → Option Bool) (l : List α) (n : Nat) (h : n < l.length) : idxO p (l.drop n) (n : Int) = (p l[n]).bind fun b => if b = true then some (n : Int) else idxO p (l.drop (n + 1)) ((n + 1 : Nat) : Int) := by
  rw [List.drop_eq_getElem_cons h]; rfl
theorem idxO_mono {α : Type} (p q : α → Option Bool) (h : ∀ x, LeO (p x) (q x)) (l : List α) : ∀ n, LeO (idxO p l n) (idxO q l n) := by
  induction l with
  | nil => intro n; exact LeO.refl _
  | cons x xs ih => intro n; unfold idxO; exact LeO.bind (h x) (fun b => LeO.ite (LeO.refl _) (ih _))
set_option maxHeartbeats 4000000 in
/-- slices.IndexFunc: the first place at which the predicate holds -/
theorem xIndexFunc_i64 (p : Int → Option Bool) (g : Nat) (lb : Array Value) (eg : ∀ args w, (callFunc g args).run Try.prog w = .ok (.enter g args) w) (A0 : Option Addr) (c0 : Nat) (l0 : List Int) (i : Int) (w : World)
    (hr0 : Kd.C (Kd.int .i64) w A0 l0.length l0) (hc0 : l0.length ≤ c0) (hbig : l0.length < 9223372036854775807)
    (hp : ∀ (W : World) (x : Int) (b : Bool), Below w.heap.size w W → p x = some b → Calls Try.prog g (#[.int .i64 x] ++ lb) W fun e w' => e = .returned (.bool b) ∧ Below w.heap.size w w')
    (h : idxO p l0 0 = some i) :
    Calls Try.prog 77 #[.slice A0 l0.length c0, .func (.func g) #[] lb] w fun e w' => e = .returned (.int .i64 i) ∧ Below w.heap.size w w' := by
  have HR0 := Aside0.mk hr0
  have HC0 := Aside0.mk hc0
  have HP := Aside0.mk hp
  have HI := Aside0.mk h
  clear hr0 hc0 hp h
  go_enter Try.func77, Try.ntmps77
  go_wp2
  go_loopg [5, 8] l0.length (fun gg _ s8 wr => ∃ kk : Nat, kk ≤ l0.length ∧ l0.length - kk ≤ gg ∧ s8 = .int .i64 kk ∧ Aside0 (Below w.heap.size w wr) ∧ Aside0 (idxO p (l0.drop kk) (kk : Int) = some i))
  case atStart => exact ⟨0, Nat.zero_le _, by omega, rfl, ⟨Below.refl _ w⟩, HI⟩
  case round =>
    obtain ⟨kk, hkk, hg, rfl, BW, A⟩ := hrel
    clear HI
    by_cases hlt : kk < l0.length
    · have hltz : (kk : Int) < (l0.length : Int) := by omega
      have H := A.out
      clear A
      rw [idxO_at p l0 kk hlt] at H
      obtain ⟨b, hb, H⟩ := Option.bind_eq_some_iff.mp H
      have hcall := HP.out wr l0[kk] b BW.out hb
      have hrd : rd l0 (kk : Int) = l0[kk] := by unfold rd; simp [List.getD_eq_getElem?_getD, hlt]
      obtain ⟨ad, he, hy0⟩ := Kd.at_int (Kd.C_below HR0.out BW.out) (kk : Int) (by omega) hltz
      cases he
      have hx0 : wr.cell? (ad.add kk) = some (.int .i64 (l0[kk])) := by rw [← hrd]; exact hy0
      clear hy0
      generalize l0[kk] = x at *
      cases b with
      | true =>
        obtain rfl : (kk : Int) = i := Option.some.inj H
        clear H hb
        go_wp2_with (go_at_fn g; refine hcall.mono ?_; rintro e w' ⟨rfl, hb'⟩)
        go_ret
        exact ⟨rfl, hb'⟩
      | false =>
        have H' := Aside0.mk H
        clear H hb
        go_wp2_with (go_at_fn g; refine hcall.mono ?_; rintro e w' ⟨rfl, hb'⟩)
        go_roundg (l0.length - (kk + 1))
        case measure => omega
        case rel => exact ⟨kk + 1, by omega, by omega, by go_num, ⟨hb'⟩, ⟨by have z := H'.out; rw [if_neg (by decide)] at z; exact z⟩⟩
    · have hltz : ¬ (kk : Int) < (l0.length : Int) := by omega
      have H := A.out
      rw [List.drop_of_length_le (by omega)] at H
      obtain rfl : (-1 : Int) = i := Option.some.inj H
      clear H A
      go_wp2
      go_ret
      exact ⟨rfl, BW.out⟩
set_option maxHeartbeats 4000000 in
theorem xContainsFunc_i64 (p : Int → Option Bool) (g : Nat) (lb : Array Value) (eg : ∀ args w, (callFunc g args).run Try.prog w = .ok (.enter g args) w) (A0 : Option Addr) (c0 : Nat) (l0 : List Int) (i : Int) (w : World)
    (hr0 : Kd.C (Kd.int .i64) w A0 l0.length l0) (hc0 : l0.length ≤ c0) (hbig : l0.length < 9223372036854775807)
    (hp : ∀ (W : World) (x : Int) (b : Bool), Below w.heap.size w W → p x = some b → Calls Try.prog g (#[.int .i64 x] ++ lb) W fun e w' => e = .returned (.bool b) ∧ Below w.heap.size w w')
    (h : idxO p l0 0 = some i) :
    Calls Try.prog 67 #[.slice A0 l0.length c0, .func (.func g) #[] lb] w fun e w' => e = .returned (.bool (decide (i ≥ 0))) ∧ Below w.heap.size w w' := by
  have hcall := xIndexFunc_i64 p g lb eg A0 c0 l0 i w hr0 hc0 hbig hp h
  clear hr0 hc0 hbig hp h
  go_enter Try.func67, Try.ntmps67
  go_wp2_with (go_at_call 77; refine hcall.mono ?_; rintro e w' ⟨rfl, hb'⟩)
  go_ret
  exact ⟨rfl, hb'⟩
/-! ### xAll_i64_impl_isPage: function 45, with function 46 -/
def xAll_i64_impl_isPage.z (x : Int) : Option Bool := (impl_isPage.f x).bind fun b => some (!b)
def xAll_i64_impl_isPage.f (l0 : List Int) : Option (Bool) := if l0.length < 9223372036854775807 then ((idxO (xAll_i64_impl_isPage.z) l0 0).bind fun i => some (!decide (i ≥ 0))) else none
set_option maxHeartbeats 8000000 in
set_option maxRecDepth 100000 in
theorem xAll_i64_impl_isPage.calls (A0 : Option Addr) (c0 : Nat) (l0 : List Int) (r : Bool) (w : World) (hr0 : Kd.C (Kd.int .i64) w A0 l0.length l0) (hc0 : l0.length ≤ c0) (h : xAll_i64_impl_isPage.f l0 = some r) :
    Calls Try.prog 45 #[.slice A0 l0.length c0, .func (.func 46) #[] #[]] w fun e w' => e = .returned (.bool r) ∧ Below w.heap.size w w' := by
  have hbig : l0.length < 9223372036854775807 := by
    by_cases c : l0.length < 9223372036854775807
    · exact c
    · unfold xAll_i64_impl_isPage.f at h; rw [if_neg c] at h; cases h
  have h1 : ((idxO (xAll_i64_impl_isPage.z) l0 0).bind fun i => some (!decide (i ≥ 0))) = some r := by unfold xAll_i64_impl_isPage.f at h; rw [if_pos hbig] at h; exact h
  clear h
  obtain ⟨i, hi1, hi2⟩ := Option.bind_eq_some_iff.mp h1
  clear h1
  obtain rfl := Option.some.inj hi2
  clear hi2
  have eg : ∀ args w, (callFunc 68 args).run Try.prog w = .ok (.enter 68 args) w := enters_of Try.func68 (by kernel_rfl) rfl
  have hb1 : Below w.heap.size w (w.alloc (.cells #[.func (.func 46) #[] #[]] 53)) := (Below.refl _ w).alloc (Nat.le_refl _) _
  have hcall := xContainsFunc_i64 (xAll_i64_impl_isPage.z) 68 #[.pointer (some ⟨w.heap.size, 0, none⟩)] eg A0 c0 l0 i (w.alloc (.cells #[.func (.func 46) #[] #[]] 53)) (Kd.C_below hr0 hb1) hc0 hbig
    (by
      intro W x b hb hz
      have hcell : W.cell? ⟨w.heap.size, 0, none⟩ = some (.func (.func 46) #[] #[]) := (hb.cell (p := ⟨w.heap.size, 0, none⟩) (by simp)).trans (by simp)
      obtain ⟨b2, hq, hb2⟩ := Option.bind_eq_some_iff.mp hz
      obtain rfl : (!b2) = b := Option.some.inj hb2
      have hq' := Aside0.mk hq
      have hb' := Aside0.mk hb
      clear hb hz hb2 hq
      show Calls Try.prog 68 #[.int .i64 x, .pointer (some ⟨w.heap.size, 0, none⟩)] W _
      go_enter Try.func68, Try.ntmps68
      go_wp2_with (go_at_call 46; refine (impl_isPage.calls x b2 _ hq'.out).mono ?_; rintro e w' ⟨rfl, ⟨nd, rfl⟩⟩)
      go_ret
      exact ⟨rfl, by repeat (first | (with_reducible first | exact hb'.out | apply below_alloc | apply pw_below_drewN | apply below_drew1) | exact hb'.out)⟩)
    hi1
  have hb1' := Aside0.mk hb1
  clear hr0 hc0 hbig hi1 hb1 eg
  go_enter Try.func45, Try.ntmps45
  go_wp2_with (go_at_call 67; refine hcall.mono ?_; rintro e w' ⟨rfl, hb'⟩)
  go_ret
  exact ⟨rfl, below_then hb1'.out (by simp) hb'⟩

end Go.Proofs.Ytgpimekdfnpffaa.PFnTouched
