-- Written by a program of this project (xprint.py) out of the translation; Lean checks it.
import Derived.Test.YtjkpomphkfecmaaPFnSpansx0
namespace Go.Proofs.Ytjkpomphkfecmaa.PFnSpans
open Go.RowKit Go.Proofs.YtjkpomphkfecmaaW.PrintWords Go.Proofs.YtjkpomphkfecmaaW.PrintLast Go.Proofs.YtjkpomphkfecmaaW.PrintMore
attribute [local go_sem] max2_int min2_int max_two min_two max_three min_three max_four min_four   -- for this text's walks alone
set_option linter.unusedVariables false
set_option linter.unusedSimpArgs false

/-! ### slices.SortedFunc over slices.Values, at pairs -/
/-! ### A row of pairs: its cells in one list -/
def encP (x : S32) : List Value := [.int .i64 x.f0, .int .i64 x.f1]
def flatP (xs : List S32) : List Value := xs.flatMap encP
theorem flatP_cons (x : S32) (xs : List S32) : flatP (x :: xs) = .int .i64 x.f0 :: .int .i64 x.f1 :: flatP xs := rfl
theorem flatP_snoc (xs : List S32) (x : S32) : flatP (xs ++ [x]) = flatP xs ++ [.int .i64 x.f0, .int .i64 x.f1] := by unfold flatP encP; simp
theorem flatP_len (xs : List S32) : (flatP xs).length = xs.length * 2 := by
  induction xs with
  | nil => rfl
  | cons x xs ih => rw [flatP_cons, List.length_cons, List.length_cons, ih, List.length_cons]; omega
theorem flatP_at : ∀ (xs : List S32) (j : Nat) (p : S32), xs[j]? = some p → ((flatP xs).drop (j * 2)).take 2 = [.int .i64 p.f0, .int .i64 p.f1]
  | [], j, p, h => by simp at h
  | x :: xs, 0, p, h => by
    obtain rfl : x = p := by simpa using h
    rfl
  | x :: xs, j + 1, p, h => by
    have h' : xs[j]? = some p := by simpa using h
    have e : (j + 1) * 2 = j * 2 + 2 := by omega
    rw [flatP_cons, e]
    exact flatP_at xs j p h'
theorem R_of_flat {e : Nat} {w : World} {base : Nat} {ok : Nat → Prop} {v : Value} {xs : List S32} (ho : w.ownsRow base e 2 v xs.length (flatP xs)) (hok : ∀ k, v.ownBlock = some k → ok k) : Kd.R k32 e w base ok v xs :=
  ⟨hok, flatP xs, ho, flatP_len xs, fun j p hj => by rw [show k32.sz = 2 from rfl, flatP_at xs j p hj]; exact k32_mkM _ _ _ p⟩
theorem padd_block (ad : Addr) (k : Nat) : (ad.add k).block = ad.block := by unfold Addr.add; split <;> rfl
theorem pcell_lt {w : World} {p : Addr} {v : Value} (h : w.cell? p = some v) : p.block < w.heap.size := by
  by_cases hlt : p.block < w.heap.size
  · exact hlt
  · unfold World.cell? at h
    rw [Array.getElem?_eq_none (by omega)] at h
    cases h
theorem cells_two_new (w : World) (x y : Value) (t : TypeId) : ∀ j u, [x, y][j]? = some u → (w.alloc (.cells #[x, y] t)).cell? ((⟨w.heap.size, 0, none⟩ : Addr).add j) = some u := by
  intro j u hj
  match j, hj with
  | 0, hj => obtain rfl : x = u := by simpa using hj
             exact World.cell?_alloc_at _ _ _ 0 rfl
  | 1, hj => obtain rfl : y = u := by simpa using hj
             exact World.cell?_alloc_at _ _ _ 1 rfl
  | j + 2, hj => simp at hj
section
attribute [local go_sem] Oper.semAt_some
open Go.Shelf Go.Sort
set_option maxRecDepth 100000 in
set_option maxHeartbeats 4000000 in
/-- slices.Values's closure over a row of pairs, in whatever loop -/
theorem pValues1_in (F : Fence) (n : Nat) (h7 : F.fn 45) (hro : F.round = none) (hn : 1 ≤ n) (l Bs n₀ cap : Nat) (ad : Addr) (zs : List S32) (hreach : zs.length * 16 ≤ 140737488351232) (hb : ad.block < n₀) (J Jx : List S32 → World → Prop)
    (hY : ∀ pre x W, J pre W → pre.length < zs.length → YieldAt F (n - 1) Try.prog l #[.agg #[.int .i64 x.f0, .int .i64 x.f1]] W fun e W' =>
      (e = .returned (.bool true) ∧ J (pre ++ [x]) W' ∧ Below n₀ W W') ∨ (e = .returned (.bool false) ∧ Jx (pre ++ [x]) W'))
    (hJ : ∀ (pre : List S32) (W : World) (o : Obj), n₀ ≤ W.heap.size → J pre W → J pre (W.alloc o))
    (W : World) (hn0 : n₀ ≤ W.heap.size) (hBs : W.cell? ⟨Bs, 0, none⟩ = some (.slice (some ad) zs.length cap)) (hc : ∀ j, j < zs.length → W.cell? (ad.add (j * 2)) = some (.int .i64 (zs[j]?.getD z32).f0) ∧ W.cell? ⟨(ad.add (j * 2)).block, (ad.add (j * 2)).off + 1, none⟩ = some (.int .i64 (zs[j]?.getD z32).f1)) (h0 : J [] W) :
    CallsIn F n Try.prog 45 #[.func (.yield l) #[] #[], .pointer (some ⟨Bs, 0, none⟩)] W fun e W' => (∃ v, e = .returned v) ∧
      ((∃ ys, ys = zs ∧ J ys W') ∨ (∃ pre, pre <+: zs ∧ Jx pre W')) := by
  have hu32 := Try.underlying32
  refine callsIn_of_wp Try.func45 rfl h7 ?_ hro
  simp only [Try.ntmps45, List.size_toArray, List.length_cons, List.length_nil, Nat.reduceAdd, Nat.reduceSub, Array.replicate_succ, Array.replicate_zero, List.push_toArray, List.append_toArray, List.nil_append, List.cons_append]
  gi_wp2
  gi_loopw [7] (fun i wr => ∃ k : Nat, k ≤ zs.length ∧ i = .int .i64 k ∧ J (zs.take k) wr ∧ Below n₀ W wr)
    (fun i _ => zs.length - (intOf i).toNat)
  case atStart => exact ⟨0, Nat.zero_le _, rfl, h0, Below.refl _ _⟩
  case round =>
    obtain ⟨k, hk, rfl, hJs, hnx⟩ := hrel
    by_cases hlt : k < zs.length
    · have htk : zs.take k ++ [zs[k]] = zs.take (k + 1) := (List.take_succ_eq_append_getElem hlt).symm
      have hsz : n₀ ≤ wr.heap.size := Nat.le_trans hn0 hnx.size
      obtain ⟨c0, c1⟩ := hc k hlt
      have g0 : wr.cell? (ad.add (k * 2)) = some (.int .i64 zs[k].f0) := by rw [hnx.cell (p := ad.add (k * 2)) (by rw [padd_block]; exact hb), c0]; simp [hlt]
      have g1 : wr.cell? ⟨(ad.add (k * 2)).block, (ad.add (k * 2)).off + 1, none⟩ = some (.int .i64 zs[k].f1) := by rw [hnx.cell (p := ⟨(ad.add (k * 2)).block, (ad.add (k * 2)).off + 1, none⟩) (by show (ad.add (k * 2)).block < n₀; rw [padd_block]; exact hb), c1]; simp [hlt]
      obtain ⟨X, hX⟩ : ∃ X, X = wr.alloc (.cells #[.int .i64 zs[k].f0, .int .i64 zs[k].f1] 32) := ⟨_, rfl⟩
      have hJX : J (zs.take k) X := by rw [hX]; exact hJ _ _ _ hsz hJs
      have hnX : Below n₀ W X := by rw [hX]; exact hnx.alloc hsz _
      obtain ⟨fn, tmps, assign, body, hy, hR⟩ := hY _ zs[k] X hJX (by rw [List.length_take]; omega)
      rw [hX] at hy hR
      gi_wp2
      refine hR.mono ?_
      rintro e W3 (⟨rfl, hJ3, hk3⟩ | ⟨rfl, hJx3⟩)
      · gi_wp2
        go_roundw
        case rel => exact ⟨k + 1, by omega, by simp, by rw [← htk]; exact hJ3, hnX.trans (by rw [hX]; exact hk3)⟩
        case measure => simp [intOf]; omega
      · gi_wp2
        refine bodyPost_ret (results_none rfl _ _ _) rfl ?_
        exact ⟨⟨_, rfl⟩, .inr ⟨_, List.take_prefix (k + 1) zs, by rw [← htk]; exact hJx3⟩⟩
    · obtain rfl : k = zs.length := by omega
      gi_wp2
      go_end0
      exact ⟨⟨_, rfl⟩, .inl ⟨_, rfl, by rw [List.take_length] at hJs; exact hJs⟩⟩
end
section
attribute [local go_sem] Oper.semAt_some
open Go.Shelf Go.Sort
set_option maxRecDepth 100000 in
set_option maxHeartbeats 2000000 in
theorem pValues1_nil_in (F : Fence) (n : Nat) (h7 : F.fn 45) (hro : F.round = none) (l Bs cap : Nat) (a : Option Addr) (J : List S32 → World → Prop) (W : World) (hBs : W.cell? ⟨Bs, 0, none⟩ = some (.slice a 0 cap)) (h0 : J [] W) :
    CallsIn F n Try.prog 45 #[.func (.yield l) #[] #[], .pointer (some ⟨Bs, 0, none⟩)] W fun e W' => (∃ v, e = .returned v) ∧ J [] W' := by
  refine callsIn_of_wp Try.func45 rfl h7 ?_ hro
  simp only [Try.ntmps45, List.size_toArray, List.length_cons, List.length_nil, Nat.reduceAdd, Nat.reduceSub, Array.replicate_succ, Array.replicate_zero, List.push_toArray, List.append_toArray, List.nil_append, List.cons_append]
  gi_wp2
  gi_loopw [7] (fun i wr => i = .int .i64 0 ∧ J [] wr) (fun _ _ => 0)
  case atStart => exact ⟨rfl, h0⟩
  case round =>
    obtain ⟨rfl, hJs⟩ := hrel
    gi_wp2
    go_end0
    exact ⟨⟨_, rfl⟩, hJs⟩
set_option maxHeartbeats 1000000 in
theorem pValues_in (F : Fence) (n : Nat) (h5 : F.fn 30) (hro : F.round = none) (a : Option Addr) (len cap : Nat) (w : World) :
    CallsIn F n Try.prog 30 #[.slice a len cap] w fun e w' => e = .returned (.func (.func 45) #[] #[.pointer (some ⟨w.heap.size, 0, none⟩)]) ∧ w' = w.alloc (.cells #[.slice a len cap] 23) := by
  refine callsIn_of_wp Try.func30 rfl h5 ?_ hro
  simp only [Try.ntmps30, List.size_toArray, List.length_cons, List.length_nil, Nat.reduceAdd, Nat.reduceSub, Array.replicate_succ, Array.replicate_zero, List.push_toArray, List.append_toArray, List.nil_append, List.cons_append]
  gi_wp2
  go_ret
  exact ⟨rfl, rfl⟩
theorem pValues_stops (F : Fence) (n : Nat) (h7 : F.fn 45) (hro : F.round = none) (hn : 1 ≤ n) (Bs n₀ cap : Nat) (a : Option Addr) (zs : List S32) (hreach : zs.length * 16 ≤ 140737488351232) (w : World) (hBs : Bs < w.heap.size) (hn₀ : n₀ ≤ w.heap.size)
    (hc : w.cell? ⟨Bs, 0, none⟩ = some (.slice a zs.length cap)) (hI : ∀ j, j < zs.length → ∃ ad, a = some ad ∧ ad.block < n₀ ∧ w.cell? (ad.add (j * 2)) = some (.int .i64 (zs[j]?.getD z32).f0) ∧ w.cell? ⟨(ad.add (j * 2)).block, (ad.add (j * 2)).off + 1, none⟩ = some (.int .i64 (zs[j]?.getD z32).f1)) :
    SeqStopsK F n Try.prog 45 #[.pointer (some ⟨Bs, 0, none⟩)] (fun x : S32 => #[Value.agg #[.int .i64 x.f0, .int .i64 x.f1]]) (Below n₀) (fun ys => ys = zs) (fun pre => pre <+: zs) zs.length w := fun l J Jx W hW hJA _ hY h0 => by
  have hc' := (hW.cell (p := ⟨Bs, 0, none⟩) hBs).trans hc
  by_cases h : zs = []
  · subst h
    exact (pValues1_nil_in F n h7 hro l Bs cap a J W hc' h0).mono fun e W' ⟨he, hj⟩ => ⟨he, .inl ⟨_, rfl, hj⟩⟩
  · obtain ⟨ad, rfl, hb, _⟩ := hI 0 (List.length_pos_iff.mpr h)
    refine pValues1_in F n h7 hro hn l Bs n₀ cap ad zs hreach hb J Jx hY (fun pre W2 o hs hj => ?_) W (Nat.le_trans hn₀ hW.size) hc' (fun j hj => ?_) h0
    · exact hJA pre W2 (W2.alloc o) none hj (World.grownBy_alloc W2 o none) (fun r e => by cases e)
    · obtain ⟨ad', e, _, h2, h3⟩ := hI j hj
      cases e
      exact ⟨((hW.mono hn₀).cell (p := ad.add (j * 2)) (by rw [padd_block]; exact hb)).trans h2, ((hW.mono hn₀).cell (p := ⟨(ad.add (j * 2)).block, (ad.add (j * 2)).off + 1, none⟩) (by show (ad.add (j * 2)).block < n₀; rw [padd_block]; exact hb)).trans h3⟩
end
theorem pinfo32 : (Try.prog.info? 32).map (fun i => (i.zero, i.size, i.bytes)) = some (some (.agg #[.int .i64 0, .int .i64 0]), 2, 16) := by kernel_rfl
/-- a pair's own block -/
def AxP (x : S32) (a' : Act) (l0 : Value) (gf : Nat) (lb : Array Value) (B0 : Nat) (W : World) : Prop :=
  ∃ B, a' = { tmps := #[.slice none 0 0, .func (.func gf) #[] lb, .pointer (some ⟨B0, 0, none⟩), undef, .slice none 0 0, .pointer (some ⟨B, 0, none⟩), .func (.func gf) #[] lb, .agg #[.int .i64 x.f0, .int .i64 x.f1], undef, undef, undef, undef, undef], defers := [] } ∧ W.heap[B]? = some (.cells #[.int .i64 x.f0, .int .i64 x.f1] 32 (0, 0))
section
attribute [local go_sem] Oper.semAt_some
open Go.Shelf Go.Sort
set_option maxRecDepth 100000 in
set_option maxHeartbeats 4000000 in
/-- slices.AppendSeq(nil, seq) of pairs -/
theorem pAppendSeq_in (F : Fence) (n : Nat) (h86 : F.fn 52) (hro : F.round = none) (hn : 3 ≤ n) (gf : Nat) (lb : Array Value) (hF : F.fn gf) (eg : ∀ args w, (callFunc gf args).run Try.prog w = .ok (.enter gf args) w) (zs : List S32) (hlen : zs.length ≤ maxLen) (hbytes : zs.length * 16 ≤ 140737488355328) (w : World)
    (hseq : SeqStopsK F (n - 1) Try.prog gf lb (fun x : S32 => #[Value.agg #[.int .i64 x.f0, .int .i64 x.f1]]) (Below w.heap.size) (fun ys => ys = zs) (fun pre => pre <+: zs) zs.length (w.alloc (.cells #[.slice none 0 0] 23))) :
    CallsIn F n Try.prog 52 #[.slice none 0 0, .func (.func gf) #[] lb] w fun e W' => ∃ v, e = .returned v ∧ W'.ownsRow w.heap.size 32 2 v zs.length (flatP zs) ∧ (v = .slice none 0 0 ↔ zs = []) ∧ Below w.heap.size w W' := by
  have hu32 := Try.underlying32
  have h1 : 1 ≤ n := by omega
  obtain ⟨i0, hi, hz0, hz1, hz2⟩ := info_parts pinfo32
  refine callsIn_of_wp_marks Try.func52 rfl h86 ?_ hro
  simp only [Try.ntmps52, List.size_toArray, List.length_cons, List.length_nil, Nat.reduceAdd, Nat.reduceSub, Array.replicate_succ, Array.replicate_zero, List.push_toArray, List.append_toArray, List.nil_append, List.cons_append]
  gi_wp2
  have bO := Boxed.new w 23 (.slice none 0 0)
  have hB0 : Below w.heap.size w (w.alloc (.cells #[.slice none 0 0] 23)) := (Below.refl _ w).alloc (Nat.le_refl _) _
  refine wpIn_rangeFunc_ownH hro h1 (gf := gf) (lb := lb) rfl hF eg hseq (fun h k => belowK_t h k) (belowK_b (by simp)) (Below.refl _ _) (fun _ => rfl)
    (fun pre W => (∃ v, Boxed W w.heap.size 23 v ∧ W.ownsRow w.heap.size 32 2 v pre.length (flatP pre) ∧ (v = .slice none 0 0 ↔ pre = [])) ∧ Below w.heap.size w W)
    (fun _ _ _ => False)
    (OwnFrom.and (Own.from (holdsRow_own w.heap.size w.heap.size 23 32 2 (fun pre : List S32 => pre.length) (fun pre => flatP pre) (fun pre v => v = .slice none 0 0 ↔ pre = [])) _) (ownFrom_below (Nat.le_refl _) (by simp)))
    (fun _ _ _ _ _ hs _ _ => hs)
    ⟨⟨_, bO, World.ownsRow_nil _ _ _ _, by simp⟩, hB0⟩
    (fun x a' W => AxP x a' (.slice none 0 0) gf lb w.heap.size W) ?hAx ?assign ?body ?done ?stop
  case hAx =>
    rintro x a' _ W W' row ⟨B, e, hB⟩ hg hr
    refine ⟨B, e, ?_⟩
    have hlt : B < W.heap.size := (Array.getElem?_eq_some_iff.1 hB).1
    refine (hg.block B hlt (fun e2 => ?_)).trans hB
    obtain ⟨_, o, ho, hc⟩ := hr B e2.symm
    rw [hB] at ho; cases ho; cases hc
  case assign =>
    intro l pre x W K hI hK
    gi_wp2
    obtain ⟨⟨v, hv, hrow, hnil⟩, hB⟩ := hI
    exact hK _ _ ((KeepsOthers.alloc W _).from _) ((Below.refl _ W).alloc hB.size _) ⟨⟨v, hv.alloc _, hrow.alloc _, hnil⟩, hB.alloc hB.size _⟩ ⟨W.heap.size, rfl, World.alloc_heap_new W _⟩
  case body =>
    rintro l pre x a' W hl hloop ⟨⟨v, hv, hrow, hnil⟩, hB⟩ ⟨B, rfl, hBx⟩ hlt
    have hc := hv.cell
    have hx0 : W.cell? ⟨B, 0, none⟩ = some (.int .i64 x.f0) := by simp [World.cell?, hBx]
    have hx1 : W.cell? ⟨B, 1, none⟩ = some (.int .i64 x.f1) := by simp [World.cell?, hBx]
    gi_wp2_with (gi_at_builtin; refine wpListIn_append_own _ rfl _ _ 23 rfl w.heap.size 32 i0 (.agg #[.int .i64 0, .int .i64 0]) 2 16 Try.underlying23 hi hz0 hz1 hz2 rfl (by decide) _ _ _ rfl (hrow.alloc _) ⟨W.heap.size, 0, none⟩ 1 1 [.int .i64 x.f0, .int .i64 x.f1] rfl rfl (cells_two_new _ _ _ _) (by simp [Value.oneCell']) (by omega) (by omega) (by have := hB.size; simp; omega) ?_; intro v' w1 hown' hgrow _; obtain ⟨g', cap', rfl⟩ := ownsRow_succ hown'; obtain ⟨hv1, hv2, hr2, hk2, hb2⟩ := hv.appended (by decide) hrow hB.size (Nat.le_refl _) hown' hgrow; have hc1 := hv1.cell; have hf1 := hv1.frozen)
    exact ⟨hk2.from _, hb2, ⟨_, hv2, by rw [flatP_snoc, List.length_append, List.length_singleton]; exact hr2, by simp⟩, hB.trans hb2⟩
  case done =>
    rintro D ys W hD rfl ⟨⟨v, hv, hrow, hnil⟩, hB⟩ hK
    have hc := hv.cell
    gi_wp2
    refine ⟨by simp, .inl ⟨_, _, rfl, run_takeDeferred hK, ?_⟩⟩
    exact ⟨_, results_tmp rfl _ _ _, v, rfl, ownsRow_putObj hrow _ hK rfl, hnil, hB.trans (belowK_b (w := w) (Nat.le_refl _) W D _ _ (by simp at hD; omega) hK rfl rfl)⟩
  case stop =>
    rintro D c pre W _ _ h _
    exact h.elim
end
section
attribute [local go_sem] Oper.semAt_some
open Go.Shelf Go.Sort
set_option maxRecDepth 100000 in
set_option maxHeartbeats 2000000 in
theorem pCollect_in (F : Fence) (n : Nat) (h60 : F.fn 43) (h86 : F.fn 52) (hro : F.round = none) (hn : 4 ≤ n) (gf : Nat) (lb : Array Value) (hF : F.fn gf) (eg : ∀ args w, (callFunc gf args).run Try.prog w = .ok (.enter gf args) w) (zs : List S32) (hlen : zs.length ≤ maxLen) (hbytes : zs.length * 16 ≤ 140737488355328) (w : World)
    (hseq : SeqStopsK F (n - 1 - 1) Try.prog gf lb (fun x : S32 => #[Value.agg #[.int .i64 x.f0, .int .i64 x.f1]]) (Below w.heap.size) (fun ys => ys = zs) (fun pre => pre <+: zs) zs.length (w.alloc (.cells #[.slice none 0 0] 23))) :
    CallsIn F n Try.prog 43 #[.func (.func gf) #[] lb] w fun e W' => ∃ v, e = .returned v ∧ W'.ownsRow w.heap.size 32 2 v zs.length (flatP zs) ∧ (v = .slice none 0 0 ↔ zs = []) ∧ Below w.heap.size w W' := by
  have h1 : 1 ≤ n := by omega
  refine callsIn_of_wp Try.func43 rfl h60 ?_ hro
  simp only [Try.ntmps43, List.size_toArray, List.length_cons, List.length_nil, Nat.reduceAdd, Nat.reduceSub, Array.replicate_succ, Array.replicate_zero, List.push_toArray, List.append_toArray, List.nil_append, List.cons_append]
  gi_wp2_with (gi_at_call 52; refine (pAppendSeq_in F (n - 1) h86 hro (by omega) gf lb hF eg zs hlen hbytes _ hseq).mono ?_; rintro e W ⟨v, rfl, ho, hn2, hb⟩)
  go_ret
  exact ⟨v, rfl, ho, hn2, hb⟩
end
/-! ### Pairs sorted by their first number (at most twelve) -/
section
open Go.Shelf Go.Sort
instance : Inhabited S32 := ⟨z32⟩
def pcf (x y : S32) : Int := wrap64 (x.f0 - y.f0)
def isortP (l : List S32) : List S32 := (Go.Sort.insertionSort (ltOf pcf) l.toArray 0 l.toArray.size).toList
theorem flatP_get : ∀ (xs : List S32) (t : Nat), t < xs.length * 2 → (flatP xs)[t]? = some ((encP (xs.getD (t / 2) z32))[t % 2]!)
  | [], t, h => absurd h (by simp)
  | x :: xs, 0, _ => rfl
  | x :: xs, 1, _ => rfl
  | x :: xs, t + 2, h => by
    have h' : t < xs.length * 2 := by rw [List.length_cons] at h; omega
    have e1 : (t + 2) / 2 = t / 2 + 1 := by omega
    have e2 : (t + 2) % 2 = t % 2 := by omega
    rw [flatP_cons, e1, e2]
    exact flatP_get xs t h'
theorem flatK_flatP (d : Array S32) : (flatK encP 2 d).toList = flatP d.toList := by
  apply List.ext_getElem?
  intro t
  by_cases h : t < d.size * 2
  · have hs : t < (flatK encP 2 d).size := by rw [size_flatK]; exact h
    have hd : t / 2 < d.size := by omega
    rw [Array.getElem?_toList, Array.getElem?_eq_getElem hs, flatP_get d.toList t (by simpa using h)]
    congr 1
    have := get_flatK encP 2 d t h
    rw [getElem!_pos _ t hs] at this
    rw [this, getElem!_pos d (t / 2) hd]
    simp [List.getD_eq_getElem?_getD, hd]
  · rw [List.getElem?_eq_none (by rw [Array.length_toList, size_flatK]; omega), List.getElem?_eq_none (by rw [flatP_len]; simpa using h)]
theorem holds_v {w : World} {g : Nat} {cur : Array Value} {e : TypeId} {d : Array Value} (hb : w.heap[g]? = some (.cells cur e (0, 0))) (ht : cur.toList.take d.size = d.toList) : Holds id w g 0 d := by
  intro j hj
  refine ⟨?_, by simp [World.frozen?, hb]⟩
  have h1 : (cur.toList.take d.size)[j]? = d.toList[j]? := by rw [ht]
  rw [List.getElem?_take_of_lt hj] at h1
  simp only [World.cell?, hb, Nat.zero_add]
  simp only [Option.isSome_none, Bool.false_eq_true, if_false]
  rw [← Array.getElem?_toList, h1]
  simp [hj]
theorem heap_sorted_v {w : World} {g n : Nat} {os : Array Obj} {cur : Array Value} {e : TypeId} {fr : Nat × Nat} (d : Array Value) (hb : w.heap[g]? = some (.cells cur e fr)) :
    (grow (putRow id (Go.Sort.ahead w n) g 0 d) os).heap[g]? = some (.cells (putCells id 0 d cur) e fr) := by
  have hg : g < w.heap.size := (Array.getElem?_eq_some_iff.1 hb).1
  rw [heap_grow_old _ _ (by simpa using hg)]
  simp [putRow, mapBlock, Go.Sort.ahead, Array.getElem?_modify, hb, onCells]
theorem grownBy_sorted_v {w : World} {g n : Nat} {os : Array Obj} (d : Array Value) : w.grownBy (grow (putRow id (Go.Sort.ahead w n) g 0 d) os) (some g) := by
  refine ⟨rfl, rfl, rfl, by simp, fun k hk hne => ?_⟩
  rw [heap_grow_old _ _ (by simpa using hk)]
  have : g ≠ k := fun e => hne (by rw [e])
  simp [putRow, mapBlock, Go.Sort.ahead, Array.getElem?_modify, this]
theorem take_putCells_v (cur d : Array Value) (h : d.size ≤ cur.size) : (putCells id 0 d cur).toList.take d.size = d.toList := by
  apply List.ext_getElem?
  intro j
  by_cases hj : j < d.size
  · rw [List.getElem?_take_of_lt hj, Array.getElem?_toList]
    simp [putCells, hj, show j < cur.size by omega]
  · rw [List.getElem?_take_eq_none (by omega), List.getElem?_eq_none (by simp; omega)]
theorem ownsRow_sorted_v {w : World} {base g cap n m size : Nat} {e : TypeId} {os : Array Obj} {cur : Array Value} (d : Array Value) (hd : d.size = m * size) (hbase : base ≤ g) (hb : w.heap[g]? = some (.cells cur e (0, 0)))
    (h1 : m ≤ cap) (h2 : cap ≤ maxLen) (h3 : cur.size = cap * size) :
    (grow (putRow id (Go.Sort.ahead w n) g 0 d) os).ownsRow base e size (.slice (some ⟨g, 0, none⟩) m cap) m d.toList :=
  ⟨by simp [hd], .inr ⟨g, cap, _, rfl, hbase, heap_sorted_v _ hb, h1, h2, by simp [putCells, h3], by rw [← hd]; exact take_putCells_v cur d (by rw [hd, h3]; exact Nat.mul_le_mul_right _ h1)⟩⟩
end
section
open Go.Shelf Go.Sort
set_option maxHeartbeats 1000000 in
/-- the literal that compares -/
theorem pCmp (x y : S32) (W : World) : Calls Try.prog 31 #[.agg #[.int .i64 x.f0, .int .i64 x.f1], .agg #[.int .i64 y.f0, .int .i64 y.f1]] W fun e w' => e = .returned (.int .i64 (pcf x y)) ∧ ∃ q os', w' = grow (W.drewN q) os' := by
  have hu32 := Try.underlying32
  go_enter Try.func31, Try.ntmps31
  go_wp2
  go_ret
  exact ⟨rfl, 0, _, by rw [alloc_eq_grow, alloc_eq_grow, grow_grow]; rfl⟩
theorem pLen (n : Nat) (W : World) (h : n ≤ 12) : Calls Try.prog 54 #[.int .u64 n] W fun e w' => (∃ l : Int, e = .returned (.int .i64 l)) ∧ w' = W :=
  (Try.bits_Len n W (by omega) (by omega)).mono fun _ _ ⟨he, hw⟩ => ⟨⟨_, he⟩, hw⟩
theorem pSortFunc (g cap : Nat) (d : Array S32) (w : World) (hH : HoldsK encP 2 w g 0 d) (hblk : g < w.heap.size) (h12 : d.size ≤ 12) :
    Calls Try.prog 44 #[.slice (some ⟨g, 0, none⟩) d.size cap, .func (.func 31) #[] #[]] w fun e w' => e = .returned (.tuple #[]) ∧ ∃ n os, w' = grow (putRow id (Go.Sort.ahead w n) g 0 (flatK encP 2 (Go.Sort.insertionSort (ltOf pcf) d 0 d.size))) os :=
  AnyQ.slices_SortFunc_small Try.sortSpan 2 Try.isAgg32 Try.sizeOf32 encP (fun _ => rfl) (fun x v hv => by simp [encP] at hv; rcases hv with rfl | rfl <;> rfl) pcf 31 #[] g 0 cap d w (enters_of Try.func31 (by kernel_rfl) rfl) (fun _ _ _ _ x y => pCmp x y _) hH hblk h12 (fun n W h => pLen n W h)
end
section
open Go.Shelf Go.Sort
theorem insInner_size (lt : S32 → S32 → Bool) (a : Nat) : ∀ (j : Nat) (d : Array S32), (insInner lt a j d).size = d.size
  | 0, d => rfl
  | j + 1, d => by
    unfold insInner
    split
    · rw [insInner_size lt a j, show (swp d (j + 1) j).size = d.size by simp [swp]]
    · rfl
theorem insOuter_size (lt : S32 → S32 → Bool) (a b : Nat) : ∀ (n i : Nat) (d : Array S32), b - i = n → (insOuter lt a b i d).size = d.size
  | 0, i, d, h => by
    unfold insOuter
    rw [if_neg (by omega)]
  | n + 1, i, d, h => by
    unfold insOuter
    split
    · rw [insOuter_size lt a b n (i + 1) _ (by omega), insInner_size]
    · rfl
theorem isortP_len (l : List S32) : (isortP l).length = l.length := by
  unfold isortP Go.Sort.insertionSort
  rw [Array.length_toList, insOuter_size _ _ _ _ _ _ rfl]
  exact List.size_toArray
set_option maxRecDepth 100000 in
set_option maxHeartbeats 4000000 in
theorem pSorted (gf : Nat) (lb : Array Value) (eg : ∀ args w, (callFunc gf args).run Try.prog w = .ok (.enter gf args) w) (zs : List S32) (h12 : zs.length ≤ 12) (w : World)
    (hseq : ∀ n, 1 ≤ n → SeqStopsK Fence.wide n Try.prog gf lb (fun x : S32 => #[Value.agg #[.int .i64 x.f0, .int .i64 x.f1]]) (Below w.heap.size) (fun ys => ys = zs) (fun pre => pre <+: zs) zs.length (w.alloc (.cells #[.slice none 0 0] 23))) :
    Calls Try.prog 29 #[.func (.func gf) #[] lb, .func (.func 31) #[] #[]] w fun e W' => ∃ v, e = .returned v ∧ W'.ownsRow w.heap.size 32 2 v (isortP zs).length (flatP (isortP zs)) ∧ Below w.heap.size w W' := by
  have cC : Calls Try.prog 43 #[.func (.func gf) #[] lb] w fun e W' => ∃ v, e = .returned v ∧ W'.ownsRow w.heap.size 32 2 v zs.length (flatP zs) ∧ (v = .slice none 0 0 ↔ zs = []) ∧ Below w.heap.size w W' :=
    callsIn_wide.1 (pCollect_in Fence.wide 6 trivial trivial rfl (by omega) gf lb trivial eg zs (by have : maxLen = 9223372036854775807 := rfl; omega) (by omega) w (hseq _ (by omega)))
  have hlen := isortP_len zs
  by_cases hz : zs = []
  · have HZ := Aside0.mk hz
    have HL := Aside0.mk hlen
    clear hz hlen
    have cN : ∀ W : World, Calls Try.prog 44 #[.slice none 0 0, .func (.func 31) #[] #[]] W fun e w' => e = .returned (.tuple #[]) ∧ w' = W := fun W => AnyF.slices_SortFunc_none Try.sortSpan none 0 (.func (.func 31) #[] #[]) W
    go_enter Try.func29, Try.ntmps29
    go_wp2_with (first
      | (go_at_call 43; (refine cC.mono ?_; rintro e w1 ⟨v, rfl, ho, hn, hb⟩; obtain rfl := hn.2 HZ.out; have HO1 := Aside0.mk ho; have HB1 := Aside0.mk hb; clear ho hb hn))
      | (go_at_call 44; refine (cN _).mono ?_; rintro e w2 ⟨rfl, rfl⟩))
    go_ret
    have h0 : isortP zs = [] := List.eq_nil_of_length_eq_zero (by rw [HL.out, HZ.out]; rfl)
    rw [h0]
    exact ⟨_, rfl, World.ownsRow_nil _ _ _ _, HB1.out⟩
  · have HZ := Aside0.mk hz
    have HL := Aside0.mk hlen
    have H12 := Aside0.mk h12
    clear hz hlen h12
    go_enter Try.func29, Try.ntmps29
    go_wp2_with (first
      | (go_at_call 43; (refine cC.mono ?_; rintro e w1 ⟨v, rfl, ho, hn, hb⟩; obtain ⟨gb, cap, cur, rfl, hbase, hgb, r1, r2, r3, r4⟩ := ho.2.resolve_left (fun hh => HZ.out (hn.1 hh.1)); have cS : Calls Try.prog 44 #[.slice (some ⟨gb, 0, none⟩) zs.length cap, .func (.func 31) #[] #[]] w1 fun e w' => e = .returned (.tuple #[]) ∧ ∃ n os, w' = grow (putRow id (Go.Sort.ahead w1 n) gb 0 (flatK encP 2 (Go.Sort.insertionSort (ltOf pcf) zs.toArray 0 zs.toArray.size))) os := pSortFunc gb cap zs.toArray w1 (holds_v hgb (by rw [size_flatK, flatK_flatP]; exact r4)) (Array.getElem?_eq_some_iff.1 hgb).1 H12.out; have HB1 := Aside0.mk hb; have HG := Aside0.mk hgb; have HBS := Aside0.mk hbase; have HR1 := Aside0.mk r1; have HR2 := Aside0.mk r2; have HR3 := Aside0.mk r3; clear ho hb hn hgb r4 r1 r2 r3 hbase))
      | (go_at_call 44; refine cS.mono ?_; rintro e w2 ⟨rfl, nn, os, rfl⟩))
    go_ret
    have hd : (flatK encP 2 (Go.Sort.insertionSort (ltOf pcf) zs.toArray 0 zs.toArray.size)).size = zs.length * 2 := by
      rw [size_flatK]
      have := HL.out
      unfold isortP at this
      rw [Array.length_toList] at this
      rw [this]
    have ho := ownsRow_sorted_v (w := w1) (n := nn) (os := os) (flatK encP 2 (Go.Sort.insertionSort (ltOf pcf) zs.toArray 0 zs.toArray.size)) hd HBS.out HG.out HR1.out HR2.out HR3.out
    rw [flatK_flatP] at ho
    rw [HL.out]
    exact ⟨_, rfl, ho, HB1.out.grown (grownBy_sorted_v _) HB1.out.size (fun j hj => by cases hj; exact HBS.out)⟩
end
/-! ### slices.SortedFunc(slices.Values(l), ..) -/
def xSortP.f (l0 : List S32) : Option (List S32) := if l0.length ≤ 12 then some (isortP l0) else none
theorem xSortP.vals (A0 : Option Addr) (n c0 : Nat) (w : World) : Calls Try.prog 30 #[.slice A0 n c0] w fun e w' => e = .returned (.func (.func 45) #[] #[.pointer (some ⟨w.heap.size, 0, none⟩)]) ∧ w' = w.alloc (.cells #[.slice A0 n c0] 23) :=
  callsIn_wide.1 (pValues_in Fence.wide 3 trivial rfl A0 n c0 w)
theorem xSortP.calls (A0 : Option Addr) (c0 : Nat) (l0 : List S32) (r : List S32) (w : World) (hr0 : Kd.C k32 w A0 l0.length l0) (hc0 : l0.length ≤ c0) (h : xSortP.f l0 = some r) :
    Calls Try.prog 29 #[.func (.func 45) #[] #[.pointer (some ⟨w.heap.size, 0, none⟩)], .func (.func 31) #[] #[]] (w.alloc (.cells #[.slice A0 l0.length c0] 23)) fun e w' => ∃ v0_ : Value, e = .returned v0_ ∧ Kd.R k32 32 w' w.heap.size (fun _ => True) v0_ r ∧ Below w.heap.size w w' := by
  unfold xSortP.f at h
  by_cases h12 : l0.length ≤ 12
  · rw [if_pos h12] at h
    obtain rfl := Option.some.inj h
    refine (pSorted 45 #[.pointer (some ⟨w.heap.size, 0, none⟩)] (enters_of Try.func45 (by kernel_rfl) rfl) l0 h12 (w.alloc (.cells #[.slice A0 l0.length c0] 23)) (fun n hn =>
      pValues_stops Fence.wide n trivial rfl hn w.heap.size (w.alloc (.cells #[.slice A0 l0.length c0] 23)).heap.size c0 A0 l0 (by omega) _ (by simp; omega) (by simp)
        ((Boxed.new w 23 (.slice A0 l0.length c0)).alloc _).cell (fun j hj => by
          obtain ⟨ad, e, hx0, hx1⟩ := at_T32 hr0 (j : Int) (by omega) (by omega)
          have hrd : rd_T32 l0 (j : Int) = l0[j]?.getD z32 := by unfold rd_T32; rw [Int.toNat_natCast, List.getD_eq_getElem?_getD]
          rw [hrd, Int.toNat_natCast] at hx0 hx1
          have hlt := pcell_lt hx0
          rw [padd_block] at hlt
          have hB : Below w.heap.size w ((w.alloc (.cells #[.slice A0 l0.length c0] 23)).alloc (.cells #[.slice none 0 0] 23)) := ((Below.refl _ w).alloc (Nat.le_refl _) _).alloc (by simp) _
          exact ⟨ad, e, by simp; omega, (hB.cell (p := ad.add (j * 2)) (by rw [padd_block]; exact hlt)).trans hx0, (hB.cell (p := ⟨(ad.add (j * 2)).block, (ad.add (j * 2)).off + 1, none⟩) (by show (ad.add (j * 2)).block < w.heap.size; rw [padd_block]; exact hlt)).trans hx1⟩))).mono ?_
    rintro e w' ⟨v, rfl, ho, hb⟩
    have hb2 : Below w.heap.size w w' := ((Below.refl _ w).alloc (Nat.le_refl _) _).trans (hb.mono (by simp))
    exact ⟨v, rfl, Kd.R_lower (R_of_flat ho (fun _ _ => trivial)) (by simp), hb2⟩
  · rw [if_neg h12] at h; cases h

end Go.Proofs.Ytjkpomphkfecmaa.PFnSpans
