-- Written by a program of this project (xprint.py) out of the translation; Lean checks it.
import Derived.Test.YtgpimekdfnpffaaPFnBeladyx0
import Derived.Test.YtgpimekdfnpffaaPFnBeladyx1
import Derived.Test.YtgpimekdfnpffaaPFnBeladyx3
namespace Go.Proofs.Ytgpimekdfnpffaa.PFnBelady
open Go.RowKit Go.Proofs.YtgpimekdfnpffaaW.PrintWords Go.Proofs.YtgpimekdfnpffaaW.PrintLast Go.Proofs.YtgpimekdfnpffaaW.PrintMore
attribute [local go_sem] max2_int min2_int max_two min_two max_three min_three max_four min_four   -- for this text's walks alone
set_option linter.unusedVariables false
set_option linter.unusedSimpArgs false

def Try.xIns_ren : Go.Shelf.Ren := ⟨fun | 21 => 76 | 27 => 84 | 28 => 85 | 35 => 90 | 39 => 101 | n => n, fun | 22 => 23 | 3 => 3 | 4 => 4 | 0 => 0 | n => n, fun | n => n⟩
theorem Try.xIns_lays : Go.Proofs.Lays2.n21 Try.prog Try.xIns_ren := {
  mixed := by kernel_rfl
  f21 := Try.func76.trans (congrArg some (by kernel_rfl))
  f27 := Try.func84.trans (congrArg some (by kernel_rfl))
  f28 := Try.func85.trans (congrArg some (by kernel_rfl))
  f35 := Try.func90.trans (congrArg some (by kernel_rfl))
  f39 := Try.func101.trans (congrArg some (by kernel_rfl))
  t0 := Try.underlying0
  a0 := Try.isAgg0
  z0 := Try.sizeOf0
  v0 := Try.zeroValue0
  t3 := Try.underlying3
  a3 := Try.isAgg3
  z3 := Try.sizeOf3
  v3 := Try.zeroValue3
  t4 := Try.underlying4
  a4 := Try.isAgg4
  z4 := Try.sizeOf4
  v4 := Try.zeroValue4
  t22 := Try.underlying23
  a22 := Try.isAgg23
  z22 := Try.sizeOf23
  v22 := Try.zeroValue23
  i3 := by kernel_rfl }
theorem xR_row {w : World} {base g cap e : Nat} {cur : Array Value} {ys : List Int} (hb : base ≤ g) (hg : w.heap[g]? = some (.cells cur e (0, 0))) (hn : ys.length ≤ cap) (hm : cap ≤ maxLen) (hs : cur.size = cap) (ht : cur.toList.take ys.length = ys.map (Value.int .i64)) :
    Kd.R (Kd.int .i64) e w base (fun _ => True) (.slice (some ⟨g, 0, none⟩) ys.length cap) ys :=
  Kd.R_of_own (h1 := fun _ => rfl) ⟨by rw [encs_length]; simp, .inr ⟨g, cap, cur, rfl, hb, hg, hn, hm, by rw [hs, Nat.mul_one], by rw [Nat.mul_one, ht]; rfl⟩⟩ (fun _ _ => trivial)
/-- a list with one element more, at a place -/
def insL (xs : List Int) (i : Nat) (x : Int) : List Int := xs.take i ++ x :: xs.drop i
theorem insL_length (xs : List Int) (i : Nat) (x : Int) (hi : i ≤ xs.length) : (insL xs i x).length = xs.length + 1 := by
  unfold insL; rw [List.length_append, List.length_cons, List.length_take, List.length_drop]; omega
theorem below_setCells {B : Nat} {w0 w : World} (h : Below B w0 w) {g : Nat} (hg : B ≤ g) (o : Nat) (vs : List Value) : Below B w0 (w.setCells g o vs) := by
  obtain ⟨a1, a2, a3, a4⟩ := setCells_same g vs o w
  exact ⟨a1.trans h.os, a2.trans h.tape, a3.trans h.output, by rw [a4]; exact h.size, fun k hk => (setCells_far _ o k (by omega)).trans (h.block k hk)⟩
set_option maxHeartbeats 4000000 in
/-- slices.Insert of one element into a row of the call's own -/
theorem xInsert1_i64 (w : World) (base : Nat) (v : Value) (xs : List Int) (i : Nat) (x : Int) (hi : i ≤ xs.length) (hlen : xs.length < 1000000) (hbase : base ≤ w.heap.size) (ho : Kd.R (Kd.int .i64) 3 w base (fun _ => True) v xs) :
    Calls Try.prog 76 #[v, .int .i64 i, .slice (some ⟨w.heap.size, 0, none⟩) 1 1] (w.alloc (.cells #[.int .i64 x] 3)) fun e w' => ∃ v0_ : Value, e = .returned (v0_) ∧ Kd.R (Kd.int .i64) 3 w' base (fun _ => True) v0_ (insL xs i x) ∧ Below base w w' := by
  have hm : (maxLen : Nat) = 9223372036854775807 := rfl
  have hB0 : Below base w (w.alloc (.cells #[.int .i64 x] 3)) := (Below.refl _ w).alloc hbase _
  have hvs : ∀ j v, ([Value.int .i64 x] : List Value)[j]? = some v → (w.alloc (.cells #[.int .i64 x] 3)).cell? ⟨w.heap.size, 0 + j, none⟩ = some v := by
    intro j v hj
    cases j with
    | zero => simp at hj; subst hj; simp
    | succ j => simp at hj
  have h1v : ∀ v ∈ ([Value.int .i64 x] : List Value), v.oneCell' = true := by
    intro v hv
    obtain rfl := List.mem_singleton.mp hv
    rfl
  have hown := Kd.own_of_R ho
  have hpl : ∀ ys : List Int, ∀ v ∈ ys.map (Value.int .i64), v.oneCell' = true := by
    intro ys v hv
    obtain ⟨y, _, rfl⟩ := List.mem_map.mp hv
    rfl
  obtain ⟨hl, hrow⟩ := hown
  rcases hrow with ⟨rfl, hn0⟩ | ⟨g, cap, cur, rfl, hb, hg, hnc, hcm, hcs, ht⟩
  · have hx : xs = [] := List.eq_nil_of_length_eq_zero hn0
    subst hx
    have hi0 : i = 0 := by simpa using hi
    subst hi0
    refine (Go.Proofs.Any2.slices_Insert_int_end_grow Try.xIns_lays none 0 0 w.heap.size 0 1 1 [] [.int .i64 x] _ (by omega) (by omega) (by omega) (by omega) rfl rfl (fun _ => rfl) (fun a ha => by cases ha) hvs h1v).mono ?_
    rintro e w' ⟨rfl, rfl⟩
    obtain ⟨gc, hgc⟩ : ∃ gc, gc = grownCap (w.alloc (.cells #[.int .i64 x] 3)) (0 + 1) 0 (Try.xIns_ren.t 3) := ⟨_, rfl⟩
    have g1 : 0 + 1 ≤ gc := by rw [hgc]; exact grownCap_ge _ _ _ _
    have g2 : gc ≤ maxLen := by rw [hgc]; exact grownCap_le_maxLen _ _ _ _ (by omega)
    rw [← hgc]
    refine ⟨_, rfl, ?_, ?_⟩
    · refine xR_row (ys := insL [] 0 x) (cur := (([] ++ [Value.int .i64 x]).toArray ++ Builtin.zeroCells (Value.int .i64 0).cells (gc - (0 + 1)))) (by simp; omega) (blk_new _ _) (by simp [insL]; omega) g2 ?_ ?_
      · rw [Array.size_append, size_zeroCells]; simp [Value.cells]; omega
      · simp [insL]
    · exact (hB0.drew).alloc (by simp; omega) _
  · have hg' : (w.alloc (.cells #[.int .i64 x] 3)).heap[g]? = some (.cells cur 3 (0, 0)) := (Below.heap_alloc w _ g (blk_lt hg)).trans hg
    have hgl : g < w.heap.size := blk_lt hg
    rw [Nat.mul_one] at ht hcs
    have ht2 : cur.toList.take xs.length = xs.map (Value.int .i64) := ht
    have hcell : ∀ j v, (xs.map (Value.int .i64))[j]? = some v → (w.alloc (.cells #[.int .i64 x] 3)).cell? ⟨g, 0 + j, none⟩ = some v := by
      intro j v hj
      have hj2 : j < xs.length := by have z := (List.getElem?_eq_some_iff.mp hj).1; simpa using z
      rw [← ht2, List.getElem?_take_of_lt hj2] at hj
      unfold World.cell?
      simp only [hg', Nat.zero_add]
      simpa using hj
    have hsome : ∀ j, j < cap → ((w.alloc (.cells #[.int .i64 x] 3)).cell? ⟨g, 0 + j, none⟩).isSome = true := by
      intro j hj
      unfold World.cell?
      simp only [hg', Nat.zero_add]
      rw [Array.getElem?_eq_getElem (by omega)]; rfl
    have hfr : ∀ j, (w.alloc (.cells #[.int .i64 x] 3)).frozen? ⟨g, j, none⟩ = false := by
      intro j
      unfold World.frozen?
      simp only [hg']
      simp
    have hsa : (w.alloc (.cells #[.int .i64 x] 3)).shape? w.heap.size = some (3, 1) := by
      unfold World.shape?
      rw [blk_new]; rfl
    have hsb : (w.alloc (.cells #[.int .i64 x] 3)).shape? g = some (3, cap) := by
      unfold World.shape?
      rw [hg', ← hcs]
    have hfa : ∀ j, (w.alloc (.cells #[.int .i64 x] 3)).frozen? ⟨w.heap.size, j, none⟩ = false := by
      intro j
      unfold World.frozen?
      simp only [blk_new]
      simp
    by_cases hin : i = xs.length
    · subst hin
      by_cases hroom : xs.length + 1 ≤ cap
      · refine (Go.Proofs.Any2.slices_Insert_int_end_room Try.xIns_lays g 0 xs.length cap w.heap.size 0 1 1 [.int .i64 x] _ (by omega) hroom (by omega) rfl (fun j hj => by have z := hsome (xs.length + j) (by omega); rw [← Nat.add_assoc] at z; exact z) (fun j hj => hfr _) hvs h1v).mono ?_
        rintro e w' ⟨rfl, rfl⟩
        obtain ⟨cur', h3, h4, h5⟩ := setCells_row [Value.int .i64 x] (0 + xs.length) _ cur hg' (by simp; omega)
        refine ⟨_, rfl, ?_, below_setCells hB0 hb _ _⟩
        have hl2 : (insL xs xs.length x).length = xs.length + 1 := insL_length xs _ x hi
        rw [← hl2]
        refine xR_row hb h3 (by omega) hcm (by rw [h4, hcs]) ?_
        rw [h5, hl2, Nat.zero_add, ht2]
        rw [List.take_append_of_le_length (by simp), List.take_of_length_le (by simp)]
        simp [insL]
      · have hcn : cap = xs.length := by omega
        refine (Go.Proofs.Any2.slices_Insert_int_end_grow Try.xIns_lays (some ⟨g, 0, none⟩) xs.length cap w.heap.size 0 1 1 (xs.map (Value.int .i64)) [.int .i64 x] _ (by omega) hnc (by omega) (by omega) (by simp) rfl (fun h => by cases h) (fun a ha j v hj => by cases ha; have z := hcell j v hj; rw [Addr.add_lit]; exact z) hvs h1v).mono ?_
        rintro e w' ⟨rfl, rfl⟩
        obtain ⟨gc, hgc⟩ : ∃ gc, gc = grownCap (w.alloc (.cells #[.int .i64 x] 3)) (xs.length + 1) cap (Try.xIns_ren.t 3) := ⟨_, rfl⟩
        have g1 : xs.length + 1 ≤ gc := by rw [hgc]; exact grownCap_ge _ _ _ _
        have g2 : gc ≤ maxLen := by rw [hgc]; exact grownCap_le_maxLen _ _ _ _ (by omega)
        rw [← hgc]
        have hl2 : (insL xs xs.length x).length = xs.length + 1 := insL_length xs _ x hi
        refine ⟨_, rfl, ?_, (hB0.drew).alloc (by simp; omega) _⟩
        rw [← hl2]
        refine xR_row (cur := ((xs.map (Value.int .i64) ++ [Value.int .i64 x]).toArray ++ Builtin.zeroCells (Value.int .i64 0).cells (gc - (insL xs xs.length x).length))) (by simp; omega) (blk_new _ _) (by omega) g2 ?_ ?_
        · rw [Array.size_append, size_zeroCells]; simp [Value.cells]; omega
        · rw [Array.toList_append, List.take_append_of_le_length (by simp [hl2]), List.take_of_length_le (by simp [hl2])]
          simp [insL]
    · have hlt : i < xs.length := by omega
      have hl2 : (insL xs i x).length = xs.length + 1 := insL_length xs i x hi
      by_cases hroom : xs.length + 1 ≤ cap
      · refine (Go.Proofs.Any2.slices_Insert_int_shift Try.xIns_lays g 0 xs.length cap i w.heap.size 0 1 1 (xs.map (Value.int .i64)) [.int .i64 x] _ hlt (by omega) hroom (by omega) (by omega) (by simp) rfl hcell (fun j hj => hsome j (by omega)) (fun j _ => hfr _) hvs (hpl xs) h1v 3 3 1 cap hsa hsb (by omega) (hfa _) (hfa _)).mono ?_
        rintro e w' ⟨rfl, rfl⟩
        have hgd : (w.alloc (.cells #[.int .i64 x] 3)).drew.heap[g]? = some (.cells cur 3 (0, 0)) := hg'
        obtain ⟨c1, h3, h4, h5⟩ := setCells_row ((xs.map (Value.int .i64)).drop i) (0 + (i + 1)) _ cur hgd (by simp; omega)
        obtain ⟨c2, h6, h7, h8⟩ := setCells_row [Value.int .i64 x] (0 + i) _ c1 h3 (by simp; omega)
        refine ⟨_, rfl, ?_, below_setCells (below_setCells hB0.drew hb _ _) hb _ _⟩
        rw [← hl2]
        refine xR_row hb h6 (by omega) hcm (by rw [h7, h4, hcs]) ?_
        rw [h8, h5, hl2]
        have e1 : (cur.toList.take (0 + (i + 1))).length = i + 1 := by rw [List.length_take, Array.length_toList]; omega
        have e2 : cur.toList.take i = (xs.map (Value.int .i64)).take i := by rw [← ht2, List.take_take]; congr 1; omega
        have e3 : (cur.toList.take (0 + (i + 1)) ++ (xs.map (Value.int .i64)).drop i ++ cur.toList.drop (0 + (i + 1) + ((xs.map (Value.int .i64)).drop i).length)).take (0 + i) = (xs.map (Value.int .i64)).take i := by
          rw [List.append_assoc, List.take_append_of_le_length (by omega), List.take_take, ← e2]; congr 1; omega
        have e4 : (cur.toList.take (0 + (i + 1)) ++ (xs.map (Value.int .i64)).drop i ++ cur.toList.drop (0 + (i + 1) + ((xs.map (Value.int .i64)).drop i).length)).drop (0 + i + [Value.int .i64 x].length) = (xs.map (Value.int .i64)).drop i ++ cur.toList.drop (0 + (i + 1) + ((xs.map (Value.int .i64)).drop i).length) := by
          have e6 : 0 + i + [Value.int .i64 x].length = (cur.toList.take (0 + (i + 1))).length := by rw [e1, List.length_singleton]; omega
          rw [List.append_assoc, e6, List.drop_left]
        rw [e3, e4, ← List.append_assoc]
        have e5 : ((xs.map (Value.int .i64)).take i ++ [Value.int .i64 x] ++ (xs.map (Value.int .i64)).drop i).length = xs.length + 1 := by simp; omega
        rw [List.take_append_of_le_length (by rw [e5]; exact Nat.le_refl _), List.take_of_length_le (by rw [e5]; exact Nat.le_refl _)]
        unfold insL
        rw [List.map_append, List.map_cons, List.map_take, List.map_drop]
        simp
      · refine (Go.Proofs.Any2.slices_Insert_int_grow Try.xIns_lays g 0 xs.length cap i w.heap.size 0 1 1 (xs.map (Value.int .i64)) [.int .i64 x] _ hlt (by omega) hnc (by omega) (by omega) (by simp) rfl hcell hvs (hpl xs) h1v).mono ?_
        rintro e w' ⟨rfl, rfl⟩
        obtain ⟨gc, hgc⟩ : ∃ gc, gc = grownCap (w.alloc (.cells #[.int .i64 x] 3)) (xs.length + 1) cap (Try.xIns_ren.t 3) := ⟨_, rfl⟩
        have g1 : xs.length + 1 ≤ gc := by rw [hgc]; exact grownCap_ge _ _ _ _
        have g2 : gc ≤ maxLen := by rw [hgc]; exact grownCap_le_maxLen _ _ _ _ (by omega)
        rw [← hgc]
        obtain ⟨cur, hcur⟩ : ∃ cur : Array Value, cur = (((xs.map (Value.int .i64)).take i).toArray ++ Builtin.zeroCells (Value.int .i64 0).cells (xs.length + 1 - i) ++ Builtin.zeroCells (Value.int .i64 0).cells (gc - (xs.length + 1))) := ⟨_, rfl⟩
        have hcz : cur.size = gc := by rw [hcur, Array.size_append, Array.size_append, size_zeroCells, size_zeroCells]; simp [Value.cells]; omega
        have hct : cur.toList.take i = (xs.map (Value.int .i64)).take i := by
          rw [hcur, Array.toList_append, Array.toList_append, List.append_assoc, List.take_append_of_le_length (by simp; omega), List.take_of_length_le (by simp; omega)]
        rw [← hcur]
        have hnew : (((w.alloc (.cells #[.int .i64 x] 3)).alloc (.cells cur (Try.xIns_ren.t 3))).drew).heap[(w.alloc (.cells #[.int .i64 x] 3)).heap.size]? = some (.cells cur 3 (0, 0)) := blk_new _ _
        obtain ⟨c1, h3, h4, h5⟩ := setCells_row [Value.int .i64 x] i _ cur hnew (by simp; omega)
        have h3' : ((((w.alloc (.cells #[.int .i64 x] 3)).alloc (.cells cur (Try.xIns_ren.t 3))).drew.setCells (w.alloc (.cells #[.int .i64 x] 3)).heap.size i [Value.int .i64 x]).drew).heap[(w.alloc (.cells #[.int .i64 x] 3)).heap.size]? = some (.cells c1 3 (0, 0)) := h3
        obtain ⟨c2, h6, h7, h8⟩ := setCells_row ((xs.map (Value.int .i64)).drop i) (i + 1) _ c1 h3' (by simp; omega)
        have hbn : base ≤ (w.alloc (.cells #[.int .i64 x] 3)).heap.size := by simp; omega
        refine ⟨_, rfl, ?_, below_setCells (below_setCells (hB0.alloc hbn _).drew hbn _ _).drew hbn _ _⟩
        rw [← hl2]
        refine xR_row hbn h6 (by omega) g2 (by rw [h7, h4, hcz]) ?_
        have e1 : c1.toList.take (i + 1) = (xs.map (Value.int .i64)).take i ++ [Value.int .i64 x] := by
          rw [h5, hct, List.take_append_of_le_length (by simp; omega), List.take_of_length_le (by simp; omega)]
        rw [h8, e1, hl2]
        have e5 : ((xs.map (Value.int .i64)).take i ++ [Value.int .i64 x] ++ (xs.map (Value.int .i64)).drop i).length = xs.length + 1 := by simp; omega
        rw [List.take_append_of_le_length (by rw [e5]; exact Nat.le_refl _), List.take_of_length_le (by rw [e5]; exact Nat.le_refl _)]
        unfold insL
        rw [List.map_append, List.map_cons, List.map_take, List.map_drop]
        simp
/-- references played, where a rule (which may remember) tells what goes -/
def playO {σ : Type} (k : Nat) (goes : σ → Int → List Int → Option (Int × σ)) (size : Int) : List Int → Int → List Int → Int → σ → Option (List Int × Int)
  | [], _, pages, hits, _ => some (pages, hits)
  | p :: ps, i, pages, hits, s =>
    (slices_BinarySearch_int_int.f k pages p).bind fun r => if r.2 = true then playO k goes size ps (i + 1) pages (wrap64 (hits + 1)) s
      else if size = 0 then playO k goes size ps (i + 1) pages hits s
      else if (pages.length : Int) = size then
        (goes s (wrap64 (i + 1)) pages).bind fun q => if 0 ≤ q.1 ∧ q.1 < (pages.length : Int) ∧ pages.length < 900000 then
          (slices_BinarySearch_int_int.f k (pages.eraseIdx q.1.toNat) p).bind fun r2 => if 0 ≤ r2.1 ∧ r2.1 ≤ ((pages.eraseIdx q.1.toNat).length : Int) then
            playO k goes size ps (i + 1) (insL (pages.eraseIdx q.1.toNat) r2.1.toNat p) hits q.2 else none
        else none
      else if 0 ≤ r.1 ∧ r.1 ≤ (pages.length : Int) ∧ pages.length < 900000 then playO k goes size ps (i + 1) (insL pages r.1.toNat p) hits s else none
theorem playO_at {σ : Type} (k : Nat) (goes : σ → Int → List Int → Option (Int × σ)) (size : Int) (l : List Int) (n : Nat) (h : n < l.length) (pages : List Int) (hits : Int) (s : σ) :
    playO k goes size (l.drop n) (n : Int) pages hits s = (slices_BinarySearch_int_int.f k pages l[n]).bind fun r => if r.2 = true then playO k goes size (l.drop (n + 1)) ((n + 1 : Nat) : Int) pages (wrap64 (hits + 1)) s
      else if size = 0 then playO k goes size (l.drop (n + 1)) ((n + 1 : Nat) : Int) pages hits s
      else if (pages.length : Int) = size then
        (goes s (wrap64 ((n : Int) + 1)) pages).bind fun q => if 0 ≤ q.1 ∧ q.1 < (pages.length : Int) ∧ pages.length < 900000 then
          (slices_BinarySearch_int_int.f k (pages.eraseIdx q.1.toNat) l[n]).bind fun r2 => if 0 ≤ r2.1 ∧ r2.1 ≤ ((pages.eraseIdx q.1.toNat).length : Int) then
            playO k goes size (l.drop (n + 1)) ((n + 1 : Nat) : Int) (insL (pages.eraseIdx q.1.toNat) r2.1.toNat l[n]) hits q.2 else none
        else none
      else if 0 ≤ r.1 ∧ r.1 ≤ (pages.length : Int) ∧ pages.length < 900000 then playO k goes size (l.drop (n + 1)) ((n + 1 : Nat) : Int) (insL pages r.1.toNat l[n]) hits s else none := by
  rw [List.drop_eq_getElem_cons h]; rfl
theorem playO_mono {σ : Type} (k : Nat) (g1 g2 : σ → Int → List Int → Option (Int × σ)) (hg : ∀ s n p, LeO (g1 s n p) (g2 s n p)) (size : Int) (l : List Int) : ∀ (i : Int) (pages : List Int) (hits : Int) (s : σ), LeO (playO k g1 size l i pages hits s) (playO (k + 1) g2 size l i pages hits s) := by
  induction l with
  | nil => intro i pages hits s; exact LeO.refl _
  | cons p ps ih =>
    intro i pages hits s
    unfold playO
    exact LeO.bind (slices_BinarySearch_int_int.mono _ _ _) (fun _ => LeO.ite (ih _ _ _ _) (LeO.ite (ih _ _ _ _) (LeO.ite (LeO.bind (hg _ _ _) (fun _ => LeO.ite (LeO.bind (slices_BinarySearch_int_int.mono _ _ _) (fun _ => LeO.ite (ih _ _ _ _) (LeO.none _))) (LeO.none _))) (LeO.ite (ih _ _ _ _) (LeO.none _)))))
/-- what a function that a row outlives may do: blocks from B on stay -/
theorem xR_goes {w W w' : World} {v : Value} {xs : List Int} {B : Nat} (h : Kd.R (Kd.int .i64) 3 W B (fun _ => True) v xs) (hk : ∀ q, B ≤ q → q < W.heap.size → w'.heap[q]? = W.heap[q]?) : Kd.R (Kd.int .i64) 3 w' B (fun _ => True) v xs :=
  Kd.R_mono (Kd.R_step (Kd.R_bound h) (fun q hq hlt => hk q hq.2.1 hlt)) (fun _ _ => trivial)
set_option maxHeartbeats 16000000 in
set_option maxRecDepth 100000 in
theorem xplayBy {σ : Type} (k : Nat) (goes : σ → Int → List Int → Option (Int × σ)) (g : Nat) (lb : Array Value) (eg : ∀ args w, (callFunc g args).run Try.prog w = .ok (.enter g args) w) (Inv : σ → World → Prop)
    (wp w : World) (hBp : Below wp.heap.size wp w) (A0 : Option Addr) (c0 : Nat) (l : List Int) (hr0 : Kd.C (Kd.int .i64) wp A0 l.length l) (hc0 : l.length ≤ c0) (size : Int) (s : σ)
    (hinv : ∀ (W W' : World) (s : σ), Inv s W → (∀ q, q < w.heap.size → W'.heap[q]? = W.heap[q]?) → Inv s W') (hI : Inv s w)
    (hg : ∀ (W : World) (s : σ) (next : Int) (pages : List Int) (A : Option Addr) (c : Nat) (r : Int) (s' : σ), Below wp.heap.size wp W → w.heap.size ≤ W.heap.size → Inv s W → Kd.C (Kd.int .i64) W A pages.length pages → pages.length ≤ c → goes s next pages = some (r, s') →
      Calls Try.prog g (#[.int .i64 next, .slice A pages.length c] ++ lb) W fun e w' => e = .returned (.int .i64 r) ∧ Below wp.heap.size wp w' ∧ W.heap.size ≤ w'.heap.size ∧ (∀ q, w.heap.size ≤ q → q < W.heap.size → w'.heap[q]? = W.heap[q]?) ∧ Inv s' w')
    (hl : l.length < 900000) (ps : List Int) (hh : Int) (h : playO k goes size l 0 [] 0 s = some (ps, hh)) (hps : ps.length < 900000) :
    Calls Try.prog 56 #[.slice A0 l.length c0, .int .i64 size, .func (.func g) #[] lb] w fun e w' => ∃ v0_ : Value, e = .returned (.tuple #[v0_, .int .i64 hh]) ∧ Kd.R (Kd.int .i64) 3 w' w.heap.size (fun _ => True) v0_ ps ∧ Below wp.heap.size wp w' := by
  have HR0 := Aside0.mk hr0
  have HC0 := Aside0.mk hc0
  have HG := Aside0.mk hg
  have HV := Aside0.mk hinv
  have HI := Aside0.mk hI
  have HBP := Aside0.mk hBp
  have HL := Aside0.mk hl
  have HPS := Aside0.mk hps
  have HH : Aside0 (playO k goes size (l.drop 0) ((0 : Nat) : Int) [] 0 s = some (ps, hh)) := ⟨h⟩
  have HZ : Aside0 (wp.heap.size ≤ w.heap.size) := ⟨hBp.size⟩
  clear hr0 hc0 hg hinv hI hBp hl hps h
  go_enter Try.func56, Try.ntmps56
  go_wp2
  go_loopg [8, 9, 17] l.length (fun gg s8 s9 s17 wr => ∃ (kk : Nat) (v : Value) (pages : List Int) (hits : Int) (st : σ), kk ≤ l.length ∧ l.length - kk ≤ gg ∧ s17 = .int .i64 kk ∧ v = s8 ∧ s9 = .int .i64 hits ∧ Aside0 (Below wp.heap.size wp wr) ∧ Aside0 (w.heap.size ≤ wr.heap.size) ∧ Aside0 (Kd.R (Kd.int .i64) 3 wr w.heap.size (fun _ => True) v pages) ∧ Aside0 (Inv st wr) ∧ Aside0 (playO k goes size (l.drop kk) (kk : Int) pages hits st = some (ps, hh)))
  case atStart => exact ⟨0, .slice none 0 0, [], 0, s, Nat.zero_le _, by omega, rfl, rfl, rfl, HBP, ⟨Nat.le_refl _⟩, ⟨Kd.R_nil _ _ _ _ _⟩, HI, HH⟩
  case round =>
    clear HH HI HBP
    obtain ⟨kk, v, pages, hits, st, hkk, hgk, rfl, rfl, rfl, HB, HSZ, HO, HI, HP⟩ := hrel
    obtain ⟨Av, cv, ev⟩ := Kd.R_slice HO.out
    subst ev
    by_cases hlt : kk < l.length
    · have hltz : (kk : Int) < (l.length : Int) := by omega
      obtain ⟨ad, he, hy0⟩ := Kd.at_int (Kd.C_below HR0.out HB.out) (kk : Int) (by omega) hltz
      have hrd : rd l (kk : Int) = l[kk] := by unfold rd; simp [List.getD_eq_getElem?_getD, hlt]
      rw [hrd, Int.toNat_natCast] at hy0
      subst he
      have H := HP.out
      rw [playO_at k goes size l kk hlt] at H
      clear HP hrd
      generalize l[kk] = p at *
      obtain ⟨⟨at_, th⟩, hbs, H⟩ := Option.bind_eq_some_iff.mp H
      have HBS := Aside0.mk hbs
      clear hbs
      have HW : Aside0 (wrap64 ((kk : Int) + 1) = ((kk + 1 : Nat) : Int)) := ⟨by have := HL.out; unfold wrap64; omega⟩
      cases th with
      | true =>
        have H' : Aside0 (playO k goes size (l.drop (kk + 1)) ((kk + 1 : Nat) : Int) pages (wrap64 (hits + 1)) st = some (ps, hh)) := ⟨by rw [if_pos rfl] at H; exact H⟩
        clear H
        go_wp2_with (go_at_call 75; (with_reducible refine (slices_BinarySearch_int_int.calls k Av cv pages p at_ true _ ?s1 ?s2 HBS.out).mono ?_); (case s1 => exact (Kd.R_reads' HO.out).2.2); (case s2 => exact (Kd.R_reads' HO.out).2.1); rintro e w' ⟨rfl, ⟨nd, rfl⟩⟩)
        have hw := HW.out
        go_roundg (l.length - (kk + 1))
        case measure => omega
        case rel => exact ⟨kk + 1, _, pages, _, st, by omega, by omega, by first | (rw [hw]; done) | (simp [hw]; done) | go_num, rfl, rfl, ⟨pw_below_drewN HB.out nd⟩, ⟨HSZ.out⟩, ⟨Kd.R_drewN HO.out nd⟩, ⟨HV.out _ _ _ HI.out (fun _ _ => rfl)⟩, H'⟩
      | false =>
        simp only [Bool.false_eq_true, if_false] at H
        by_cases hs0 : size = 0
        · have H' : Aside0 (playO k goes size (l.drop (kk + 1)) ((kk + 1 : Nat) : Int) pages hits st = some (ps, hh)) := ⟨by rw [if_pos hs0] at H; exact H⟩
          have hs0b : (size == 0) = true := by simp [hs0]
          clear H hs0
          go_wp2_with (go_at_call 75; (with_reducible refine (slices_BinarySearch_int_int.calls k Av cv pages p at_ false _ ?s3 ?s4 HBS.out).mono ?_); (case s3 => exact (Kd.R_reads' HO.out).2.2); (case s4 => exact (Kd.R_reads' HO.out).2.1); rintro e w' ⟨rfl, ⟨nd, rfl⟩⟩)
          have hw := HW.out
          go_roundg (l.length - (kk + 1))
          case measure => omega
          case rel => exact ⟨kk + 1, _, pages, _, st, by omega, by omega, by first | (rw [hw]; done) | (simp [hw]; done) | go_num, rfl, rfl, ⟨pw_below_drewN HB.out nd⟩, ⟨HSZ.out⟩, ⟨Kd.R_drewN HO.out nd⟩, ⟨HV.out _ _ _ HI.out (fun _ _ => rfl)⟩, H'⟩
        · rw [if_neg hs0] at H
          have hs0b : (size == 0) = false := by simp [hs0]
          by_cases hq : (pages.length : Int) = size
          · rw [if_pos hq] at H
            have hqb : ((pages.length : Int) == size) = true := by simp [hq]
            obtain ⟨⟨r, st2⟩, hgo, H⟩ := Option.bind_eq_some_iff.mp H
            by_cases hr : 0 ≤ r ∧ r < (pages.length : Int) ∧ pages.length < 900000
            · rw [if_pos hr] at H
              obtain ⟨hr1, hr2, hr3⟩ := hr
              obtain ⟨rn, rfl⟩ := Int.eq_ofNat_of_zero_le hr1
              simp only [Int.toNat_natCast] at H
              obtain ⟨⟨an, th2⟩, hbs2, H⟩ := Option.bind_eq_some_iff.mp H
              have hrl : (pages.eraseIdx rn).length = pages.length - 1 := List.length_eraseIdx_of_lt (by omega)
              by_cases ha : 0 ≤ an ∧ an ≤ ((pages.eraseIdx rn).length : Int)
              · rw [if_pos ha] at H
                obtain ⟨ha1, ha2⟩ := ha
                obtain ⟨a2, rfl⟩ := Int.eq_ofNat_of_zero_le ha1
                simp only [Int.toNat_natCast] at H
                have H' := Aside0.mk H
                have HGO := Aside0.mk hgo
                have HBS2 := Aside0.mk hbs2
                have HRN := Aside0.mk (show rn < pages.length by omega)
                have HA2 := Aside0.mk (show a2 ≤ (pages.eraseIdx rn).length by omega)
                have HRL := Aside0.mk (show (pages.eraseIdx rn).length < 900000 by omega)
                have hrw : wrap64 ((rn : Int) + 1) = (rn : Int) + 1 := by unfold wrap64; omega
                clear H hgo hbs2 hr1 hr2 hr3 hrl ha1 ha2
                go_wp2_with (first
                  | (go_at_call 75; (with_reducible refine (slices_BinarySearch_int_int.calls k Av cv pages p at_ false _ ?s5 ?s6 HBS.out).mono ?_); (case s5 => exact (Kd.R_reads' HO.out).2.2); (case s6 => exact (Kd.R_reads' HO.out).2.1); rintro e w' ⟨rfl, ⟨nd, rfl⟩⟩)
                  | (go_at_fn g; refine (HG.out _ st _ pages Av cv (rn : Int) st2 (pw_below_drewN HB.out nd) HSZ.out (HV.out _ _ _ HI.out (fun _ _ => rfl)) (Kd.C_drewN (Kd.R_reads' HO.out).2.2 nd) (Kd.R_reads' HO.out).2.1 HGO.out).mono ?_; rintro e w2 ⟨rfl, hb2, hz2, hk2, hi2⟩; have HB2 := Aside0.mk hb2; have HZ2 : Aside0 (w.heap.size ≤ w2.heap.size) := ⟨Nat.le_trans HSZ.out hz2⟩; have HI2 := Aside0.mk hi2; have HO2 := Aside0.mk (xR_goes (w := w) (Kd.R_drewN HO.out nd) hk2); clear hb2 hz2 hk2 hi2)
                  | (go_at_call 73; refine (xDelete1_i64 _ _ w.heap.size (.slice Av pages.length cv) pages rn HRN.out (Below.refl _ _) HO2.out).mono ?_; rintro e w3 ⟨v3, rfl, ho3, hb3⟩; obtain ⟨A3, c3, e3⟩ := Kd.R_slice ho3; subst e3; have HO3 := Aside0.mk ho3; have HB3 := Aside0.mk hb3; clear ho3 hb3)
                  | (go_at_call 75; (with_reducible refine (slices_BinarySearch_int_int.calls k A3 c3 (pages.eraseIdx rn) p (a2 : Int) th2 _ ?s7 ?s8 HBS2.out).mono ?_); (case s7 => exact (Kd.R_reads' HO3.out).2.2); (case s8 => exact (Kd.R_reads' HO3.out).2.1); rintro e w' ⟨rfl, ⟨nd2, rfl⟩⟩)
                  | (go_at_call 76; refine (xInsert1_i64 (w3.drewN nd2) w.heap.size (.slice A3 (pages.eraseIdx rn).length c3) (pages.eraseIdx rn) a2 p HA2.out (by have := HRL.out; omega) (Nat.le_trans HZ2.out HB3.out.size) (Kd.R_drewN HO3.out nd2)).mono ?_; rintro e w4 ⟨v4, rfl, ho4, hb4⟩; have HO4 := Aside0.mk ho4; have HB4 := Aside0.mk hb4; clear ho4 hb4))
                have hw := HW.out
                go_roundg (l.length - (kk + 1))
                case measure => omega
                case rel =>
                  refine ⟨kk + 1, v4, insL (pages.eraseIdx rn) a2 p, _, st2, by omega, by omega, by first | (rw [hw]; done) | (simp [hw]; done) | go_num, rfl, rfl, ⟨?_⟩, ⟨?_⟩, HO4, ⟨?_⟩, H'⟩
                  · exact (HB2.out.trans (HB3.out.mono HZ.out)).trans ((pw_below_drewN (Below.refl _ _) nd2).trans (HB4.out.mono HZ.out))
                  · exact Nat.le_trans (Nat.le_trans HZ2.out HB3.out.size) HB4.out.size
                  · exact HV.out _ _ _ HI2.out (fun q hq => (HB4.out.block q hq).trans (HB3.out.block q hq))
              · rw [if_neg ha] at H; cases H
            · rw [if_neg hr] at H; cases H
          · rw [if_neg hq] at H
            have hqb : ((pages.length : Int) == size) = false := by simp [hq]
            by_cases ha : 0 ≤ at_ ∧ at_ ≤ (pages.length : Int) ∧ pages.length < 900000
            · rw [if_pos ha] at H
              obtain ⟨ha1, ha2, ha3⟩ := ha
              obtain ⟨a2, rfl⟩ := Int.eq_ofNat_of_zero_le ha1
              simp only [Int.toNat_natCast] at H
              have H' := Aside0.mk H
              have HA2 := Aside0.mk (show a2 ≤ pages.length by omega)
              have HRL := Aside0.mk ha3
              clear H ha1 ha2 ha3
              go_wp2_with (first
                | (go_at_call 75; (with_reducible refine (slices_BinarySearch_int_int.calls k Av cv pages p (a2 : Int) false _ ?s9 ?s10 HBS.out).mono ?_); (case s9 => exact (Kd.R_reads' HO.out).2.2); (case s10 => exact (Kd.R_reads' HO.out).2.1); rintro e w' ⟨rfl, ⟨nd, rfl⟩⟩)
                | (go_at_call 76; refine (xInsert1_i64 (wr.drewN nd) w.heap.size (.slice Av pages.length cv) pages a2 p HA2.out (by have := HRL.out; omega) HSZ.out (Kd.R_drewN HO.out nd)).mono ?_; rintro e w4 ⟨v4, rfl, ho4, hb4⟩; have HO4 := Aside0.mk ho4; have HB4 := Aside0.mk hb4; clear ho4 hb4))
              have hw := HW.out
              go_roundg (l.length - (kk + 1))
              case measure => omega
              case rel =>
                refine ⟨kk + 1, v4, insL pages a2 p, _, st, by omega, by omega, by first | (rw [hw]; done) | (simp [hw]; done) | go_num, rfl, rfl, ⟨?_⟩, ⟨?_⟩, HO4, ⟨?_⟩, H'⟩
                · exact (pw_below_drewN HB.out nd).trans (HB4.out.mono HZ.out)
                · exact Nat.le_trans HSZ.out HB4.out.size
                · exact HV.out _ _ _ HI.out (fun q hq => HB4.out.block q hq)
            · rw [if_neg ha] at H; cases H
    · have hlt2 : ¬ (kk : Int) < (l.length : Int) := by omega
      have H := HP.out
      rw [List.drop_of_length_le (by omega)] at H
      unfold playO at H
      obtain ⟨rfl, rfl⟩ := Prod.mk.inj (Option.some.inj H)
      clear H HP
      go_wp2_with (go_at_call 65; refine (xClone_i64.calls Av cv pages _ (Kd.R_reads' HO.out).2.2 (Kd.R_reads' HO.out).2.1 (by have := HPS.out; omega)).mono ?_; rintro e w1 ⟨v1, rfl, ho, hb⟩; have HO1 := Aside0.mk ho; have HB1 := Aside0.mk hb; clear ho hb)
      go_ret2
      exact ⟨_, rfl, Kd.R_lower HO1.out HSZ.out, HB.out.trans (HB1.out.mono HB.out.size)⟩
/-! ### impl_PlayOpt: function 26 -/
/-- which of the pages is wanted last, from one place on -/
def optO (k : Nat) (l pages : List Int) (next : Int) : List Int → Int → Int → Option Int
  | [], _, best => some best
  | p :: ps, j, best => (impl_nextUse.f k l next p).bind fun a => if 0 ≤ best ∧ best < (pages.length : Int) then (impl_nextUse.f k l next (rd pages best)).bind fun b => optO k l pages next ps (j + 1) (if a > b then j else best) else none
theorem optO_at (k : Nat) (l pages : List Int) (next best : Int) (n : Nat) (h : n < pages.length) :
    optO k l pages next (pages.drop n) (n : Int) best = (impl_nextUse.f k l next pages[n]).bind fun a => if 0 ≤ best ∧ best < (pages.length : Int) then (impl_nextUse.f k l next (rd pages best)).bind fun b => optO k l pages next (pages.drop (n + 1)) ((n + 1 : Nat) : Int) (if a > b then (n : Int) else best) else none := by
  rw [List.drop_eq_getElem_cons h]; rfl
theorem optO_mono (k : Nat) (l pages : List Int) (next : Int) (ps : List Int) : ∀ j best, LeO (optO k l pages next ps j best) (optO (k + 1) l pages next ps j best) := by
  induction ps with
  | nil => intro j best; exact LeO.refl _
  | cons p ps ih =>
    intro j best
    unfold optO
    exact LeO.bind (impl_nextUse.mono _ _ _ _) (fun _ => LeO.ite (LeO.bind (impl_nextUse.mono _ _ _ _) (fun _ => ih _ _)) (LeO.none _))
def optG (k : Nat) (l : List Int) (_ : Unit) (next : Int) (pages : List Int) : Option (Int × Unit) := if pages.length < 900000 then (optO k l pages next pages 0 0).bind fun b => some (b, ()) else none
def impl_PlayOpt.f (k : Nat) (l0 : List Int) (a1 : Int) : Option (List Int × Int × Bool) :=
  (impl_GoodRefs.f l0).bind fun b1 => if b1 = true then ((impl_isSize.f a1).bind fun b2 => if b2 = true then
    ((playO k (optG k l0) a1 l0 0 [] 0 ()).bind fun q => if q.1.length < 900000 ∧ l0.length < 900000 then some (q.1, q.2, true) else none) else some ([], 0, false)) else some ([], 0, false)
theorem impl_PlayOpt.mono : ∀ a0 a1 k, LeO (impl_PlayOpt.f k a0 a1) (impl_PlayOpt.f (k + 1) a0 a1) := by
  intro a0 a1 k
  unfold impl_PlayOpt.f
  refine LeO.bind (LeO.refl _) (fun _ => LeO.ite (LeO.bind (LeO.refl _) (fun _ => LeO.ite (LeO.bind (playO_mono k _ _ (fun s n p => ?_) _ _ _ _ _ _) (fun _ => LeO.refl _)) (LeO.refl _))) (LeO.refl _))
  unfold optG
  exact LeO.ite (LeO.bind (optO_mono _ _ _ _ _ _ _) (fun _ => LeO.refl _)) (LeO.none _)
theorem xquiet {P : Program} {f : FuncId} {args : Array Value} {W : World} {nd x : Nat} {v : Value} (h : Calls P f args (W.drewN (nd + x)) fun e w' => e = .returned v ∧ Drawn0 (W.drewN (nd + x)) w') : Calls P f args (W.drewN (nd + x)) fun e w'' => e = .returned v ∧ ∃ n, w'' = W.drewN (nd + n) :=
  h.mono fun _ _ ⟨he, ⟨m, hm⟩⟩ => ⟨he, x + m, by rw [hm, World.drewN_drewN, Nat.add_assoc]⟩
set_option maxHeartbeats 8000000 in
set_option maxRecDepth 100000 in
/-- the literal: which page goes -/
theorem xOpt_lit (k : Nat) (l pages : List Int) (next r : Int) (gb : Nat) (A0 A : Option Addr) (c0 c : Nat) (W : World) (hcell : W.cell? ⟨gb, 0, none⟩ = some (.slice A0 l.length c0)) (hr0 : Kd.C (Kd.int .i64) W A0 l.length l) (hc0 : l.length ≤ c0)
    (hrp : Kd.C (Kd.int .i64) W A pages.length pages) (hcp : pages.length ≤ c) (hlen : pages.length < 900000) (h : optO k l pages next pages 0 0 = some r) :
    Calls Try.prog 57 #[.int .i64 next, .slice A pages.length c, .pointer (some ⟨gb, 0, none⟩)] W fun e w' => e = .returned (.int .i64 r) ∧ Drawn0 W w' := by
  have HR0 := Aside0.mk hr0
  have HC0 := Aside0.mk hc0
  have HRP := Aside0.mk hrp
  have HCP := Aside0.mk hcp
  have HL := Aside0.mk hlen
  have HCE := Aside0.mk hcell
  have HH : Aside0 (optO k l pages next (pages.drop 0) ((0 : Nat) : Int) 0 = some r) := ⟨h⟩
  clear hr0 hc0 hrp hcp hlen h hcell
  go_enter Try.func57, Try.ntmps57
  go_wp2
  go_loopg [6, 11] pages.length (fun gg s6 s11 wr => ∃ (kk : Nat) (best : Int), kk ≤ pages.length ∧ pages.length - kk ≤ gg ∧ s11 = .int .i64 kk ∧ s6 = .int .i64 best ∧ Drawn0 W wr ∧ Aside0 (optO k l pages next (pages.drop kk) (kk : Int) best = some r))
  case atStart => exact ⟨0, 0, Nat.zero_le _, by omega, rfl, rfl, Drawn0.refl _, HH⟩
  case round =>
    clear HH
    obtain ⟨kk, best, hkk, hgk, rfl, rfl, ⟨nd, rfl⟩, HP⟩ := hrel
    by_cases hlt : kk < pages.length
    · have hltz : (kk : Int) < (pages.length : Int) := by omega
      have H0 := HP.out
      rw [optO_at k l pages next best kk hlt] at H0
      clear HP
      obtain ⟨a, ha, H1⟩ := Option.bind_eq_some_iff.mp H0
      clear H0
      by_cases hb : 0 ≤ best ∧ best < (pages.length : Int)
      · rw [if_pos hb] at H1
        obtain ⟨hb1, hb2⟩ := hb
        obtain ⟨b, hbn, H2⟩ := Option.bind_eq_some_iff.mp H1
        clear H1
        obtain ⟨ad, he, hy0⟩ := Kd.at_int HRP.out (kk : Int) (by omega) hltz
        obtain ⟨ad2, he2, hu0⟩ := Kd.at_int HRP.out best hb1 hb2
        have hrd : rd pages (kk : Int) = pages[kk] := by unfold rd; simp [List.getD_eq_getElem?_getD, hlt]
        rw [hrd, Int.toNat_natCast] at hy0
        subst he
        obtain rfl := Option.some.inj he2
        obtain ⟨bn, rfl⟩ := Int.eq_ofNat_of_zero_le hb1
        rw [Int.toNat_natCast] at hu0
        generalize rd pages (bn : Int) = pb at *
        generalize pages[kk] = p at *
        have HA := Aside0.mk ha
        have HB := Aside0.mk hbn
        have hc : W.cell? ⟨gb, 0, none⟩ = some (.slice A0 l.length c0) := HCE.out
        clear ha hbn hrd hb1
        have HW : Aside0 (wrap64 ((kk : Int) + 1) = ((kk + 1 : Nat) : Int)) := ⟨by have := HL.out; unfold wrap64; omega⟩
        by_cases hgt : a > b
        · have H' : Aside0 (optO k l pages next (pages.drop (kk + 1)) ((kk + 1 : Nat) : Int) (kk : Int) = some r) := ⟨by rw [if_pos hgt] at H2; exact H2⟩
          clear H2
          go_wp2
          go_quiet (first
            | (go_at_call 58; with_reducible refine xquiet (impl_nextUse.calls k A0 c0 l next p a _ ?_ ?_ HA.out); (exact Kd.C_drewN HR0.out _); (exact HC0.out))
            | (go_at_call 58; with_reducible refine xquiet (impl_nextUse.calls k A0 c0 l next pb b _ ?_ ?_ HB.out); (exact Kd.C_drewN HR0.out _); (exact HC0.out)))
          go_wp2
          have hw := HW.out
          go_roundg (pages.length - (kk + 1))
          case measure => omega
          case rel => exact ⟨kk + 1, (kk : Int), by omega, by omega, by first | (rw [hw]; done) | (simp [hw]; done) | go_num, rfl, (by first | exact ⟨_, rfl⟩ | exact ⟨⟨_, rfl⟩⟩), H'⟩
        · have H' : Aside0 (optO k l pages next (pages.drop (kk + 1)) ((kk + 1 : Nat) : Int) (bn : Int) = some r) := ⟨by rw [if_neg hgt] at H2; exact H2⟩
          clear H2
          go_wp2
          go_quiet (first
            | (go_at_call 58; with_reducible refine xquiet (impl_nextUse.calls k A0 c0 l next p a _ ?_ ?_ HA.out); (exact Kd.C_drewN HR0.out _); (exact HC0.out))
            | (go_at_call 58; with_reducible refine xquiet (impl_nextUse.calls k A0 c0 l next pb b _ ?_ ?_ HB.out); (exact Kd.C_drewN HR0.out _); (exact HC0.out)))
          go_wp2
          have hw := HW.out
          go_roundg (pages.length - (kk + 1))
          case measure => omega
          case rel => exact ⟨kk + 1, (bn : Int), by omega, by omega, by first | (rw [hw]; done) | (simp [hw]; done) | go_num, rfl, (by first | exact ⟨_, rfl⟩ | exact ⟨⟨_, rfl⟩⟩), H'⟩
      · rw [if_neg hb] at H1; cases H1
    · have hlt2 : ¬ (kk : Int) < (pages.length : Int) := by omega
      have H := HP.out
      rw [List.drop_of_length_le (by omega)] at H
      unfold optO at H
      obtain rfl := Option.some.inj H
      clear H HP
      go_wp2
      go_ret
      exact ⟨rfl, ⟨_, rfl⟩⟩
set_option maxHeartbeats 8000000 in
set_option maxRecDepth 100000 in
theorem impl_PlayOpt.calls (k : Nat) (A0 : Option Addr) (c0 : Nat) (l0 : List Int) (a1 : Int) (r1 : List Int) (r2 : Int) (r3 : Bool) (w : World) (hr0 : Kd.C (Kd.int .i64) w A0 l0.length l0) (hc0 : l0.length ≤ c0) (h : impl_PlayOpt.f k l0 a1 = some (r1, r2, r3)) :
    Calls Try.prog 26 #[.slice A0 l0.length c0, .int .i64 a1] w fun e w' => ∃ v0_ : Value, e = .returned (.tuple #[v0_, .int .i64 r2, .bool r3]) ∧ Kd.R (Kd.int .i64) 3 w' w.heap.size (fun _ => True) v0_ r1 ∧ Below w.heap.size w w' := by
  have HR0 := Aside0.mk hr0
  have HC0 := Aside0.mk hc0
  clear hr0 hc0
  unfold impl_PlayOpt.f at h
  obtain ⟨b1, hb1, h1⟩ := Option.bind_eq_some_iff.mp h
  clear h
  have H1 := Aside0.mk hb1
  clear hb1
  have HW0 : Aside0 (Below w.heap.size w (w.alloc (.cells #[.slice A0 l0.length c0] 23))) := ⟨below_alloc (Below.refl _ w) _⟩
  have hbx : Boxed (w.alloc (.cells #[.slice A0 l0.length c0] 23)) w.heap.size 23 (.slice A0 l0.length c0) := Boxed.new w 23 (.slice A0 l0.length c0)
  have HBX := Aside0.mk hbx
  have hszw : w.heap.size < (w.alloc (.cells #[.slice A0 l0.length c0] 23)).heap.size := hbx.lt
  have HSW := Aside0.mk hszw
  clear hbx hszw
  cases b1 with
  | false =>
    rw [if_neg (by decide)] at h1
    obtain ⟨rfl, h2⟩ := Prod.mk.inj (Option.some.inj h1)
    obtain ⟨rfl, rfl⟩ := Prod.mk.inj h2
    clear h1 h2
    go_enter Try.func26, Try.ntmps26
    go_wp2_with (go_at_call 18; (with_reducible refine (impl_GoodRefs.calls A0 c0 l0 _ _ ?s1 ?s2 H1.out).mono ?_); (case s1 => exact Kd.C_below HR0.out HW0.out); (case s2 => exact HC0.out); rintro e w1 ⟨rfl, hb1⟩; have HB1 := Aside0.mk (below_step HW0.out hb1); clear hb1)
    go_ret3
    exact ⟨_, rfl, Kd.R_nil _ _ _ _ _, HB1.out⟩
  | true =>
    rw [if_pos rfl] at h1
    obtain ⟨b2, hb2, h2⟩ := Option.bind_eq_some_iff.mp h1
    clear h1
    have H2 := Aside0.mk hb2
    clear hb2
    cases b2 with
    | false =>
      rw [if_neg (by decide)] at h2
      obtain ⟨rfl, h3⟩ := Prod.mk.inj (Option.some.inj h2)
      obtain ⟨rfl, rfl⟩ := Prod.mk.inj h3
      clear h2 h3
      go_enter Try.func26, Try.ntmps26
      go_wp2_with (first
        | (go_at_call 18; (with_reducible refine (impl_GoodRefs.calls A0 c0 l0 _ _ ?s1 ?s2 H1.out).mono ?_); (case s1 => exact Kd.C_below HR0.out HW0.out); (case s2 => exact HC0.out); rintro e w1 ⟨rfl, hb1⟩; have HB1 := Aside0.mk (below_step HW0.out hb1); clear hb1)
        | (go_at_call 37; (with_reducible refine (impl_isSize.calls a1 _ _ H2.out).mono ?_); rintro e w' ⟨rfl, ⟨nd, rfl⟩⟩))
      go_ret3
      exact ⟨_, rfl, Kd.R_nil _ _ _ _ _, pw_below_drewN HB1.out nd⟩
    | true =>
      rw [if_pos rfl] at h2
      obtain ⟨⟨ps, hh⟩, hp, h3⟩ := Option.bind_eq_some_iff.mp h2
      clear h2
      by_cases hl : ps.length < 900000 ∧ l0.length < 900000
      · rw [if_pos hl] at h3
        obtain ⟨rfl, h4⟩ := Prod.mk.inj (Option.some.inj h3)
        obtain ⟨rfl, rfl⟩ := Prod.mk.inj h4
        obtain ⟨hl1, hl2⟩ := hl
        clear h3 h4
        have HP := Aside0.mk hp
        have HL1 := Aside0.mk hl1
        have HL2 := Aside0.mk hl2
        clear hp hl1 hl2
        have HCALL : Aside0 (∀ W : World, Below w.heap.size w W → W.cell? ⟨w.heap.size, 0, none⟩ = some (.slice A0 l0.length c0) → w.heap.size < W.heap.size → Calls Try.prog 56 #[.slice A0 l0.length c0, .int .i64 a1, .func (.func 57) #[] #[.pointer (some ⟨w.heap.size, 0, none⟩)]] W fun e w' => ∃ v0_ : Value, e = .returned (.tuple #[v0_, .int .i64 hh]) ∧ Kd.R (Kd.int .i64) 3 w' w.heap.size (fun _ => True) v0_ ps ∧ Below w.heap.size w w') := ⟨fun W hW hcl hsz => by
          refine (xplayBy k (optG k l0) 57 #[.pointer (some ⟨w.heap.size, 0, none⟩)] (enters_of Try.func57 (by kernel_rfl) rfl) (fun _ V => V.cell? ⟨w.heap.size, 0, none⟩ = some (.slice A0 l0.length c0)) w W hW A0 c0 l0 HR0.out HC0.out a1 () (fun V V' _ hv hq => (World.cell?_of_block (w := V) (w' := V') (a := ⟨w.heap.size, 0, none⟩) (hq _ hsz)).trans hv) hcl (fun V _ next pages A c r _ hb hz hi hrp hcp hgo => ?_) HL2.out ps hh HP.out HL1.out).mono fun e w' ⟨v, e1, e2, e3⟩ => ⟨v, e1, Kd.R_lower e2 hW.size, e3⟩
          unfold optG at hgo
          by_cases hpl : pages.length < 900000
          · rw [if_pos hpl] at hgo
            obtain ⟨b, hbo, hbe⟩ := Option.bind_eq_some_iff.mp hgo
            obtain ⟨rfl, _⟩ := Prod.mk.inj (Option.some.inj hbe)
            refine (xOpt_lit k l0 pages next b w.heap.size A0 A c0 c V hi (Kd.C_below HR0.out hb) HC0.out hrp hcp hpl hbo).mono ?_
            rintro e w' ⟨rfl, ⟨m, rfl⟩⟩
            exact ⟨rfl, pw_below_drewN hb m, Nat.le_refl _, fun _ _ _ => rfl, hi⟩
          · rw [if_neg hpl] at hgo; cases hgo⟩
        go_enter Try.func26, Try.ntmps26
        go_wp2_with (first
          | (go_at_call 18; (with_reducible refine (impl_GoodRefs.calls A0 c0 l0 _ _ ?s1 ?s2 H1.out).mono ?_); (case s1 => exact Kd.C_below HR0.out HW0.out); (case s2 => exact HC0.out); rintro e w1 ⟨rfl, hb1⟩; have HB1 := Aside0.mk (below_step HW0.out hb1); have hc1 : w1.cell? ⟨w.heap.size, 0, none⟩ = some (.slice A0 l0.length c0) := (hb1.cell (p := ⟨w.heap.size, 0, none⟩) HSW.out).trans HBX.out.cell; have HC1 := Aside0.mk hc1; have HS1 := Aside0.mk (Nat.lt_of_lt_of_le HSW.out hb1.size); clear hb1)
          | (go_at_call 37; (with_reducible refine (impl_isSize.calls a1 _ _ H2.out).mono ?_); rintro e w' ⟨rfl, ⟨nd, rfl⟩⟩)
          | (go_at_call 56; refine (HCALL.out (w1.drewN nd) (pw_below_drewN HB1.out nd) HC1.out HS1.out).mono ?_; rintro e w2 ⟨v2, rfl, ho2, hb2⟩; have HO2 := Aside0.mk ho2; have HB2 := Aside0.mk hb2; clear ho2 hb2))
        go_ret3
        exact ⟨_, rfl, HO2.out, HB2.out⟩
      · rw [if_neg hl] at h3; cases h3

/-! ### spec_l1In: function 40 -/
def spec_l1In.f (a0 : Int) (a1 : Int) (a2 : Int) : Option (Bool) := if a0 ≥ a1 then (some (decide (a0 ≤ a2))) else (some false)
set_option maxHeartbeats 8000000 in
set_option maxRecDepth 100000 in
theorem spec_l1In.calls (a0 : Int) (a1 : Int) (a2 : Int) (r : Bool) (w : World) (h : spec_l1In.f a0 a1 a2 = some r) :
    Calls Try.prog 40 #[.int .i64 a0, .int .i64 a1, .int .i64 a2] w fun e w' => e = .returned (.bool r) ∧ Drawn0 w w' := by
  have H : (if a0 ≥ a1 then (some (decide (a0 ≤ a2))) else (some false)) = some r := h
  clear h
  by_cases c4 : a0 ≥ a1
  · rw [if_pos c4] at H
    have c4b0 : decide (a1 ≤ a0) = true := decide_eq_true c4
    clear c4
    obtain rfl := Option.some.inj H
    go_enter Try.func40, Try.ntmps40
    go_wp2
    go_ret
    exact ⟨by first | rfl | (simp; done) | (simp [*]; done), by repeat (first | exact Drawn0.refl _ | apply Drawn0.step)⟩
  · rw [if_neg c4] at H
    have c4b0 : decide (a1 ≤ a0) = false := decide_eq_false c4
    clear c4
    obtain rfl := Option.some.inj H
    go_enter Try.func40, Try.ntmps40
    go_wp2
    go_ret
    exact ⟨by first | rfl | (simp; done) | (simp [*]; done), by repeat (first | exact Drawn0.refl _ | apply Drawn0.step)⟩

/-! ### spec_GoodRefs: function 39 -/
def spec_GoodRefs.l0 : Nat → List Int → List Int → Int → Int → Option (Bool)
  | 0, _, _, _, _ => none
  | k + 1, x0, x5, x6, x7 => if x7 < x6 then (if 0 ≤ x7 then (if x7 < (x5.length : Int) then ((spec_l1In.f (rd x5 x7) 0 99).bind fun t202 => (if t202 = true then (spec_GoodRefs.l0 k x0 x5 x6 (wrap64 (x7 + 1))) else (some false))) else (none)) else (none)) else (some (decide ((x0.length : Int) ≤ 200)))
def spec_GoodRefs.f (k : Nat) (l0 : List Int) : Option (Bool) := spec_GoodRefs.l0 k l0 l0 (l0.length : Int) 0
theorem spec_GoodRefs.mono_l : ∀ k, (∀ y0 y1 y2 y3, LeO (spec_GoodRefs.l0 k y0 y1 y2 y3) (spec_GoodRefs.l0 (k + 1) y0 y1 y2 y3))
  | 0 => fun _ _ _ _ r h => by simp [spec_GoodRefs.l0] at h
  | k + 1 => by
    have ih0 := spec_GoodRefs.mono_l k
    · intro y0 y1 y2 y3
      unfold spec_GoodRefs.l0
      repeat' first
      | (with_reducible exact ih0 _ _ _ _)
      | (with_reducible exact LeO.refl _)
      | (with_reducible exact LeO.none _)
      | (with_reducible refine LeO.ite ?_ ?_)
      | (with_reducible refine LeO.bind ?_ (fun _ => ?_))
      | exact ih0 _ _ _ _
      | exact LeO.none _
      | refine LeO.ite ?_ ?_
      | refine LeO.bind ?_ (fun _ => ?_)
theorem spec_GoodRefs.mono : ∀ a0 k, LeO (spec_GoodRefs.f k a0) (spec_GoodRefs.f (k + 1) a0) := by
  intro a0 k
  have ih0 := spec_GoodRefs.mono_l k
  unfold spec_GoodRefs.f
  repeat' first
      | (with_reducible exact ih0 _ _ _ _)
      | (with_reducible exact LeO.refl _)
      | (with_reducible exact LeO.none _)
      | (with_reducible refine LeO.ite ?_ ?_)
      | (with_reducible refine LeO.bind ?_ (fun _ => ?_))
      | exact ih0 _ _ _ _
      | exact LeO.none _
      | refine LeO.ite ?_ ?_
      | refine LeO.bind ?_ (fun _ => ?_)
set_option maxHeartbeats 8000000 in
set_option maxRecDepth 100000 in
theorem spec_GoodRefs.calls (k : Nat) (A0 : Option Addr) (c0 : Nat) (l0 : List Int) (r : Bool) (w : World) (hr0 : Kd.C (Kd.int .i64) w A0 l0.length l0) (hc0 : l0.length ≤ c0) (h : spec_GoodRefs.f k l0 = some r) :
    Calls Try.prog 39 #[.slice A0 l0.length c0] w fun e w' => e = .returned (.bool r) ∧ Drawn0 w w' := by
  have HR0 := Aside0.mk hr0
  have HC0 := Aside0.mk hc0
  clear hr0 hc0
  have H : (spec_GoodRefs.l0 k l0 l0 (l0.length : Int) 0) = some r := h
  clear h
  have H' := Aside0.mk H
  clear H
  go_enter Try.func39, Try.ntmps39
  go_wp2
  go_loopg [7] k (fun kq v7 w' => ∃ (x7_1 : Int), v7 = .int .i64 x7_1 ∧ Aside0 (spec_GoodRefs.l0 kq l0 l0 (l0.length : Int) x7_1 = some r) ∧ Aside0 (kq ≤ k) ∧ Drawn0 w w')
  case atStart => exact ⟨(0), (by first | rfl | (simp; done) | (simp [*]; done)), H', ⟨Nat.le_refl _⟩, by repeat (first | exact Drawn0.refl _ | apply Drawn0.step)⟩
  case round =>
    clear H'
    obtain ⟨x7_1, rfl, HA, HK1, ⟨m1, rfl⟩⟩ := hrel
    cases gk with
    | zero => exact absurd HA.out (by simp [spec_GoodRefs.l0])
    | succ k1 =>
      have H := HA.out
      clear HA
      simp only [spec_GoodRefs.l0] at H
      by_cases c2 : x7_1 < (l0.length : Int)
      · rw [if_pos c2] at H
        have c2b0 : decide (x7_1 < (l0.length : Int)) = true := decide_eq_true c2
        clear c2
        by_cases c3 : 0 ≤ x7_1
        · rw [if_pos c3] at H
          have c3b0 : decide (0 ≤ x7_1) = true := decide_eq_true c3
          clear c3
          by_cases c4 : x7_1 < (l0.length : Int)
          · rw [if_pos c4] at H
            have c4b0 : decide (x7_1 < (l0.length : Int)) = true := decide_eq_true c4
            clear c4
            replace H := Option.bind_eq_some_iff.mp H
            obtain ⟨t202, A50, H⟩ := H
            replace H : (if t202 = true then (spec_GoodRefs.l0 k1 l0 l0 (l0.length : Int) (wrap64 (x7_1 + 1))) else (some false)) = some r := H
            have A5 := Aside0.mk A50
            clear A50
            by_cases c6 : t202 = true
            · subst c6
              have H1 : (spec_GoodRefs.l0 k1 l0 l0 (l0.length : Int) (wrap64 (x7_1 + 1))) = some r := by rw [if_pos rfl] at H; exact H
              clear H
              have H := H1
              clear H1
              have H' := Aside0.mk H
              clear H
              have p201 : 0 ≤ (x7_1 : Int) := of_decide_eq_true (by first | (with_reducible assumption) | assumption)
              have q201 : x7_1 < (l0.length : Int) := of_decide_eq_true (by first | (with_reducible assumption) | assumption)
              obtain ⟨ad201, e201, hx201_0⟩ := Kd.at_int HR0.out x7_1 p201 q201
              cases e201
              replace p201 := eq_true p201
              replace q201 := eq_true q201
              go_wp2_with (first | ((with_reducible refine gate_callee (f := 40) rfl ?_); refine goesL_ (some 12) rfl rfl Try.func40 (by kernel_rfl) rfl #[.int .i64 (rd l0 x7_1), .int .i64 0, .int .i64 99] rfl (by (try simp only [List.map_toArray, List.map_cons, List.map_nil]); first | done | rfl | (simp only [List.length_drop, List.length_take]; rfl)) ?_; (with_reducible refine (spec_l1In.calls (rd l0 x7_1) 0 99 true _ A5.out).mono ?_); rintro e w' ⟨rfl, ⟨nd, rfl⟩⟩; refine ⟨_, rfl, ?_⟩))
              go_roundg k1
              case measure => have := HK1.out; omega
              case rel => exact ⟨(wrap64 (x7_1 + 1)), (by first | rfl | (simp; done) | (simp [*]; done)), H', ⟨by have := HK1.out; omega⟩, by repeat (first | exact Drawn0.refl _ | apply Drawn0.step)⟩
            · replace c6 := Bool.eq_false_iff.mpr c6
              subst c6
              have H1 : (some false) = some r := by rw [if_neg (show ¬ (false = true) by decide)] at H; exact H
              clear H
              have H := H1
              clear H1
              obtain rfl := Option.some.inj H
              have p201 : 0 ≤ (x7_1 : Int) := of_decide_eq_true (by first | (with_reducible assumption) | assumption)
              have q201 : x7_1 < (l0.length : Int) := of_decide_eq_true (by first | (with_reducible assumption) | assumption)
              obtain ⟨ad201, e201, hx201_0⟩ := Kd.at_int HR0.out x7_1 p201 q201
              cases e201
              replace p201 := eq_true p201
              replace q201 := eq_true q201
              go_wp2_with (first | ((with_reducible refine gate_callee (f := 40) rfl ?_); refine goesL_ (some 12) rfl rfl Try.func40 (by kernel_rfl) rfl #[.int .i64 (rd l0 x7_1), .int .i64 0, .int .i64 99] rfl (by (try simp only [List.map_toArray, List.map_cons, List.map_nil]); first | done | rfl | (simp only [List.length_drop, List.length_take]; rfl)) ?_; (with_reducible refine (spec_l1In.calls (rd l0 x7_1) 0 99 false _ A5.out).mono ?_); rintro e w' ⟨rfl, ⟨nd, rfl⟩⟩; refine ⟨_, rfl, ?_⟩))
              go_ret
              exact ⟨by first | rfl | (simp; done) | (simp [*]; done), by repeat (first | exact Drawn0.refl _ | apply Drawn0.step)⟩
          · rw [if_neg c4] at H
            exact absurd H (by simp)
        · rw [if_neg c3] at H
          exact absurd H (by simp)
      · rw [if_neg c2] at H
        have c2b0 : decide (x7_1 < (l0.length : Int)) = false := decide_eq_false c2
        clear c2
        obtain rfl := Option.some.inj H
        go_wp2
        go_ret
        exact ⟨by first | rfl | (simp; done) | (simp [*]; done), by repeat (first | exact Drawn0.refl _ | apply Drawn0.step)⟩

/-! ### spec_l11At: function 59 -/
def spec_l11At.l0 : Nat → List Int → Int → Int → Option (Int × Bool)
  | 0, _, _, _ => none
  | k + 1, x0, x1, x6 => if x6 < (x0.length : Int) then (if 0 ≤ x6 then (if (rd x0 x6) < x1 then (spec_l11At.l0 k x0 x1 (wrap64 (x6 + 1))) else (some (x6, ((rd x0 x6) == x1)))) else (none)) else (some (x6, false))
def spec_l11At.f (k : Nat) (l0 : List Int) (a1 : Int) : Option (Int × Bool) := spec_l11At.l0 k l0 a1 0
theorem spec_l11At.mono_l : ∀ k, (∀ y0 y1 y2, LeO (spec_l11At.l0 k y0 y1 y2) (spec_l11At.l0 (k + 1) y0 y1 y2))
  | 0 => fun _ _ _ r h => by simp [spec_l11At.l0] at h
  | k + 1 => by
    have ih0 := spec_l11At.mono_l k
    · intro y0 y1 y2
      unfold spec_l11At.l0
      repeat' first
      | (with_reducible exact ih0 _ _ _)
      | (with_reducible exact LeO.refl _)
      | (with_reducible exact LeO.none _)
      | (with_reducible refine LeO.ite ?_ ?_)
      | (with_reducible refine LeO.bind ?_ (fun _ => ?_))
      | exact ih0 _ _ _
      | exact LeO.none _
      | refine LeO.ite ?_ ?_
      | refine LeO.bind ?_ (fun _ => ?_)
theorem spec_l11At.mono : ∀ a0 a1 k, LeO (spec_l11At.f k a0 a1) (spec_l11At.f (k + 1) a0 a1) := by
  intro a0 a1 k
  have ih0 := spec_l11At.mono_l k
  unfold spec_l11At.f
  repeat' first
      | (with_reducible exact ih0 _ _ _)
      | (with_reducible exact LeO.refl _)
      | (with_reducible exact LeO.none _)
      | (with_reducible refine LeO.ite ?_ ?_)
      | (with_reducible refine LeO.bind ?_ (fun _ => ?_))
      | exact ih0 _ _ _
      | exact LeO.none _
      | refine LeO.ite ?_ ?_
      | refine LeO.bind ?_ (fun _ => ?_)
set_option maxHeartbeats 8000000 in
set_option maxRecDepth 100000 in
theorem spec_l11At.calls (k : Nat) (A0 : Option Addr) (c0 : Nat) (l0 : List Int) (a1 : Int) (r1 : Int) (r2 : Bool) (w : World) (hr0 : Kd.C (Kd.int .i64) w A0 l0.length l0) (hc0 : l0.length ≤ c0) (h : spec_l11At.f k l0 a1 = some (r1, r2)) :
    Calls Try.prog 59 #[.slice A0 l0.length c0, .int .i64 a1] w fun e w' => e = .returned (.tuple #[.int .i64 r1, .bool r2]) ∧ Drawn0 w w' := by
  have HR0 := Aside0.mk hr0
  have HC0 := Aside0.mk hc0
  clear hr0 hc0
  have H : (spec_l11At.l0 k l0 a1 0) = some (r1, r2) := h
  clear h
  have H' := Aside0.mk H
  clear H
  go_enter Try.func59, Try.ntmps59
  go_wp2
  repeat (go_quiet (fail); try go_wp2)
  go_loopg [6] k (fun kq v6 w' => ∃ (x6_1 : Int), v6 = .int .i64 x6_1 ∧ Aside0 (spec_l11At.l0 kq l0 a1 x6_1 = some (r1, r2)) ∧ Aside0 (kq ≤ k) ∧ Drawn0 w w')
  case atStart => exact ⟨(0), (by first | rfl | (simp; done) | (simp [*]; done)), H', ⟨Nat.le_refl _⟩, by repeat (first | exact Drawn0.refl _ | apply Drawn0.step)⟩
  case round =>
    clear H'
    try clear p2
    obtain ⟨x6_1, rfl, HA, HK1, ⟨m1, rfl⟩⟩ := hrel
    cases gk with
    | zero => exact absurd HA.out (by simp [spec_l11At.l0])
    | succ k1 =>
      have H := HA.out
      clear HA
      simp only [spec_l11At.l0] at H
      by_cases c3 : x6_1 < (l0.length : Int)
      · rw [if_pos c3] at H
        have c3b0 : decide (x6_1 < (l0.length : Int)) = true := decide_eq_true c3
        clear c3
        by_cases c4 : 0 ≤ x6_1
        · rw [if_pos c4] at H
          have c4b0 : decide (0 ≤ x6_1) = true := decide_eq_true c4
          clear c4
          by_cases c5 : (rd l0 x6_1) < a1
          · rw [if_pos c5] at H
            have c5b0 : decide ((rd l0 x6_1) < a1) = true := decide_eq_true c5
            clear c5
            have H' := Aside0.mk H
            clear H
            have p203 : 0 ≤ (x6_1 : Int) := of_decide_eq_true (by first | (with_reducible assumption) | assumption)
            have q203 : x6_1 < (l0.length : Int) := of_decide_eq_true (by first | (with_reducible assumption) | assumption)
            obtain ⟨ad203, e203, hx203_0⟩ := Kd.at_int HR0.out x6_1 p203 q203
            cases e203
            replace p203 := eq_true p203
            replace q203 := eq_true q203
            go_wp2
            repeat (go_quiet (fail); try go_wp2)
            go_roundg k1
            case measure => have := HK1.out; omega
            case rel => exact ⟨(wrap64 (x6_1 + 1)), (by first | rfl | (simp; done) | (simp [*]; done)), H', ⟨by have := HK1.out; omega⟩, by repeat (first | exact Drawn0.refl _ | apply Drawn0.step)⟩
          · rw [if_neg c5] at H
            have c5b0 : decide ((rd l0 x6_1) < a1) = false := decide_eq_false c5
            clear c5
            simp only [Option.some.injEq, Prod.mk.injEq] at H
            obtain ⟨rfl, rfl⟩ := H
            have p203 : 0 ≤ (x6_1 : Int) := of_decide_eq_true (by first | (with_reducible assumption) | assumption)
            have q203 : x6_1 < (l0.length : Int) := of_decide_eq_true (by first | (with_reducible assumption) | assumption)
            obtain ⟨ad203, e203, hx203_0⟩ := Kd.at_int HR0.out x6_1 p203 q203
            cases e203
            replace p203 := eq_true p203
            replace q203 := eq_true q203
            have p204 : 0 ≤ (x6_1 : Int) := of_decide_eq_true (by first | (with_reducible assumption) | assumption)
            have q204 : x6_1 < (l0.length : Int) := of_decide_eq_true (by first | (with_reducible assumption) | assumption)
            obtain ⟨ad204, e204, hx204_0⟩ := Kd.at_int HR0.out x6_1 p204 q204
            obtain rfl : ad203 = ad204 := (by injection e204)
            replace p204 := eq_true p204
            replace q204 := eq_true q204
            go_wp2
            repeat (go_quiet (fail); try go_wp2)
            go_ret2
            exact ⟨by first | rfl | (simp; done) | (simp [*]; done), by repeat (first | exact Drawn0.refl _ | apply Drawn0.step)⟩
        · rw [if_neg c4] at H
          exact absurd H (by simp)
      · rw [if_neg c3] at H
        have c3b0 : decide (x6_1 < (l0.length : Int)) = false := decide_eq_false c3
        clear c3
        simp only [Option.some.injEq, Prod.mk.injEq] at H
        obtain ⟨rfl, rfl⟩ := H
        go_wp2
        repeat (go_quiet (fail); try go_wp2)
        go_ret2
        exact ⟨by first | rfl | (simp; done) | (simp [*]; done), by repeat (first | exact Drawn0.refl _ | apply Drawn0.step)⟩

end Go.Proofs.Ytgpimekdfnpffaa.PFnBelady
