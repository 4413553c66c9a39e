-- Written by a program of this project (xprint.py) out of the translation; Lean checks it.
import Derived.Test.YtpggepjfhgalkaaGreatDoorPFnExactPickItemx0
import Derived.Test.YtpggepjfhgalkaaGreatDoorPFnExactPickItemx12
import Derived.Test.YtpggepjfhgalkaaGreatDoorPFnExactPickItemx13
import Derived.Test.YtpggepjfhgalkaaGreatDoorPFnExactPickItemx14
import Derived.Test.YtpggepjfhgalkaaGreatDoorPFnExactPickItemx15
import Derived.Test.YtpggepjfhgalkaaGreatDoorPFnExactPickItemx16
namespace Go.Proofs.YtpggepjfhgalkaaGreatDoor.PFnExactPickItem
open Go.RowKit Go.Proofs.YtpggepjfhgalkaaGreatDoorW.PrintWords Go.Proofs.YtpggepjfhgalkaaGreatDoorW.PrintLast Go.Proofs.YtpggepjfhgalkaaGreatDoorW.PrintMore
attribute [local go_sem] max2_int min2_int max_two min_two max_three min_three max_four min_four   -- for this text's walks alone
set_option linter.unusedVariables false
set_option linter.unusedSimpArgs false

/-! ### impl_GoodRequest: function 39 -/
def impl_GoodRequest.f (k : Nat) (a0_0 : ByteArray) (a0_1 : ByteArray) (l0_2 : List (S105)) (a0_3 : ByteArray) : Option (Bool) := (impl_isRequestLine.f a0_0 a0_1 l0_2 a0_3).bind fun t398 => (if t398 = true then ((impl_requestLine.f a0_0 a0_1 l0_2 a0_3).bind fun t399 => ((impl_isMessage.f k t399 l0_2 a0_3).bind fun t400 => (some t400))) else (some false))
def impl_GoodRequest.T1 : Bool × List (List Nat × List Nat) := (true, [([], []), ([0], [0]), ([1, 1], [1]), ([2], [2]), ([3, 2, 2], [2, 3]), ([2], [2]), ([5, 2], [2, 5]), ([2], [2]), ([7, 2], [2, 7]), ([4, 6, 8, 4, 2], [2, 4, 6, 8]), ([2, 9], [2, 9]), ([10, 9, 0, 1, 2, 3, 4, 5, 6, 7, 8, 9, 10], [10])])
def impl_GoodRequest.B1 : List Nat := [0, 1, 3, 7, 15, 7, 39, 7, 135, 511, 1023, 2047]
theorem impl_GoodRequest.tab1 : rtab .any (opsOf Tryz.f39 1) = impl_GoodRequest.T1 := by kernel_rfl
theorem impl_GoodRequest.bits1 : waitsOk impl_GoodRequest.T1.2 impl_GoodRequest.B1 = true := by kernel_rfl
set_option maxHeartbeats 8000000 in
set_option maxRecDepth 100000 in
theorem impl_GoodRequest.calls (k : Nat) (a0_0 : ByteArray) (a0_1 : ByteArray) (A0_2 : Option Addr) (c0_2 : Nat) (l0_2 : List (S105)) (a0_3 : ByteArray) (r : Bool) (w : World) (hr0_2 : Kd.C k105 w A0_2 l0_2.length l0_2) (hc0_2 : l0_2.length ≤ c0_2) (h : impl_GoodRequest.f k a0_0 a0_1 l0_2 a0_3 = some r) (hT_ : TabOk w) :
  Calls Tryz.prog 39 #[.agg #[.string a0_0, .string a0_1, .slice A0_2 l0_2.length c0_2, .string a0_3]] w fun e w' => e = .returned (.bool r) ∧ Below w.heap.size w w' := by
 have HTB_ := Aside0.mk hT_
 clear hT_
 have hu35 := Tryz.underlying35
 have HR0_2 := Aside0.mk hr0_2
 have HC0_2 := Aside0.mk hc0_2
 clear hr0_2 hc0_2
 have HB := Aside0.mk (Below.refl w.heap.size w)
 have H := h
 unfold impl_GoodRequest.f at H
 clear h
 replace H := mb_ H
 obtain ⟨t398, A2, H⟩ := H
 by_cases c3 : t398 = true
 ·subst c3
  rw [if_pos rfl] at H
  replace H := mb_ H
  obtain ⟨t399, A4, H⟩ := H
  replace H := mb_ H
  obtain ⟨t400, A5, H⟩ := H
  obtain rfl := Option.some.inj H
  go_enter Tryz.func39, Tryz.ntmps39
  try go_wp2_with (first | ((with_reducible refine gd_ 1 ?_); refine xbe_ (N := 1) (cs := #[.string a0_0, .string a0_1, .slice A0_2 l0_2.length c0_2, .string a0_3]) (t := 35) ?_; intro gb397 hg w6 hbox hb; have BK397 := Aside0.mk (hbox); have GE397 := xge_ HB hg; replace HB := xws_ HB hb; clear hb hbox hg))
  replace BK397 := Aside0.mk (blk_drew BK397.out)
  replace HB := Aside0.mk (below_drew1 HB.out)
  refine ms_ 12 (fun w' => w'.cell? ⟨gb397, 0, none⟩ = some (.string a0_0) ∧ w'.cell? ⟨gb397, 1, none⟩ = some (.string a0_1) ∧ w'.cell? ⟨gb397, 2, none⟩ = some (.slice A0_2 l0_2.length c0_2) ∧ w'.cell? ⟨gb397, 3, none⟩ = some (.string a0_3)) impl_GoodRequest.tab1 impl_GoodRequest.bits1 ⟨xk_ BK397 0, xk_ BK397 1, xk_ BK397 2, xk_ BK397 3⟩ (fun hHeld HT_ HW_ => ?_)
  generalize w6.drew = w7 at BK397 HB hHeld ⊢
  refine mt_ 0 3 hHeld ?_
  refine m1_ 1 4 Tryz.func77 #[.agg #[.string a0_0, .string a0_1, .slice A0_2 l0_2.length c0_2, .string a0_3]] ?_
  with_reducible refine (impl_isRequestLine.calls a0_0 a0_1 _ _ l0_2 a0_3 true _ ?side1 ?side2 A2.out).mono ?_
  (case side1 => exact xc_ ((Kd.C_below HR0_2.out HB.out)))
  (case side2 => exact HC0_2.out)
  rintro e w8 ⟨rfl, hb⟩
  refine ⟨_, rfl, ?_⟩
  replace BK397 := xbb_ BK397 hb
  replace HB := xws_ HB hb
  (try clear hb)
  refine ⟨⟨xk_ BK397 0, xk_ BK397 1, xk_ BK397 2, xk_ BK397 3⟩, fun hHeld => ?_⟩
  refine mn_ 4 ?_
  refine mp_ 2 5 ?_
  refine mp_ 5 8 ?_
  refine mp_ 7 10 ?_
  refine mt_ 3 6 hHeld ?_
  refine mt_ 6 9 hHeld ?_
  refine mt_ 8 11 hHeld ?_
  refine m1_ 4 7 Tryz.func79 #[.agg #[.string a0_0, .string a0_1, .slice A0_2 l0_2.length c0_2, .string a0_3]] ?_
  with_reducible refine (impl_requestLine.calls a0_0 a0_1 _ _ l0_2 a0_3 t399 _ ?side1 ?side2 A4.out).mono ?_
  (case side1 => exact xc_ ((Kd.C_below HR0_2.out HB.out)))
  (case side2 => exact HC0_2.out)
  rintro e w9 ⟨rfl, hb⟩
  refine ⟨_, rfl, ?_⟩
  replace BK397 := xbb_ BK397 hb
  replace HB := xws_ HB hb
  (try clear hb)
  refine ⟨⟨xk_ BK397 0, xk_ BK397 1, xk_ BK397 2, xk_ BK397 3⟩, fun hHeld => ?_⟩
  refine mn_ 7 ?_
  refine m1_ 9 12 Tryz.func78 #[.string t399, .slice A0_2 l0_2.length c0_2, .string a0_3] ?_
  with_reducible refine (impl_isMessage.calls k t399 _ _ l0_2 a0_3 t400 _ ?side1 ?side2 A5.out (HTB_.out.below (by first | (with_reducible exact Below.refl _ _) | (repeat (first | (with_reducible first | exact HB.out | exact Below.refl _ _ | apply below_alloc | apply pw_below_drewN | apply below_drew1 | refine below_set ?_ GE397.out) | exact HB.out)) | (repeat (first | exact Below.refl _ _ | apply below_alloc | apply pw_below_drewN | apply below_drew1 | refine below_set ?_ GE397.out))))).mono ?_
  (case side1 => exact xc_ ((Kd.C_below HR0_2.out HB.out)))
  (case side2 => exact HC0_2.out)
  rintro e w10 ⟨rfl, hb⟩
  refine ⟨_, rfl, ?_⟩
  replace BK397 := xbb_ BK397 hb
  replace HB := xws_ HB hb
  (try clear hb)
  refine ⟨⟨xk_ BK397 0, xk_ BK397 1, xk_ BK397 2, xk_ BK397 3⟩, fun hHeld => ?_⟩
  refine mn_ 12 ?_
  refine mp_ 10 13 ?_
  refine mp_ 11 2 ?_
  refine done_ (done_of HT_.out (by kernel_rfl)) ?_
  try go_wp2
  go_ret
  exact ⟨mf_, xw_ HB⟩
 ·replace c3 := Bool.eq_false_iff.mpr c3
  subst c3
  rw [if_neg (show ¬ (false = true) by decide)] at H
  obtain rfl := Option.some.inj H
  go_enter Tryz.func39, Tryz.ntmps39
  try go_wp2_with (first | ((with_reducible refine gd_ 1 ?_); refine xbe_ (N := 1) (cs := #[.string a0_0, .string a0_1, .slice A0_2 l0_2.length c0_2, .string a0_3]) (t := 35) ?_; intro gb397 hg w11 hbox hb; have BK397 := Aside0.mk (hbox); have GE397 := xge_ HB hg; replace HB := xws_ HB hb; clear hb hbox hg))
  replace BK397 := Aside0.mk (blk_drew BK397.out)
  replace HB := Aside0.mk (below_drew1 HB.out)
  refine ms_ 12 (fun w' => w'.cell? ⟨gb397, 0, none⟩ = some (.string a0_0) ∧ w'.cell? ⟨gb397, 1, none⟩ = some (.string a0_1) ∧ w'.cell? ⟨gb397, 2, none⟩ = some (.slice A0_2 l0_2.length c0_2) ∧ w'.cell? ⟨gb397, 3, none⟩ = some (.string a0_3)) impl_GoodRequest.tab1 impl_GoodRequest.bits1 ⟨xk_ BK397 0, xk_ BK397 1, xk_ BK397 2, xk_ BK397 3⟩ (fun hHeld HT_ HW_ => ?_)
  generalize w11.drew = w12 at BK397 HB hHeld ⊢
  refine mt_ 0 3 hHeld ?_
  refine m1_ 1 4 Tryz.func77 #[.agg #[.string a0_0, .string a0_1, .slice A0_2 l0_2.length c0_2, .string a0_3]] ?_
  with_reducible refine (impl_isRequestLine.calls a0_0 a0_1 _ _ l0_2 a0_3 false _ ?side1 ?side2 A2.out).mono ?_
  (case side1 => exact xc_ ((Kd.C_below HR0_2.out HB.out)))
  (case side2 => exact HC0_2.out)
  rintro e w13 ⟨rfl, hb⟩
  refine ⟨_, rfl, ?_⟩
  replace BK397 := xbb_ BK397 hb
  replace HB := xws_ HB hb
  (try clear hb)
  refine ⟨⟨xk_ BK397 0, xk_ BK397 1, xk_ BK397 2, xk_ BK397 3⟩, fun hHeld => ?_⟩
  refine mn_ 4 ?_
  refine mp_ 2 5 ?_
  refine mu_ 3 6 ?_
  refine mu_ 4 7 ?_
  refine mu_ 5 8 ?_
  refine mu_ 6 9 ?_
  refine mu_ 7 10 ?_
  refine mu_ 8 11 ?_
  refine mu_ 9 12 ?_
  refine mp_ 10 13 ?_
  refine mp_ 11 2 ?_
  refine done_ (done_of HT_.out (by kernel_rfl)) ?_
  try go_wp2
  go_ret
  exact ⟨mf_, xw_ HB⟩

/-! ### strings_Join: function 94 -/
def strings_Join.f (l0 : List ByteArray) (a1 : ByteArray) : Option (ByteArray) := if l0.length < 100000000 then (if (Lib.join (l0.map (·.data.toList)) a1.data.toList).length < 1000000000 then some ⟨(Lib.join (l0.map (·.data.toList)) a1.data.toList).toArray⟩ else none) else none
theorem strings_Join.calls (A0 : Option Addr) (c0 : Nat) (l0 : List ByteArray) (a1 : ByteArray) (r : ByteArray) (w : World) (hr0 : Kd.C Kd.string w A0 l0.length l0) (hc0 : l0.length ≤ c0) (h : strings_Join.f l0 a1 = some r) :
    Calls Tryz.prog 94 #[.slice A0 l0.length c0, .string a1] w fun e w' => e = .returned (.string r) ∧ Below w.heap.size w w' := by
  unfold strings_Join.f at h
  by_cases c : l0.length < 100000000
  · rw [if_pos c] at h
    by_cases c2 : (Lib.join (l0.map (·.data.toList)) a1.data.toList).length < 1000000000
    · rw [if_pos c2] at h
      obtain rfl := Option.some.inj h
      cases l0 with
      | nil => exact (Tryz.strings_Join_none A0 c0 a1 w).mono fun e w' hq => ⟨hq.1, by rw [hq.2]; exact Below.refl _ _⟩
      | cons x0 xs =>
        obtain ⟨ad, rfl, h0⟩ := Kd.at_string hr0 0 (by omega) (by simp)
        have h0' : w.cell? ad = some (.string (rdOf ByteArray.empty (x0 :: xs) 0)) := by
          have : ad.add (0 : Int).toNat = ad := by simp [Addr.add]
          rw [this] at h0; exact h0
        obtain ⟨bk, o, sp⟩ := ad
        have hsp : sp = none := by
          cases sp with
          | none => rfl
          | some q =>
            unfold World.cell? at h0'
            simp at h0'
            split at h0' <;> cases h0'
        subst hsp
        have hbk : bk < w.heap.size := World.block_lt_of_cell? w _ h0'
        refine Tryz.strings_Join bk o c0 (x0 :: xs) a1 w ?_ hbk (by omega) hc0 (by omega)
        intro j x hx
        have hj : j < (x0 :: xs).length := (List.getElem?_eq_some_iff.mp hx).1
        obtain ⟨ad2, e2, h2⟩ := Kd.at_string hr0 (j : Int) (by omega) (by omega)
        cases e2
        have hv : rdOf ByteArray.empty (x0 :: xs) (j : Int) = x := by
          unfold rdOf
          rw [List.getD_eq_getElem?_getD, Int.toNat_natCast, hx]; rfl
        rw [hv, Int.toNat_natCast] at h2
        have ha : (⟨bk, o, none⟩ : Addr).add j = ⟨bk, o + j, none⟩ := by
          unfold Addr.add
          split
          · rename_i hz; subst hz; rfl
          · rfl
        rw [ha] at h2
        exact h2
    · rw [if_neg c2] at h; cases h
  · rw [if_neg c] at h; cases h

/-! ### a row of texts sorted, and each told once: slices.Sort and slices.Compact, in place -/
def unT (b : List UInt8) : ByteArray := ⟨b.toArray⟩
def sortT (l : List ByteArray) : List ByteArray := ((l.map fun s => s.data.toList).mergeSort fun x y => decide (x ≤ y)).map unT
def compT (l : List ByteArray) : List ByteArray := (Lib.compact (l.map fun s => s.data.toList)).map unT
def xSortC.f (l0 : List ByteArray) : Option (List ByteArray) := if l0.length < 1000000000000 then some (compT (sortT l0)) else none
theorem sortT_len (l : List ByteArray) : (sortT l).length = l.length := by unfold sortT; rw [List.length_map, List.length_mergeSort, List.length_map]
theorem unT_map (l : List (List UInt8)) : (l.map unT).map Value.string = l.map encStr := by rw [List.map_map]; rfl
theorem unT_back (l : List ByteArray) : (l.map fun s => s.data.toList).map encStr = l.map Value.string := by
  rw [List.map_map]; apply List.map_congr_left; intro s _; rfl
theorem encs_str (l : List ByteArray) : encs Value.string l = l.map Value.string := by
  apply List.ext_getElem?
  intro j
  simp [encs]
section
open Go.Shelf Go.Sort
/-- the row's own form -/
theorem xOwnS {W : World} {base n : Nat} {ok : Nat → Prop} {A : Option Addr} {c : Nat} {l : List ByteArray} (ho : Kd.R Kd.string 9 W base ok (.slice A n c) l) (h0 : l ≠ []) :
    ∃ g cur, A = some ⟨g, 0, none⟩ ∧ n = l.length ∧ base ≤ g ∧ W.heap[g]? = some (.cells cur 9 (0, 0)) ∧ l.length ≤ c ∧ c ≤ maxLen ∧ cur.size = c * 1 ∧ cur.toList.take l.length = l.map Value.string := by
  obtain ⟨h1, h2⟩ := Kd.own_of_R ho
  rcases h2 with ⟨_, hn⟩ | ⟨g, cap, cur, hv, hb, hg, hnc, hcm, hcs, ht⟩
  · exact absurd (List.eq_nil_of_length_eq_zero hn) h0
  · injection hv with hv1 hv2 hv3
    subst hv1 hv2 hv3
    refine ⟨g, cur, rfl, rfl, hb, hg, hnc, hcm, hcs, ?_⟩
    rw [Nat.mul_one] at ht
    rw [ht, encs_str]
theorem xSort_nil {W : World} {base n : Nat} {ok : Nat → Prop} {A : Option Addr} {c : Nat} {l : List ByteArray} (ho : Kd.R Kd.string 9 W base ok (.slice A n c) l) : n = l.length := (Kd.R_reads' ho).1
theorem xSort_in {W w0 : World} {base n : Nat} {ok : Nat → Prop} {A : Option Addr} {c : Nat} {l : List ByteArray} (ho : Kd.R Kd.string 9 W base ok (.slice A n c) l) (hB : Below base w0 W) (hl : l.length < 1000000000000) :
    Calls Tryz.prog 98 #[.slice A n c] W fun e w' => e = .returned (.tuple #[]) ∧ Kd.R Kd.string 9 w' base ok (.slice A n c) (sortT l) ∧ Below base w0 w' := by
  by_cases h0 : l = []
  · subst h0
    obtain rfl : n = 0 := xSort_nil ho
    exact (Tryz.slices_Sort_string_none A c W).mono fun e w' hq => ⟨hq.1, by rw [hq.2]; simpa [sortT] using ho, by rw [hq.2]; exact hB⟩
  · obtain ⟨g, cur, rfl, rfl, hb, hg, h1, h2, h3, h4⟩ := xOwnS ho h0
    have hs : (l.map fun s => s.data.toList).length = l.length := List.length_map _
    have hH : Holds encStr W g 0 (l.map fun s => s.data.toList).toArray := holds_of_block hg (by rw [hs, h4, unT_back])
    have hc := Tryz.slices_Sort_string g 0 c (l.map fun s => s.data.toList) W hH (Array.getElem?_eq_some_iff.1 hg).1 (by rw [hs]; omega)
    rw [hs] at hc
    refine hc.mono ?_
    rintro e w' ⟨rfl, m, os, rfl⟩
    have hlen : ((l.map fun s => s.data.toList).mergeSort fun x y => decide (x ≤ y)).length = (l.map fun s => s.data.toList).length := List.length_mergeSort _
    have hrow := ownsRow_sorted (n := m) (os := os) hlen hb hg (by rw [hs]; exact h1) h2 h3
    have hgb := grownBy_sorted (w := W) (g := g) (n := m) (os := os) ((l.map fun s => s.data.toList).mergeSort fun x y => decide (x ≤ y)).toArray
    refine ⟨rfl, ?_, hB.grown hgb (Nat.le_trans hb (Nat.le_of_lt (Array.getElem?_eq_some_iff.1 hg).1)) (fun j hj => by cases hj; exact hb)⟩
    have hk : ∀ k, (Value.slice (some ⟨g, 0, none⟩) l.length c).ownBlock = some k → ok k := ho.1
    refine Kd.R_of_own (h1 := fun _ => rfl) ?_ hk
    rw [hs] at hrow
    rw [sortT_len, encs_str]
    unfold sortT
    rw [unT_map]
    exact hrow
theorem xComp_in {W w0 : World} {base n : Nat} {ok : Nat → Prop} {A : Option Addr} {c : Nat} {l : List ByteArray} (ho : Kd.R Kd.string 9 W base ok (.slice A n c) l) (hB : Below base w0 W) (hl : l.length < 1000000000000) :
    Calls Tryz.prog 99 #[.slice A n c] W fun e w' => ∃ m, e = .returned (.slice A m c) ∧ Kd.R Kd.string 9 w' base ok (.slice A m c) (compT l) ∧ Below base w0 w' := by
  by_cases h0 : l = []
  · subst h0
    obtain rfl : n = 0 := xSort_nil ho
    exact (Tryz.slices_Compact_string_empty A c W).mono fun e w' hq => ⟨0, hq.1, by rw [hq.2]; simpa [compT, Lib.compact, Lib.compactUpTo] using ho, by rw [hq.2]; exact hB⟩
  · obtain ⟨g, cur, rfl, rfl, hb, hg, h1, h2, h3, h4⟩ := xOwnS ho h0
    have hs : (l.map fun s => s.data.toList).length = l.length := List.length_map _
    have hH : Holds encStr W g 0 (l.map fun s => s.data.toList).toArray := holds_of_block hg (by rw [hs, h4, unT_back])
    have hm : c ≤ 9223372036854775807 := h2
    have hc := Tryz.slices_Compact_string g 0 c (l.map fun s => s.data.toList) W hH (by rw [hs]; omega) (by rw [hs]; exact h1)
    rw [hs] at hc
    refine hc.mono ?_
    rintro e w' ⟨rfl, q, rfl⟩
    have hle := Lib.compact_length_le (l.map fun s => s.data.toList)
    rw [hs] at hle
    obtain ⟨ts, hts⟩ : ∃ ts, ts = Lib.compact (l.map fun s => s.data.toList) ++ List.replicate (l.length - (Lib.compact (l.map fun s => s.data.toList)).length) ([] : List UInt8) := ⟨_, rfl⟩
    have hl2 : ts.length = l.length := by rw [hts, List.length_append, List.length_replicate]; omega
    have htake : ts.take (Lib.compact (l.map fun s => s.data.toList)).length = Lib.compact (l.map fun s => s.data.toList) := by rw [hts, List.take_left]
    rw [← hts]
    have eg : putRow encStr (Sort.ahead W q) g 0 ts.toArray = Go.Sort.grow (putRow encStr (Sort.ahead W q) g 0 ts.toArray) #[] := by simp [Go.Sort.grow]; rfl
    rw [eg]
    have hrow := ownsRow_sorted (n := q) (os := #[]) (ss := l.map fun s => s.data.toList) (ts := ts) (by rw [hs]; exact hl2) hb hg (by rw [hs]; exact h1) h2 h3
    have hgb := grownBy_sorted (w := W) (g := g) (n := q) (os := #[]) ts.toArray
    rw [hs] at hrow
    refine ⟨_, rfl, ?_, hB.grown hgb (Nat.le_trans hb (Nat.le_of_lt (Array.getElem?_eq_some_iff.1 hg).1)) (fun j hj => by cases hj; exact hb)⟩
    have hk : ∀ k, (Value.slice (some ⟨g, 0, none⟩) (Lib.compact (l.map fun s => s.data.toList)).length c).ownBlock = some k → ok k := ho.1
    rcases hrow.2 with ⟨hn, _⟩ | ⟨g', cap', cur', hv, hb', hg', hnc', hcm', hcs', ht'⟩
    · cases hn
    · injection hv with hv1 hv2 hv3
      injection hv1 with hv1
      injection hv1 with hv1
      subst hv1 hv3
      have hlc : (compT l).length = (Lib.compact (l.map fun s => s.data.toList)).length := List.length_map _
      have hfin := Kd.R_of_own (h1 := fun _ => rfl) (enc := Value.string) (e := 9) (base := base) (ok := ok) (v := .slice (some ⟨g, 0, none⟩) (Lib.compact (l.map fun s => s.data.toList)).length c) (xs := compT l) (w := Go.Sort.grow (putRow encStr (Sort.ahead W q) g 0 ts.toArray) #[])
        ⟨by rw [encs_str]; simp, .inr ⟨g, c, cur', by rw [hlc], hb', hg', by rw [hlc]; omega, hcm', hcs', by
          rw [encs_str, hlc, Nat.mul_one]
          unfold compT
          rw [unT_map]
          rw [Nat.mul_one] at ht'
          have h5 := congrArg (List.take (Lib.compact (l.map fun s => s.data.toList)).length) ht'
          rw [List.take_take, Nat.min_eq_left hle, ← List.map_take, htake] at h5
          exact h5⟩⟩ hk
      exact hfin
end
theorem xSortC.of {l t : List ByteArray} (h : xSortC.f l = some t) : l.length < 1000000000000 ∧ compT (sortT l) = t := by
  unfold xSortC.f at h
  by_cases c : l.length < 1000000000000
  · rw [if_pos c] at h; exact ⟨c, Option.some.inj h⟩
  · rw [if_neg c] at h; cases h

set_option maxHeartbeats 4000000 in
/-- slices.IndexFunc: the first place at which the predicate holds -/
theorem xIndexFunc_str (p : ByteArray → Option Bool) (g : Nat) (lb : Array Value) (eg : ∀ args w, (callFunc g args).run Tryz.prog w = .ok (.enter g args) w) (A0 : Option Addr) (c0 : Nat) (l0 : List ByteArray) (i : Int) (w : World)
    (hr0 : Kd.C Kd.string w A0 l0.length l0) (hc0 : l0.length ≤ c0) (hbig : l0.length < 9223372036854775807)
    (hp : ∀ (W : World) (x : ByteArray) (b : Bool), Below w.heap.size w W → p x = some b → Calls Tryz.prog g (#[.string x] ++ lb) W fun e w' => e = .returned (.bool b) ∧ Below w.heap.size w w')
    (h : idxO p l0 0 = some i) :
    Calls Tryz.prog 182 #[.slice A0 l0.length c0, .func (.func g) #[] lb] w fun e w' => e = .returned (.int .i64 i) ∧ Below w.heap.size w w' := by
  have HR0 := Aside0.mk hr0
  have HC0 := Aside0.mk hc0
  have HP := Aside0.mk hp
  have HI := Aside0.mk h
  clear hr0 hc0 hp h
  go_enter Tryz.func182, Tryz.ntmps182
  go_wp2
  go_loopg [5, 8] l0.length (fun gg _ s8 wr => ∃ kk : Nat, kk ≤ l0.length ∧ l0.length - kk ≤ gg ∧ s8 = .int .i64 kk ∧ Aside0 (Below w.heap.size w wr) ∧ Aside0 (idxO p (l0.drop kk) (kk : Int) = some i))
  case atStart => exact ⟨0, Nat.zero_le _, by omega, rfl, ⟨Below.refl _ w⟩, HI⟩
  case round =>
    obtain ⟨kk, hkk, hg, rfl, BW, A⟩ := hrel
    clear HI
    by_cases hlt : kk < l0.length
    · have hltz : (kk : Int) < (l0.length : Int) := by omega
      have H := A.out
      clear A
      rw [idxO_at p l0 kk hlt] at H
      obtain ⟨b, hb, H⟩ := Option.bind_eq_some_iff.mp H
      have hcall := HP.out wr l0[kk] b BW.out hb
      have hrd : rdOf ByteArray.empty l0 (kk : Int) = l0[kk] := by unfold rdOf; simp [List.getD_eq_getElem?_getD, hlt]
      obtain ⟨ad, he, hy0⟩ := Kd.at_string (Kd.C_below HR0.out BW.out) (kk : Int) (by omega) hltz
      cases he
      have hx0 : wr.cell? (ad.add kk) = some (.string (l0[kk])) := by rw [← hrd]; exact hy0
      clear hy0
      generalize l0[kk] = x at *
      cases b with
      | true =>
        obtain rfl : (kk : Int) = i := Option.some.inj H
        clear H hb
        go_wp2_with (go_at_fn g; refine hcall.mono ?_; rintro e w' ⟨rfl, hb'⟩)
        go_ret
        exact ⟨rfl, hb'⟩
      | false =>
        have H' := Aside0.mk H
        clear H hb
        go_wp2_with (go_at_fn g; refine hcall.mono ?_; rintro e w' ⟨rfl, hb'⟩)
        go_roundg (l0.length - (kk + 1))
        case measure => omega
        case rel => exact ⟨kk + 1, by omega, by omega, by go_num, ⟨hb'⟩, ⟨by have z := H'.out; rw [if_neg (by decide)] at z; exact z⟩⟩
    · have hltz : ¬ (kk : Int) < (l0.length : Int) := by omega
      have H := A.out
      rw [List.drop_of_length_le (by omega)] at H
      obtain rfl : (-1 : Int) = i := Option.some.inj H
      clear H A
      go_wp2
      go_ret
      exact ⟨rfl, BW.out⟩
set_option maxHeartbeats 4000000 in
theorem xContainsFunc_str (p : ByteArray → Option Bool) (g : Nat) (lb : Array Value) (eg : ∀ args w, (callFunc g args).run Tryz.prog w = .ok (.enter g args) w) (A0 : Option Addr) (c0 : Nat) (l0 : List ByteArray) (i : Int) (w : World)
    (hr0 : Kd.C Kd.string w A0 l0.length l0) (hc0 : l0.length ≤ c0) (hbig : l0.length < 9223372036854775807)
    (hp : ∀ (W : World) (x : ByteArray) (b : Bool), Below w.heap.size w W → p x = some b → Calls Tryz.prog g (#[.string x] ++ lb) W fun e w' => e = .returned (.bool b) ∧ Below w.heap.size w w')
    (h : idxO p l0 0 = some i) :
    Calls Tryz.prog 146 #[.slice A0 l0.length c0, .func (.func g) #[] lb] w fun e w' => e = .returned (.bool (decide (i ≥ 0))) ∧ Below w.heap.size w w' := by
  have hcall := xIndexFunc_str p g lb eg A0 c0 l0 i w hr0 hc0 hbig hp h
  clear hr0 hc0 hbig hp h
  go_enter Tryz.func146, Tryz.ntmps146
  go_wp2_with (go_at_call 182; refine hcall.mono ?_; rintro e w' ⟨rfl, hb'⟩)
  go_ret
  exact ⟨rfl, hb'⟩
/-! ### xAll_str_impl_isToken: function 96, with function 97 -/
def xAll_str_impl_isToken.z (x : ByteArray) : Option Bool := (impl_isToken.f x).bind fun b => some (!b)
def xAll_str_impl_isToken.f (l0 : List ByteArray) : Option (Bool) := if l0.length < 9223372036854775807 then ((idxO (xAll_str_impl_isToken.z) l0 0).bind fun i => some (!decide (i ≥ 0))) else none
set_option maxHeartbeats 8000000 in
set_option maxRecDepth 100000 in
theorem xAll_str_impl_isToken.calls (A0 : Option Addr) (c0 : Nat) (l0 : List ByteArray) (r : Bool) (w : World) (hr0 : Kd.C Kd.string w A0 l0.length l0) (hc0 : l0.length ≤ c0) (h : xAll_str_impl_isToken.f l0 = some r) :
    Calls Tryz.prog 96 #[.slice A0 l0.length c0, .func (.func 97) #[] #[]] w fun e w' => e = .returned (.bool r) ∧ Below w.heap.size w w' := by
  have hbig : l0.length < 9223372036854775807 := by
    by_cases c : l0.length < 9223372036854775807
    · exact c
    · unfold xAll_str_impl_isToken.f at h; rw [if_neg c] at h; cases h
  have h1 : ((idxO (xAll_str_impl_isToken.z) l0 0).bind fun i => some (!decide (i ≥ 0))) = some r := by unfold xAll_str_impl_isToken.f at h; rw [if_pos hbig] at h; exact h
  clear h
  obtain ⟨i, hi1, hi2⟩ := Option.bind_eq_some_iff.mp h1
  clear h1
  obtain rfl := Option.some.inj hi2
  clear hi2
  have eg : ∀ args w, (callFunc 147 args).run Tryz.prog w = .ok (.enter 147 args) w := enters_of Tryz.func147 (by kernel_rfl) rfl
  have hb1 : Below w.heap.size w (w.alloc (.cells #[.func (.func 97) #[] #[]] 98)) := (Below.refl _ w).alloc (Nat.le_refl _) _
  have hcall := xContainsFunc_str (xAll_str_impl_isToken.z) 147 #[.pointer (some ⟨w.heap.size, 0, none⟩)] eg A0 c0 l0 i (w.alloc (.cells #[.func (.func 97) #[] #[]] 98)) (Kd.C_below hr0 hb1) hc0 hbig
    (by
      intro W x b hb hz
      have hcell : W.cell? ⟨w.heap.size, 0, none⟩ = some (.func (.func 97) #[] #[]) := (hb.cell (p := ⟨w.heap.size, 0, none⟩) (by simp)).trans (by simp)
      obtain ⟨b2, hq, hb2⟩ := Option.bind_eq_some_iff.mp hz
      obtain rfl : (!b2) = b := Option.some.inj hb2
      have hq' := Aside0.mk hq
      have hb' := Aside0.mk hb
      clear hb hz hb2 hq
      show Calls Tryz.prog 147 #[.string x, .pointer (some ⟨w.heap.size, 0, none⟩)] W _
      go_enter Tryz.func147, Tryz.ntmps147
      go_wp2_with (go_at_call 97; refine (impl_isToken.calls x b2 _ hq'.out).mono ?_; rintro e w' ⟨rfl, hb2⟩)
      go_ret
      exact ⟨rfl, below_step (by repeat (first | (with_reducible first | exact hb'.out | apply below_alloc | apply pw_below_drewN | apply below_drew1) | exact hb'.out)) hb2⟩)
    hi1
  have hb1' := Aside0.mk hb1
  clear hr0 hc0 hbig hi1 hb1 eg
  go_enter Tryz.func96, Tryz.ntmps96
  go_wp2_with (go_at_call 146; refine hcall.mono ?_; rintro e w' ⟨rfl, hb'⟩)
  go_ret
  exact ⟨rfl, below_then hb1'.out (by simp) hb'⟩

/-! ### impl_vary: function 50 -/
mutual
def impl_vary.j0 : Nat → List ByteArray → Bool → Option (List ByteArray × Bool × Bool)
 | 0, _, _ => none
 | k + 1, x5, x25 => if x25 = true then (some (([] : List ByteArray), false, false)) else (impl_vary.l0 k ([] : List ByteArray) false x5 (x5.length : Int) 0)
def impl_vary.l0 : Nat → List ByteArray → Bool → List ByteArray → Int → Int → Option (List ByteArray × Bool × Bool)
 | 0, _, _, _, _, _ => none
 | k + 1, x7, x8, x26, x27, x28 => if x28 < x27 then (if 0 ≤ x28 then (if x28 < (x26.length : Int) then (if (rdOf ByteArray.empty x26 x28).toList = ([42] : List UInt8) then (impl_vary.l0 k x7 true x26 x27 (wrap64 (x28 + 1))) else ((impl_small.f (rdOf ByteArray.empty x26 x28)).bind fun t412 => (if x7.length < 8796093022208 then (impl_vary.l0 k (x7 ++ [t412]) x8 x26 x27 (wrap64 (x28 + 1))) else (none)))) else (none)) else (none)) else ((xSortC.f x7).bind fun t416 => (some (t416, x8, true)))
end
def impl_vary.f (k : Nat) (a0_0 : Int) (a0_1 : ByteArray) (l0_2 : List (S105)) (a0_3 : ByteArray) : Option (List ByteArray × Bool × Bool) := (impl_valuesOf.f k l0_2 (⟨#[118, 97, 114, 121]⟩ : ByteArray)).bind fun t402 => ((strings_Join.f t402 (⟨#[44, 32]⟩ : ByteArray)).bind fun t405 => ((impl_listOf.f k t405).bind fun bt406 => (if bt406.2 = true then ((xAll_str_impl_isToken.f bt406.1).bind fun t410 => (impl_vary.j0 k bt406.1 (!t410))) else (impl_vary.j0 k bt406.1 true))))
set_option maxHeartbeats 8000000 in
set_option maxRecDepth 100000 in
theorem impl_vary.calls (k : Nat) (a0_0 : Int) (a0_1 : ByteArray) (A0_2 : Option Addr) (c0_2 : Nat) (l0_2 : List (S105)) (a0_3 : ByteArray) (r1 : List ByteArray) (r2 : Bool) (r3 : Bool) (w : World) (hr0_2 : Kd.C k105 w A0_2 l0_2.length l0_2) (hc0_2 : l0_2.length ≤ c0_2) (h : impl_vary.f k a0_0 a0_1 l0_2 a0_3 = some (r1, r2, r3)) :
  Calls Tryz.prog 50 #[.agg #[.int .i64 a0_0, .string a0_1, .slice A0_2 l0_2.length c0_2, .string a0_3]] w fun e w' => ∃ v0_ : Value, e = .returned (.tuple #[v0_, .bool r2, .bool r3]) ∧ Kd.R Kd.string 9 w' w.heap.size (fun _ => True) v0_ r1 ∧ Below w.heap.size w w' := by
 have hu54 := Tryz.underlying54
 have HR0_2 := Aside0.mk hr0_2
 have HC0_2 := Aside0.mk hc0_2
 clear hr0_2 hc0_2
 have HB := Aside0.mk (Below.refl w.heap.size w)
 have H := h
 unfold impl_vary.f at H
 clear h
 replace H := mb_ H
 obtain ⟨t402, A2, H⟩ := H
 replace H := mb_ H
 obtain ⟨t405, A3, H⟩ := H
 replace H := mb_ H
 obtain ⟨⟨t406, t407⟩, A4, H⟩ := H
 dsimp only at H
 have HC5 := Aside0.mk H
 clear H
 go_enter Tryz.func50, Tryz.ntmps50
 go_upto_region 2 with (first | ((with_reducible refine gd_ 1 ?_); refine xbe_ (N := 1) (cs := #[.int .i64 a0_0, .string a0_1, .slice A0_2 l0_2.length c0_2, .string a0_3]) (t := 54) ?_; intro gb401 hg w6 hbox hb; have BK401 := Aside0.mk (hbox); have GE401 := xge_ HB hg; replace HB := xws_ HB hb; clear hb hbox hg; have ⟨_, _, _, _, _, _, _, _⟩ := c4_ BK401) | ((with_reducible refine gc_ 95 ?_); refine xgl_ (some 14) Tryz.func95 #[.slice A0_2 l0_2.length c0_2, .string (⟨#[118, 97, 114, 121]⟩ : ByteArray)] ?_; (with_reducible refine (impl_valuesOf.calls k _ _ l0_2 (⟨#[118, 97, 114, 121]⟩ : ByteArray) t402 _ ?side1 ?side2 A2.out).mono ?_); (case side1 => exact xc_ ((Kd.C_below HR0_2.out HB.out))); (case side2 => exact HC0_2.out); rintro e w8 ⟨v403, rfl, ho0, hb⟩; refine ⟨_, rfl, ?_⟩; have HO404 := Aside0.mk (Kd.R_lower ho0 (below_size (xw_ HB))); replace BK401 := xbb_ BK401 hb; replace HB := xws_ HB hb; (try clear hb); (try clear ho0); obtain ⟨Ao9, co9, eo9⟩ := Kd.R_slice HO404.out; subst eo9) | ((with_reducible refine gc_ 94 ?_); refine xgl_ (some 15) Tryz.func94 #[.slice Ao9 t402.length co9, .string (⟨#[44, 32]⟩ : ByteArray)] ?_; (with_reducible refine (strings_Join.calls _ _ t402 (⟨#[44, 32]⟩ : ByteArray) t405 _ ?side1 ?side2 A3.out).mono ?_); (case side1 => exact xc_ ((Kd.R_reads' HO404.out).2.2)); (case side2 => exact (Kd.R_reads' HO404.out).2.1); rintro e w10 ⟨rfl, hb⟩; refine ⟨_, rfl, ?_⟩; replace HO404 := xrb_ HO404 hb; replace BK401 := xbb_ BK401 hb; replace HB := xws_ HB hb; (try clear hb)) | ((with_reducible refine gc_ 93 ?_); refine xgl_ (some 16) Tryz.func93 #[.string t405] ?_; (with_reducible refine (impl_listOf.calls k t405 t406 t407 _ A4.out).mono ?_); rintro e w11 ⟨v408, rfl, ho0, hb⟩; refine ⟨_, rfl, ?_⟩; have HO409 := Aside0.mk (Kd.R_lower (Kd.R_new' ho0 (Kd.R_lt (xr_ HO404))) (below_size (xw_ HB))); replace HO404 := xre_ HO404 ho0 hb; replace BK401 := xbb_ BK401 hb; replace HB := xws_ HB hb; (try clear hb); (try clear ho0)))
 (try simp only [Act.put, List.setIfInBounds_toArray, List.set_cons_zero, List.set_cons_succ])
 go_cut [25] (fun v25 wc => ∃ (kq : Nat) (x25_4 : Bool), v25 = .bool x25_4 ∧ Aside0 (impl_vary.j0 kq t406 x25_4 = some (r1, r2, r3)) ∧ Aside0 (kq ≤ k) ∧ Aside0 (Kd.R Kd.string 9 wc w.heap.size (fun _ => True) v408 t406) ∧ Aside0 (wc.heap[gb401]? = some (.cells #[.int .i64 a0_0, .string a0_1, (.slice A0_2 l0_2.length c0_2), .string a0_3] 54 (0, 0))) ∧ Aside0 (Below w.heap.size w wc))
 case first =>
  have H := HC5.out
  clear HC5
  by_cases c12 : t407 = true
  ·subst c12
   rw [if_pos rfl] at H
   replace H := mb_ H
   obtain ⟨t410, A13, H⟩ := H
   have H' := Aside0.mk H
   clear H
   obtain ⟨Ao14, co14, eo14⟩ := Kd.R_slice HO409.out
   subst eo14
   go_wp2_with (first | (go_at_call 96; (with_reducible refine (xAll_str_impl_isToken.calls _ _ t406  t410 _ ?side1 ?side2 A13.out).mono ?_); (case side1 => exact xc_ ((Kd.R_reads' HO409.out).2.2)); (case side2 => exact (Kd.R_reads' HO409.out).2.1); rintro e w15 ⟨rfl, hb⟩; replace HO404 := xrb_ HO404 hb; replace HO409 := xrb_ HO409 hb; replace BK401 := xbb_ BK401 hb; replace HB := xws_ HB hb; (try clear hb)))
   go_meet
   case rel => exact ⟨_, (!t410), me_, H', ⟨by first | omega | exact Nat.le_refl _⟩, ⟨xrt_ (Kd.R_mono HO409.out (fun _ hk => trivial))⟩, ⟨xb_ BK401⟩, ⟨xw_ HB⟩⟩
  ·replace c12 := Bool.eq_false_iff.mpr c12
   subst c12
   rw [if_neg (show ¬ (false = true) by decide)] at H
   have H' := Aside0.mk H
   clear H
   go_wp2
   go_meet
   case rel => exact ⟨_, (true), me_, H', ⟨by first | omega | exact Nat.le_refl _⟩, ⟨xrt_ (Kd.R_mono HO409.out (fun _ hk => trivial))⟩, ⟨xb_ BK401⟩, ⟨xw_ HB⟩⟩
 case rest =>
  clear HC5
  obtain ⟨kq, x25_4, rfl, HA, HJ4, HO_5, BK401, HB⟩ := hcut
  cases kq with
  | zero => exact absurd HA.out (by simp [impl_vary.j0])
  | succ kj4 =>
   have H := HA.out
   clear HA
   simp only [impl_vary.j0] at H
   by_cases c16 : x25_4 = true
   ·subst c16
    rw [if_pos rfl] at H
    simp only [Option.some.injEq, Prod.mk.injEq] at H
    obtain ⟨rfl, rfl, rfl⟩ := H
    go_wp2
    go_ret3
    exact ⟨_, mf_, by first | exact Kd.R_nil _ _ _ _ _ | exact Kd.N_nil _ _ _ _ _ | exact Kd.V_nil _ _ _ _ _ | exact Kd.Q_nil _ _ _ _ _ | exact Kd.S_nil _ _ _ _ _, xw_ HB⟩
   ·replace c16 := Bool.eq_false_iff.mpr c16
    subst c16
    rw [if_neg (show ¬ (false = true) by decide)] at H
    have H' := Aside0.mk H
    clear H
    obtain ⟨Ao17, co17, eo17⟩ := Kd.R_slice HO_5.out
    subst eo17
    go_wp2
    go_loopg [7, 8, 28] kj4 (fun kq v7 v8 v28 w' => ∃ (x7_2 : List ByteArray) (x8_2 : Bool) (x28_2 : Int), v8 = .bool x8_2 ∧ v28 = .int .i64 x28_2 ∧ Aside0 (impl_vary.l0 kq x7_2 x8_2 t406 (t406.length : Int) x28_2 = some (r1, r2, r3)) ∧ Aside0 (kq ≤ kj4) ∧ Aside0 (Kd.R Kd.string 9 w' w.heap.size (fun k_ => some k_ ≠ ((.slice Ao17 t406.length co17) : Value).ownBlock) v7 x7_2) ∧ Aside0 (Kd.R Kd.string 9 w' w.heap.size (fun k_ => some k_ ≠ (v7 : Value).ownBlock) (.slice Ao17 t406.length co17) t406) ∧ Aside0 (w'.heap[gb401]? = some (.cells #[.int .i64 a0_0, .string a0_1, (.slice A0_2 l0_2.length c0_2), .string a0_3] 54 (0, 0))) ∧ Aside0 (Below w.heap.size w w'))
    case atStart => exact ⟨(([] : List ByteArray)), (false), (0), me_, me_, H', ⟨Nat.le_refl _⟩, ⟨by first | exact Kd.R_nil _ _ _ _ _ | exact Kd.N_nil _ _ _ _ _ | exact Kd.V_nil _ _ _ _ _ | exact Kd.Q_nil _ _ _ _ _ | exact Kd.S_nil _ _ _ _ _⟩, ⟨xrt_ (Kd.R_mono HO_5.out (fun _ hk => (by simp [Value.ownBlock])))⟩, ⟨xb_ BK401⟩, ⟨xw_ HB⟩⟩
    case round =>
     clear H'
     try clear c16
     obtain ⟨x7_2, x8_2, x28_2, rfl, rfl, HA, HK2, HO_7, HO_26, BK401, HB⟩ := hrel
     cases gk with
     | zero => exact absurd HA.out (by simp [impl_vary.l0])
     | succ k2 =>
      have H := HA.out
      clear HA
      simp only [impl_vary.l0] at H
      by_cases c18 : x28_2 < (t406.length : Int)
      ·rw [if_pos c18] at H
       have c18b0 := decide_eq_true c18
       clear c18
       replace H := mi_ H
       obtain ⟨c19, H⟩ := H
       have c19b0 := decide_eq_true c19
       clear c19
       replace H := mi_ H
       obtain ⟨c20, H⟩ := H
       have c20b0 := decide_eq_true c20
       clear c20
       by_cases c21 : (rdOf ByteArray.empty t406 x28_2).toList = ([42] : List UInt8)
       ·rw [if_pos c21] at H
        have c21b0 : ((rdOf ByteArray.empty t406 x28_2).toList == ([42] : List UInt8)) = true := beq_iff_eq.mpr c21
        have c21b1 : ((rdOf ByteArray.empty t406 x28_2).toList != ([42] : List UInt8)) = false := bne_eq_false_iff_eq.mpr c21
        clear c21
        have H' := Aside0.mk H
        clear H
        have p411 : 0 ≤ (x28_2 : Int) := md_
        have q411 : x28_2 < (t406.length : Int) := md_
        obtain ⟨ad411, e411, hx411_0⟩ := Kd.at_string (Kd.R_reads' HO_26.out).2.2 x28_2 p411 q411
        cases e411
        replace p411 := eq_true p411
        replace q411 := eq_true q411
        go_wp2
        go_roundg k2
        case measure => have := HJ4.out; have := HK2.out; omega
        case rel => exact ⟨(x7_2), (true), (wrap64 (x28_2 + 1)), me_, me_, H', ⟨by have := HJ4.out; have := HK2.out; omega⟩, ⟨xr_ HO_7⟩, ⟨xr_ HO_26⟩, ⟨xb_ BK401⟩, ⟨xw_ HB⟩⟩
       ·rw [if_neg c21] at H
        have c21b0 : ((rdOf ByteArray.empty t406 x28_2).toList == ([42] : List UInt8)) = false := beq_eq_false_iff_ne.mpr c21
        have c21b1 : ((rdOf ByteArray.empty t406 x28_2).toList != ([42] : List UInt8)) = true := bne_iff_ne.mpr c21
        replace H := mb_ H
        obtain ⟨t412, A22, H⟩ := H
        replace H := mi_ H
        obtain ⟨c23, H⟩ := H
        have LMc23 := Aside0.mk c23
        clear c23
        obtain ⟨y413, hy413⟩ : ∃ y_ : List ByteArray, y_ = (x7_2 ++ [t412]) := ⟨_, rfl⟩
        replace H : (impl_vary.l0 k2 y413 x8_2 t406 (t406.length : Int) (wrap64 (x28_2 + 1))) = some (r1, r2, r3) := by first | (rw [hy413]; with_reducible exact H) | (have H2_ := (Option.bind_some _ _).symm.trans H; rw [hy413]; with_reducible exact H2_) | (have H2_ := (Option.bind_some _ _).symm.trans H; with_reducible exact H2_) | with_reducible exact H | (rw [hy413]; exact H) | exact H
        have Ny413 := Aside0.mk hy413
        clear hy413
        have H' := Aside0.mk H
        clear H
        have p411 : 0 ≤ (x28_2 : Int) := md_
        have q411 : x28_2 < (t406.length : Int) := md_
        obtain ⟨ad411, e411, hx411_0⟩ := Kd.at_string (Kd.R_reads' HO_26.out).2.2 x28_2 p411 q411
        cases e411
        replace p411 := eq_true p411
        replace q411 := eq_true q411
        go_wp2_with (first | ((with_reducible refine gc_ 81 ?_); refine xgl_ (some 36) Tryz.func81 #[.string (rdOf ByteArray.empty t406 x28_2)] ?_; (with_reducible refine (impl_small.calls (rdOf ByteArray.empty t406 x28_2) t412 _ A22.out).mono ?_); rintro e w24 ⟨rfl, hb⟩; refine ⟨_, rfl, ?_⟩; replace HO_7 := xrb_ HO_7 hb; replace HO_26 := xrb_ HO_26 hb; replace BK401 := xbb_ BK401 hb; replace HB := xws_ HB hb; (try clear hb)) | ((with_reducible refine gate_builtin (b := .append) (xs := #[.tmp 34, .tmp 37]) rfl ?_); at_builtin; refine Kd.R_append Kd.string (w0 := w) w.heap.size rfl (.tmp 34) (.tmp 37) 50 9 (.string ⟨#[]⟩) 16 rfl Tryz.underlying50 info9 rfl (by decide) (by omega) u7 x7_2 t412 [.string t412] (fun k_ => some k_ ≠ (.slice (some ad411) t406.length co17 : Value).ownBlock) (fun _ => False) rfl rfl ?aP (fun _ hk => hk.elim) ?aF ?aO ?aB ?aS ?aL ?_; (case aP => exact rfl); (case aB => exact (xw_ HB)); (case aF => exact (fun k_ hk => Kd.fresh' (Kd.R_lt (xr_ HO_26)) k_ hk)); (case aO => exact (xr_ HO_7)); (case aS => exact (below_size (xw_ HB))); (case aL => have := LMc23.out; omega); intro v414 w25 ho hb hg hat; rw [← Ny413.out] at ho; replace HO_26 := Aside0.mk (Kd.R_after (ok := (fun _ => True)) (xrt_ (Kd.R_mono HO_26.out (fun _ hk => ⟨trivial, hk⟩))) hg hat); replace BK401 := Aside0.mk (blk_grown (g := gb401) (o := .cells #[.int .i64 a0_0, .string a0_1, .slice A0_2 l0_2.length c0_2, .string a0_3] 54 (0, 0)) (xb_ BK401) hg (Kd.R_ne HO_7.out BK401.out (by decide))); replace HB := Aside0.mk (hb); have HO415 := Aside0.mk (ho); clear HO_7; clear ho hb hg hat))
        go_roundg k2
        case measure => have := HJ4.out; have := HK2.out; omega
        case rel => exact ⟨(y413), (x8_2), (wrap64 (x28_2 + 1)), me_, me_, H', ⟨by have := HJ4.out; have := HK2.out; omega⟩, ⟨xr_ HO415⟩, ⟨xrt_ (Kd.R_mono HO_26.out (fun _ hk => hk.2))⟩, ⟨xb_ BK401⟩, ⟨xw_ HB⟩⟩
      ·rw [if_neg c18] at H
       have c18b0 := decide_eq_false c18
       clear c18
       replace H := mb_ H
       obtain ⟨t416, A26, H⟩ := H
       simp only [Option.some.injEq, Prod.mk.injEq] at H
       obtain ⟨rfl, rfl, rfl⟩ := H
       obtain ⟨Ao27, co27, eo27⟩ := Kd.R_slice HO_7.out
       subst eo27
       have hX_ := xSortC.of A26.out
       have HXL_ := Aside0.mk hX_.1
       have HXE_ := Aside0.mk hX_.2
       clear hX_
       go_wp2_with (first | (go_at_call 98; (with_reducible refine (xSort_in (w0 := w) (base := w.heap.size) (by (with_reducible repeat (first | apply Kd.R_alloc | apply Kd.R_drewN | apply Kd.R_drew)); exact HO_7.out) (by repeat (first | (with_reducible first | exact HB.out | apply below_alloc | apply pw_below_drewN | apply below_drew1) | exact HB.out)) HXL_.out).mono ?_); rintro e w71_ ⟨rfl, ho1, hb1⟩; have HO1_ := Aside0.mk ho1; have HB1_ := Aside0.mk hb1; clear ho1 hb1) | (go_at_call 99; (with_reducible refine (xComp_in (w0 := w) (base := w.heap.size) (by (with_reducible repeat (first | apply Kd.R_alloc | apply Kd.R_drewN | apply Kd.R_drew)); exact HO1_.out) (by repeat (first | (with_reducible first | exact HB1_.out | apply below_alloc | apply pw_below_drewN | apply below_drew1) | exact HB1_.out)) (by rw [sortT_len]; exact HXL_.out)).mono ?_); rintro e w72_ ⟨m72_, rfl, ho2, hb2⟩; have HO2_ := Aside0.mk ho2; have HB2_ := Aside0.mk hb2; clear ho2 hb2))
       go_ret3
       rw [← HXE_.out]
       exact ⟨_, by first | rfl | (simp [*]; done), by (with_reducible repeat (first | apply Kd.R_alloc | apply Kd.R_drewN | apply Kd.R_drew)); exact Kd.R_mono HO2_.out (fun _ hk => trivial), (by repeat (first | (with_reducible first | exact HB2_.out | apply below_alloc | apply pw_below_drewN | apply below_drew1) | exact HB2_.out))⟩

/-! ### impl_isResponseLine: function 91 -/
def impl_isResponseLine.f (a0_0 : Int) (a0_1 : ByteArray) (l0_2 : List (S105)) (a0_3 : ByteArray) : Option (Bool) := (impl_within.f a0_0 100 599).bind fun t420 => (if t420 = true then ((impl_isPrinted.f a0_1 40).bind fun t421 => (some t421)) else (some false))
set_option maxHeartbeats 8000000 in
set_option maxRecDepth 100000 in
theorem impl_isResponseLine.calls (a0_0 : Int) (a0_1 : ByteArray) (A0_2 : Option Addr) (c0_2 : Nat) (l0_2 : List (S105)) (a0_3 : ByteArray) (r : Bool) (w : World) (hr0_2 : Kd.C k105 w A0_2 l0_2.length l0_2) (hc0_2 : l0_2.length ≤ c0_2) (h : impl_isResponseLine.f a0_0 a0_1 l0_2 a0_3 = some r) :
  Calls Tryz.prog 91 #[.agg #[.int .i64 a0_0, .string a0_1, .slice A0_2 l0_2.length c0_2, .string a0_3]] w fun e w' => e = .returned (.bool r) ∧ Below w.heap.size w w' := by
 have hu54 := Tryz.underlying54
 have HR0_2 := Aside0.mk hr0_2
 have HC0_2 := Aside0.mk hc0_2
 clear hr0_2 hc0_2
 have HB := Aside0.mk (Below.refl w.heap.size w)
 have H := h
 unfold impl_isResponseLine.f at H
 clear h
 replace H := mb_ H
 obtain ⟨t420, A2, H⟩ := H
 by_cases c3 : t420 = true
 ·subst c3
  rw [if_pos rfl] at H
  replace H := mb_ H
  obtain ⟨t421, A4, H⟩ := H
  obtain rfl := Option.some.inj H
  go_enter Tryz.func91, Tryz.ntmps91
  go_wp2_with (first | ((with_reducible refine gd_ 1 ?_); refine xbe_ (N := 1) (cs := #[.int .i64 a0_0, .string a0_1, .slice A0_2 l0_2.length c0_2, .string a0_3]) (t := 54) ?_; intro gb419 hg w5 hbox hb; have BK419 := Aside0.mk (hbox); have GE419 := xge_ HB hg; replace HB := xws_ HB hb; clear hb hbox hg; have ⟨_, _, _, _, _, _, _, _⟩ := c4_ BK419) | ((with_reducible refine gc_ 119 ?_); refine xgl_ (some 5) Tryz.func119 #[.int .i64 a0_0, .int .i64 100, .int .i64 599] ?_; (with_reducible refine (impl_within.calls a0_0 100 599 true _ A2.out).mono ?_); rintro e w' ⟨rfl, ⟨nd, rfl⟩⟩; refine ⟨_, rfl, ?_⟩) | (go_at_call 141; (with_reducible refine (impl_isPrinted.calls a0_1 40 t421 _ A4.out).mono ?_); rintro e w7 ⟨rfl, hb⟩; replace BK419 := xbb_ BK419 hb; replace HB := xws_ HB hb; (try clear hb)))
  go_ret
  exact ⟨mf_, xw_ HB⟩
 ·replace c3 := Bool.eq_false_iff.mpr c3
  subst c3
  rw [if_neg (show ¬ (false = true) by decide)] at H
  obtain rfl := Option.some.inj H
  go_enter Tryz.func91, Tryz.ntmps91
  go_wp2_with (first | ((with_reducible refine gd_ 1 ?_); refine xbe_ (N := 1) (cs := #[.int .i64 a0_0, .string a0_1, .slice A0_2 l0_2.length c0_2, .string a0_3]) (t := 54) ?_; intro gb419 hg w8 hbox hb; have BK419 := Aside0.mk (hbox); have GE419 := xge_ HB hg; replace HB := xws_ HB hb; clear hb hbox hg; have ⟨_, _, _, _, _, _, _, _⟩ := c4_ BK419) | ((with_reducible refine gc_ 119 ?_); refine xgl_ (some 5) Tryz.func119 #[.int .i64 a0_0, .int .i64 100, .int .i64 599] ?_; (with_reducible refine (impl_within.calls a0_0 100 599 false _ A2.out).mono ?_); rintro e w' ⟨rfl, ⟨nd, rfl⟩⟩; refine ⟨_, rfl, ?_⟩))
  go_ret
  exact ⟨mf_, xw_ HB⟩

/-! ### strconv_Itoa: function 132 -/
def strconv_Itoa.f (a0 : Int) : Option (ByteArray) := if -9223372036854775808 ≤ a0 then (if a0 ≤ 9223372036854775807 then some ⟨(Lib.itoa a0).toArray⟩ else none) else none
theorem strconv_Itoa.calls (a0 : Int) (r : ByteArray) (w : World) (h : strconv_Itoa.f a0 = some r) (hT : TabOk w) :
    Calls Tryz.prog 132 #[.int .i64 a0] w fun e w' => e = .returned (.string r) ∧ Below w.heap.size w w' := by
  unfold strconv_Itoa.f at h
  by_cases c : -9223372036854775808 ≤ a0
  · rw [if_pos c] at h
    by_cases c2 : a0 ≤ 9223372036854775807
    · rw [if_pos c2] at h
      obtain rfl := Option.some.inj h
      refine (Tryz.strconv_Itoa a0 (by omega) (by omega) w hT.2).mono fun e w' hq => ⟨hq.1, ?_⟩
      obtain ⟨k, os, rfl⟩ := hq.2
      exact below_grow_ w k os
    · rw [if_neg c2] at h; cases h
  · rw [if_neg c] at h; cases h

end Go.Proofs.YtpggepjfhgalkaaGreatDoor.PFnExactPickItem
