-- Written by a program of this project (xprint.py) out of the translation; Lean checks it.
import Derived.Test.YtjkpomphkfecmaaGreatDoorPFnChoicesx0
import Derived.Test.YtjkpomphkfecmaaGreatDoorPFnChoicesx3
import Derived.Test.YtjkpomphkfecmaaGreatDoorPFnChoicesx4
import Derived.Test.YtjkpomphkfecmaaGreatDoorPFnChoicesx5
import Derived.Test.YtjkpomphkfecmaaGreatDoorPFnChoicesx6
namespace Go.Proofs.YtjkpomphkfecmaaGreatDoor.PFnChoices
open Go.RowKit Go.Proofs.YtjkpomphkfecmaaGreatDoorW.PrintWords Go.Proofs.YtjkpomphkfecmaaGreatDoorW.PrintLast Go.Proofs.YtjkpomphkfecmaaGreatDoorW.PrintMore
attribute [local go_sem] max2_int min2_int max_two min_two max_three min_three max_four min_four   -- for this text's walks alone
set_option linter.unusedVariables false
set_option linter.unusedSimpArgs false

set_option maxHeartbeats 4000000 in
/-- slices.IndexFunc: the first place at which the predicate holds -/
theorem xIndexFunc_T32 (p : S32 → Option Bool) (g : Nat) (lb : Array Value) (eg : ∀ args w, (callFunc g args).run Tryz.prog w = .ok (.enter g args) w) (A0 : Option Addr) (c0 : Nat) (l0 : List S32) (i : Int) (w : World)
    (hr0 : Kd.C k32 w A0 l0.length l0) (hc0 : l0.length ≤ c0) (hbig : l0.length < 9223372036854775807)
    (hp : ∀ (W : World) (x : S32) (b : Bool), Below w.heap.size w W → p x = some b → Calls Tryz.prog g (#[.agg #[.string x.f0, .int .i64 x.f1]] ++ lb) W fun e w' => e = .returned (.bool b) ∧ Below w.heap.size w w')
    (h : idxO p l0 0 = some i) :
    Calls Tryz.prog 64 #[.slice A0 l0.length c0, .func (.func g) #[] lb] w fun e w' => e = .returned (.int .i64 i) ∧ Below w.heap.size w w' := by
  have HR0 := Aside0.mk hr0
  have HC0 := Aside0.mk hc0
  have HP := Aside0.mk hp
  have HI := Aside0.mk h
  clear hr0 hc0 hp h
  go_enter Tryz.func64, Tryz.ntmps64
  go_wp2
  go_loopg [5, 8] l0.length (fun gg _ s8 wr => ∃ kk : Nat, kk ≤ l0.length ∧ l0.length - kk ≤ gg ∧ s8 = .int .i64 kk ∧ Aside0 (Below w.heap.size w wr) ∧ Aside0 (idxO p (l0.drop kk) (kk : Int) = some i))
  case atStart => exact ⟨0, Nat.zero_le _, by omega, rfl, ⟨Below.refl _ w⟩, HI⟩
  case round =>
    obtain ⟨kk, hkk, hg, rfl, BW, A⟩ := hrel
    clear HI
    by_cases hlt : kk < l0.length
    · have hltz : (kk : Int) < (l0.length : Int) := by omega
      have H := A.out
      clear A
      rw [idxO_at p l0 kk hlt] at H
      obtain ⟨b, hb, H⟩ := Option.bind_eq_some_iff.mp H
      have hcall := HP.out wr l0[kk] b BW.out hb
      have hrd : rd_T32 l0 (kk : Int) = l0[kk] := by unfold rd_T32; simp [List.getD_eq_getElem?_getD, hlt]
      obtain ⟨ad, he, hy0, hy1⟩ := at_T32 (Kd.C_below HR0.out BW.out) (kk : Int) (by omega) hltz
      cases he
      have hx0 : wr.cell? (ad.add (kk * 2)) = some (.string (l0[kk].f0)) := by rw [← hrd]; exact hy0
      have hx1 : wr.cell? ⟨(ad.add (kk * 2)).block, (ad.add (kk * 2)).off + 1, none⟩ = some (.int .i64 (l0[kk].f1)) := by rw [← hrd]; exact hy1
      clear hy0 hy1
      generalize l0[kk] = x at *
      cases b with
      | true =>
        obtain rfl : (kk : Int) = i := Option.some.inj H
        clear H hb
        go_wp2_with (go_at_fn g; refine hcall.mono ?_; rintro e w' ⟨rfl, hb'⟩)
        go_ret
        exact ⟨rfl, hb'⟩
      | false =>
        have H' := Aside0.mk H
        clear H hb
        go_wp2_with (go_at_fn g; refine hcall.mono ?_; rintro e w' ⟨rfl, hb'⟩)
        go_roundg (l0.length - (kk + 1))
        case measure => omega
        case rel => exact ⟨kk + 1, by omega, by omega, by go_num, ⟨hb'⟩, ⟨by have z := H'.out; rw [if_neg (by decide)] at z; exact z⟩⟩
    · have hltz : ¬ (kk : Int) < (l0.length : Int) := by omega
      have H := A.out
      rw [List.drop_of_length_le (by omega)] at H
      obtain rfl : (-1 : Int) = i := Option.some.inj H
      clear H A
      go_wp2
      go_ret
      exact ⟨rfl, BW.out⟩
/-! ### impl_weightFor: function 27 -/
/-- a choice's name is the one that is wanted -/
def impl_weightFor.p (c : ByteArray) (x : S32) : Option Bool := some (x.f0.toList == c.toList)
def impl_weightFor.r (l0 : List S32) : List ByteArray → Option Int
  | [] => some 0
  | c :: cs => (idxO (impl_weightFor.p c) l0 0).bind fun i => if i ≥ 0 then some (rd_T32 l0 i).f1 else impl_weightFor.r l0 cs
def impl_weightFor.f (l0 : List S32) (a1 : ByteArray) : Option Int :=
  (impl_small.f a1).bind fun s => if l0.length < 9223372036854775807 then impl_weightFor.r l0 [s, (⟨#[42]⟩ : ByteArray)] else none
theorem wf_range {α : Type} (p : α → Option Bool) : ∀ (l : List α) (n i : Int), 0 ≤ n → idxO p l n = some i → i = -1 ∨ (n ≤ i ∧ i < n + l.length)
  | [], n, i, _, h => by
    obtain rfl : (-1 : Int) = i := Option.some.inj h
    exact Or.inl rfl
  | x :: xs, n, i, hn, h => by
    unfold idxO at h
    obtain ⟨b, _, h⟩ := Option.bind_eq_some_iff.mp h
    by_cases hb : b = true
    · rw [if_pos hb] at h
      obtain rfl := Option.some.inj h
      exact Or.inr ⟨Int.le_refl _, by simp only [List.length_cons]; omega⟩
    · rw [if_neg hb] at h
      rcases wf_range p xs (n + 1) i (by omega) h with h1 | ⟨h1, h2⟩
      · exact Or.inl h1
      · exact Or.inr ⟨by omega, by simp only [List.length_cons]; omega⟩
set_option maxHeartbeats 8000000 in
set_option maxRecDepth 100000 in
/-- the literal that looks for a name -/
theorem wf_lit (x : S32) (c : ByteArray) (gb : Nat) (W : World) (hc : W.cell? ⟨gb, 0, none⟩ = some (.string c)) :
    Calls Tryz.prog 65 #[.agg #[.string x.f0, .int .i64 x.f1], .pointer (some ⟨gb, 0, none⟩)] W fun e w' => e = .returned (.bool (x.f0.toList == c.toList)) ∧ Below W.heap.size W w' := by
  have hu32 := Tryz.underlying32
  have hlt : gb < W.heap.size := World.block_lt_of_cell? W _ hc
  have hne : gb ≠ W.heap.size := Nat.ne_of_lt hlt
  go_enter Tryz.func65, Tryz.ntmps65
  go_wp2
  go_ret
  exact ⟨rfl, by repeat (first | exact Below.refl _ _ | apply below_drew1 | apply pw_below_drewN | apply below_alloc)⟩
set_option maxHeartbeats 8000000 in
set_option maxRecDepth 100000 in
theorem impl_weightFor.calls (A0 : Option Addr) (c0 : Nat) (l0 : List (S32)) (a1 : ByteArray) (r1 : Int) (w : World) (hr0 : Kd.C k32 w A0 l0.length l0) (hc0 : l0.length ≤ c0) (h : impl_weightFor.f l0 a1 = some r1) :
    Calls Tryz.prog 27 #[.slice A0 l0.length c0, .string a1] w fun e w' => e = .returned (.int .i64 r1) ∧ Below w.heap.size w w' := by
  have HR0 := Aside0.mk hr0
  have HC0 := Aside0.mk hc0
  clear hr0 hc0
  have hu32 := Tryz.underlying32
  unfold impl_weightFor.f at h
  obtain ⟨s, hs, h⟩ := Option.bind_eq_some_iff.mp h
  have HS := Aside0.mk (impl_small.calls a1 s w hs)
  clear hs
  by_cases hbig : l0.length < 9223372036854775807
  · rw [if_pos hbig] at h
    have HX : Aside0 (∀ (W : World) (gb : Nat) (c : ByteArray) (i : Int), Below w.heap.size w W → W.cell? ⟨gb, 0, none⟩ = some (.string c) → idxO (impl_weightFor.p c) l0 0 = some i → Calls Tryz.prog 64 #[.slice A0 l0.length c0, .func (.func 65) #[] #[.pointer (some ⟨gb, 0, none⟩)]] W fun e w' => e = .returned (.int .i64 i) ∧ Below W.heap.size W w') := ⟨fun W gb c i hW hc hi => by
      refine xIndexFunc_T32 (impl_weightFor.p c) 65 #[.pointer (some ⟨gb, 0, none⟩)] (enters_of Tryz.func65 (by kernel_rfl) rfl) A0 c0 l0 i W (Kd.C_below HR0.out hW) HC0.out (by omega) (fun W2 x b hW2 hp => ?_) hi
      obtain rfl : (x.f0.toList == c.toList) = b := Option.some.inj hp
      have hlt : (⟨gb, 0, none⟩ : Addr).block < W.heap.size := World.block_lt_of_cell? W _ hc
      exact (wf_lit x c gb W2 ((hW2.cell (p := ⟨gb, 0, none⟩) hlt).trans hc)).mono fun e w' hq => ⟨hq.1, hW2.trans (hq.2.mono hW2.size)⟩⟩
    have HH := Aside0.mk h
    clear h hbig
    go_enter Tryz.func27, Tryz.ntmps27
    go_wp2_with (go_at_call 63; refine HS.out.mono ?_; rintro e w1 ⟨rfl, hb1⟩; have HB1 := Aside0.mk hb1; clear hb1)
    obtain ⟨V, hV⟩ : ∃ V, V = w1.alloc (Obj.cells #[Value.string s, Value.string (⟨#[42]⟩ : ByteArray)] 9) := ⟨_, rfl⟩
    obtain ⟨B, hB⟩ : ∃ B, B = w1.heap.size := ⟨_, rfl⟩
    rw [← hV, ← hB]
    have hc0 : V.cell? ⟨B, 0, none⟩ = some (.string s) := by rw [hV, hB]; exact World.cell?_alloc_at _ _ _ 0 rfl
    have hc1 : V.cell? ⟨B, 1, none⟩ = some (.string (⟨#[42]⟩ : ByteArray)) := by rw [hV, hB]; exact World.cell?_alloc_at _ _ _ 1 rfl
    have HBV : Aside0 (Below w.heap.size w V) := ⟨by rw [hV]; exact HB1.out.alloc (by exact HB1.out.size) _⟩
    have HCV : Aside0 (V.cell? ⟨B, 0, none⟩ = some (.string s) ∧ V.cell? ⟨B, 1, none⟩ = some (.string (⟨#[42]⟩ : ByteArray))) := ⟨⟨hc0, hc1⟩⟩
    clear hc0 hc1 hV hB
    go_loopg [6, 7, 12] 3 (fun gg _ _ s12 wr => ∃ kk : Nat, kk ≤ 2 ∧ 2 - kk ≤ gg ∧ s12 = .int .i64 kk ∧ Aside0 (Below w.heap.size w wr) ∧ Aside0 (wr.cell? ⟨B, 0, none⟩ = some (.string s) ∧ wr.cell? ⟨B, 1, none⟩ = some (.string (⟨#[42]⟩ : ByteArray))) ∧ Aside0 (impl_weightFor.r l0 ([s, (⟨#[42]⟩ : ByteArray)].drop kk) = some r1))
    case atStart => exact ⟨0, by omega, by omega, rfl, HBV, HCV, HH⟩
    case round =>
      obtain ⟨kk, hkk, hg, rfl, BW, CW, A⟩ := hrel
      clear HBV HCV HH
      rcases (show kk = 0 ∨ kk = 1 ∨ kk = 2 by omega) with rfl | rfl | rfl
      · have hx := CW.out.1
        have H : ((idxO (impl_weightFor.p s) l0 0).bind fun i => if i ≥ 0 then some (rd_T32 l0 i).f1 else impl_weightFor.r l0 [(⟨#[42]⟩ : ByteArray)]) = some r1 := A.out
        clear A
        obtain ⟨i, hi, H⟩ := Option.bind_eq_some_iff.mp H
        have hrange := wf_range (impl_weightFor.p s) l0 0 i (Int.le_refl 0) hi
        obtain ⟨V3, hV3⟩ : ∃ V3, V3 = wr.alloc (.cells #[.string s] 9) := ⟨_, rfl⟩
        have hlt : B < wr.heap.size := World.block_lt_of_cell? wr _ CW.out.1
        have hc3 : V3.cell? ⟨wr.heap.size, 0, none⟩ = some (.string s) := by rw [hV3]; exact World.cell?_alloc_at _ _ _ 0 rfl
        have HB3 : Aside0 (Below w.heap.size w V3) := ⟨by rw [hV3]; exact (BW.out).alloc BW.out.size _⟩
        have hs3 : V3.heap.size = wr.heap.size + 1 := by rw [hV3]; simp
        have HC3 : Aside0 (V3.cell? ⟨B, 0, none⟩ = some (.string s) ∧ V3.cell? ⟨B, 1, none⟩ = some (.string (⟨#[42]⟩ : ByteArray))) := ⟨by rw [hV3, World.cell?_alloc_past _ _ _ hlt, World.cell?_alloc_past _ _ _ hlt]; exact CW.out⟩
        have HCALL := Aside0.mk (HX.out V3 _ s i HB3.out hc3 hi)
        have HKEEP : Aside0 (∀ W, Below V3.heap.size V3 W → W.cell? ⟨B, 0, none⟩ = some (.string s) ∧ W.cell? ⟨B, 1, none⟩ = some (.string (⟨#[42]⟩ : ByteArray))) := ⟨fun W hW => ⟨(hW.cell (p := ⟨B, 0, none⟩) (show B < V3.heap.size by omega)).trans HC3.out.1, (hW.cell (p := ⟨B, 1, none⟩) (show B < V3.heap.size by omega)).trans HC3.out.2⟩⟩
        clear hi hlt hc3 hs3
        by_cases hpos : 0 ≤ i
        · rw [if_pos hpos] at H
          have hv := Option.some.inj H
          have hup : i < (l0.length : Int) := by omega
          have hposb : decide (0 ≤ i) = true := decide_eq_true hpos
          obtain ⟨ad, he, _⟩ := at_T32 HR0.out i hpos hup
          cases he
          have hat : Aside0 (∀ W, Below w.heap.size w W → W.cell? ⟨(ad.add (i.toNat * 2)).block, (ad.add (i.toNat * 2)).off + 1, none⟩ = some (.int .i64 r1)) := ⟨fun W hW => by
            rw [← hv]
            obtain ⟨ad2, he2, hy0, hy1⟩ := at_T32 (Kd.C_below HR0.out hW) i hpos hup
            cases he2
            exact hy1⟩
          clear H hv hrange CW HC3 HKEEP HX
          go_wp2_with (go_at_call 64; rw [← hV3]; refine HCALL.out.mono ?_; rintro e w4 ⟨rfl, hb4⟩; have HB4 : Aside0 (Below w.heap.size w w4) := ⟨HB3.out.trans (hb4.mono HB3.out.size)⟩; clear hb4; have hy1 := hat.out w4 HB4.out)
          go_ret
          exact ⟨rfl, by repeat (first | exact HB4.out | apply below_drew1 | apply pw_below_drewN)⟩
        · rw [if_neg hpos] at H
          have H' := Aside0.mk H
          have hposb : decide (0 ≤ i) = false := decide_eq_false hpos
          clear H hrange CW HC3 HX
          go_wp2_with (go_at_call 64; rw [← hV3]; refine HCALL.out.mono ?_; rintro e w4 ⟨rfl, hb4⟩; have HB4 : Aside0 (Below w.heap.size w w4) := ⟨HB3.out.trans (hb4.mono HB3.out.size)⟩; have HC4 := Aside0.mk (HKEEP.out _ hb4); clear hb4)
          go_roundg (2 - (0 + 1))
          case measure => omega
          case rel => exact ⟨0 + 1, by omega, by omega, by go_num, HB4, HC4, H'⟩
      · have hx := CW.out.2
        have H : ((idxO (impl_weightFor.p (⟨#[42]⟩ : ByteArray)) l0 0).bind fun i => if i ≥ 0 then some (rd_T32 l0 i).f1 else impl_weightFor.r l0 []) = some r1 := A.out
        clear A
        obtain ⟨i, hi, H⟩ := Option.bind_eq_some_iff.mp H
        have hrange := wf_range (impl_weightFor.p (⟨#[42]⟩ : ByteArray)) l0 0 i (Int.le_refl 0) hi
        obtain ⟨V3, hV3⟩ : ∃ V3, V3 = wr.alloc (.cells #[.string (⟨#[42]⟩ : ByteArray)] 9) := ⟨_, rfl⟩
        have hlt : B < wr.heap.size := World.block_lt_of_cell? wr _ CW.out.1
        have hc3 : V3.cell? ⟨wr.heap.size, 0, none⟩ = some (.string (⟨#[42]⟩ : ByteArray)) := by rw [hV3]; exact World.cell?_alloc_at _ _ _ 0 rfl
        have HB3 : Aside0 (Below w.heap.size w V3) := ⟨by rw [hV3]; exact (BW.out).alloc BW.out.size _⟩
        have hs3 : V3.heap.size = wr.heap.size + 1 := by rw [hV3]; simp
        have HC3 : Aside0 (V3.cell? ⟨B, 0, none⟩ = some (.string s) ∧ V3.cell? ⟨B, 1, none⟩ = some (.string (⟨#[42]⟩ : ByteArray))) := ⟨by rw [hV3, World.cell?_alloc_past _ _ _ hlt, World.cell?_alloc_past _ _ _ hlt]; exact CW.out⟩
        have HCALL := Aside0.mk (HX.out V3 _ (⟨#[42]⟩ : ByteArray) i HB3.out hc3 hi)
        have HKEEP : Aside0 (∀ W, Below V3.heap.size V3 W → W.cell? ⟨B, 0, none⟩ = some (.string s) ∧ W.cell? ⟨B, 1, none⟩ = some (.string (⟨#[42]⟩ : ByteArray))) := ⟨fun W hW => ⟨(hW.cell (p := ⟨B, 0, none⟩) (show B < V3.heap.size by omega)).trans HC3.out.1, (hW.cell (p := ⟨B, 1, none⟩) (show B < V3.heap.size by omega)).trans HC3.out.2⟩⟩
        clear hi hlt hc3 hs3
        by_cases hpos : 0 ≤ i
        · rw [if_pos hpos] at H
          have hv := Option.some.inj H
          have hup : i < (l0.length : Int) := by omega
          have hposb : decide (0 ≤ i) = true := decide_eq_true hpos
          obtain ⟨ad, he, _⟩ := at_T32 HR0.out i hpos hup
          cases he
          have hat : Aside0 (∀ W, Below w.heap.size w W → W.cell? ⟨(ad.add (i.toNat * 2)).block, (ad.add (i.toNat * 2)).off + 1, none⟩ = some (.int .i64 r1)) := ⟨fun W hW => by
            rw [← hv]
            obtain ⟨ad2, he2, hy0, hy1⟩ := at_T32 (Kd.C_below HR0.out hW) i hpos hup
            cases he2
            exact hy1⟩
          clear H hv hrange CW HC3 HKEEP HX
          go_wp2_with (go_at_call 64; rw [← hV3]; refine HCALL.out.mono ?_; rintro e w4 ⟨rfl, hb4⟩; have HB4 : Aside0 (Below w.heap.size w w4) := ⟨HB3.out.trans (hb4.mono HB3.out.size)⟩; clear hb4; have hy1 := hat.out w4 HB4.out)
          go_ret
          exact ⟨rfl, by repeat (first | exact HB4.out | apply below_drew1 | apply pw_below_drewN)⟩
        · rw [if_neg hpos] at H
          have H' := Aside0.mk H
          have hposb : decide (0 ≤ i) = false := decide_eq_false hpos
          clear H hrange CW HC3 HX
          go_wp2_with (go_at_call 64; rw [← hV3]; refine HCALL.out.mono ?_; rintro e w4 ⟨rfl, hb4⟩; have HB4 : Aside0 (Below w.heap.size w w4) := ⟨HB3.out.trans (hb4.mono HB3.out.size)⟩; have HC4 := Aside0.mk (HKEEP.out _ hb4); clear hb4)
          go_roundg (2 - (1 + 1))
          case measure => omega
          case rel => exact ⟨1 + 1, by omega, by omega, by go_num, HB4, HC4, H'⟩
      · obtain rfl : (0 : Int) = r1 := Option.some.inj A.out
        clear A
        go_wp2
        go_ret
        exact ⟨rfl, BW.out⟩
  · rw [if_neg hbig] at h; cases h

set_option maxHeartbeats 4000000 in
/-- slices.IndexFunc: the first place at which the predicate holds -/
theorem xIndexFunc_str (p : ByteArray → Option Bool) (g : Nat) (lb : Array Value) (eg : ∀ args w, (callFunc g args).run Tryz.prog w = .ok (.enter g args) w) (A0 : Option Addr) (c0 : Nat) (l0 : List ByteArray) (i : Int) (w : World)
    (hr0 : Kd.C Kd.string w A0 l0.length l0) (hc0 : l0.length ≤ c0) (hbig : l0.length < 9223372036854775807)
    (hp : ∀ (W : World) (x : ByteArray) (b : Bool), Below w.heap.size w W → p x = some b → Calls Tryz.prog g (#[.string x] ++ lb) W fun e w' => e = .returned (.bool b) ∧ Below w.heap.size w w')
    (h : idxO p l0 0 = some i) :
    Calls Tryz.prog 84 #[.slice A0 l0.length c0, .func (.func g) #[] lb] w fun e w' => e = .returned (.int .i64 i) ∧ Below w.heap.size w w' := by
  have HR0 := Aside0.mk hr0
  have HC0 := Aside0.mk hc0
  have HP := Aside0.mk hp
  have HI := Aside0.mk h
  clear hr0 hc0 hp h
  go_enter Tryz.func84, Tryz.ntmps84
  go_wp2
  go_loopg [5, 8] l0.length (fun gg _ s8 wr => ∃ kk : Nat, kk ≤ l0.length ∧ l0.length - kk ≤ gg ∧ s8 = .int .i64 kk ∧ Aside0 (Below w.heap.size w wr) ∧ Aside0 (idxO p (l0.drop kk) (kk : Int) = some i))
  case atStart => exact ⟨0, Nat.zero_le _, by omega, rfl, ⟨Below.refl _ w⟩, HI⟩
  case round =>
    obtain ⟨kk, hkk, hg, rfl, BW, A⟩ := hrel
    clear HI
    by_cases hlt : kk < l0.length
    · have hltz : (kk : Int) < (l0.length : Int) := by omega
      have H := A.out
      clear A
      rw [idxO_at p l0 kk hlt] at H
      obtain ⟨b, hb, H⟩ := Option.bind_eq_some_iff.mp H
      have hcall := HP.out wr l0[kk] b BW.out hb
      have hrd : rdOf ByteArray.empty l0 (kk : Int) = l0[kk] := by unfold rdOf; simp [List.getD_eq_getElem?_getD, hlt]
      obtain ⟨ad, he, hy0⟩ := Kd.at_string (Kd.C_below HR0.out BW.out) (kk : Int) (by omega) hltz
      cases he
      have hx0 : wr.cell? (ad.add kk) = some (.string (l0[kk])) := by rw [← hrd]; exact hy0
      clear hy0
      generalize l0[kk] = x at *
      cases b with
      | true =>
        obtain rfl : (kk : Int) = i := Option.some.inj H
        clear H hb
        go_wp2_with (go_at_fn g; refine hcall.mono ?_; rintro e w' ⟨rfl, hb'⟩)
        go_ret
        exact ⟨rfl, hb'⟩
      | false =>
        have H' := Aside0.mk H
        clear H hb
        go_wp2_with (go_at_fn g; refine hcall.mono ?_; rintro e w' ⟨rfl, hb'⟩)
        go_roundg (l0.length - (kk + 1))
        case measure => omega
        case rel => exact ⟨kk + 1, by omega, by omega, by go_num, ⟨hb'⟩, ⟨by have z := H'.out; rw [if_neg (by decide)] at z; exact z⟩⟩
    · have hltz : ¬ (kk : Int) < (l0.length : Int) := by omega
      have H := A.out
      rw [List.drop_of_length_le (by omega)] at H
      obtain rfl : (-1 : Int) = i := Option.some.inj H
      clear H A
      go_wp2
      go_ret
      exact ⟨rfl, BW.out⟩
set_option maxHeartbeats 4000000 in
theorem xContainsFunc_str (p : ByteArray → Option Bool) (g : Nat) (lb : Array Value) (eg : ∀ args w, (callFunc g args).run Tryz.prog w = .ok (.enter g args) w) (A0 : Option Addr) (c0 : Nat) (l0 : List ByteArray) (i : Int) (w : World)
    (hr0 : Kd.C Kd.string w A0 l0.length l0) (hc0 : l0.length ≤ c0) (hbig : l0.length < 9223372036854775807)
    (hp : ∀ (W : World) (x : ByteArray) (b : Bool), Below w.heap.size w W → p x = some b → Calls Tryz.prog g (#[.string x] ++ lb) W fun e w' => e = .returned (.bool b) ∧ Below w.heap.size w w')
    (h : idxO p l0 0 = some i) :
    Calls Tryz.prog 58 #[.slice A0 l0.length c0, .func (.func g) #[] lb] w fun e w' => e = .returned (.bool (decide (i ≥ 0))) ∧ Below w.heap.size w w' := by
  have hcall := xIndexFunc_str p g lb eg A0 c0 l0 i w hr0 hc0 hbig hp h
  clear hr0 hc0 hbig hp h
  go_enter Tryz.func58, Tryz.ntmps58
  go_wp2_with (go_at_call 84; refine hcall.mono ?_; rintro e w' ⟨rfl, hb'⟩)
  go_ret
  exact ⟨rfl, hb'⟩
/-! ### xAll_str_impl_isToken: function 25, with function 26 -/
def xAll_str_impl_isToken.z (x : ByteArray) : Option Bool := (impl_isToken.f x).bind fun b => some (!b)
def xAll_str_impl_isToken.f (l0 : List ByteArray) : Option (Bool) := if l0.length < 9223372036854775807 then ((idxO (xAll_str_impl_isToken.z) l0 0).bind fun i => some (!decide (i ≥ 0))) else none
set_option maxHeartbeats 8000000 in
set_option maxRecDepth 100000 in
theorem xAll_str_impl_isToken.calls (A0 : Option Addr) (c0 : Nat) (l0 : List ByteArray) (r : Bool) (w : World) (hr0 : Kd.C Kd.string w A0 l0.length l0) (hc0 : l0.length ≤ c0) (h : xAll_str_impl_isToken.f l0 = some r) :
    Calls Tryz.prog 25 #[.slice A0 l0.length c0, .func (.func 26) #[] #[]] w fun e w' => e = .returned (.bool r) ∧ Below w.heap.size w w' := by
  have hbig : l0.length < 9223372036854775807 := by
    by_cases c : l0.length < 9223372036854775807
    · exact c
    · unfold xAll_str_impl_isToken.f at h; rw [if_neg c] at h; cases h
  have h1 : ((idxO (xAll_str_impl_isToken.z) l0 0).bind fun i => some (!decide (i ≥ 0))) = some r := by unfold xAll_str_impl_isToken.f at h; rw [if_pos hbig] at h; exact h
  clear h
  obtain ⟨i, hi1, hi2⟩ := Option.bind_eq_some_iff.mp h1
  clear h1
  obtain rfl := Option.some.inj hi2
  clear hi2
  have eg : ∀ args w, (callFunc 59 args).run Tryz.prog w = .ok (.enter 59 args) w := enters_of Tryz.func59 (by kernel_rfl) rfl
  have hb1 : Below w.heap.size w (w.alloc (.cells #[.func (.func 26) #[] #[]] 57)) := (Below.refl _ w).alloc (Nat.le_refl _) _
  have hcall := xContainsFunc_str (xAll_str_impl_isToken.z) 59 #[.pointer (some ⟨w.heap.size, 0, none⟩)] eg A0 c0 l0 i (w.alloc (.cells #[.func (.func 26) #[] #[]] 57)) (Kd.C_below hr0 hb1) hc0 hbig
    (by
      intro W x b hb hz
      have hcell : W.cell? ⟨w.heap.size, 0, none⟩ = some (.func (.func 26) #[] #[]) := (hb.cell (p := ⟨w.heap.size, 0, none⟩) (by simp)).trans (by simp)
      obtain ⟨b2, hq, hb2⟩ := Option.bind_eq_some_iff.mp hz
      obtain rfl : (!b2) = b := Option.some.inj hb2
      have hq' := Aside0.mk hq
      have hb' := Aside0.mk hb
      clear hb hz hb2 hq
      show Calls Tryz.prog 59 #[.string x, .pointer (some ⟨w.heap.size, 0, none⟩)] W _
      go_enter Tryz.func59, Tryz.ntmps59
      go_wp2_with (go_at_call 26; refine (impl_isToken.calls x b2 _ hq'.out).mono ?_; rintro e w' ⟨rfl, hb2⟩)
      go_ret
      exact ⟨rfl, below_step (by repeat (first | (with_reducible first | exact hb'.out | apply below_alloc | apply pw_below_drewN | apply below_drew1) | exact hb'.out)) hb2⟩)
    hi1
  have hb1' := Aside0.mk hb1
  clear hr0 hc0 hbig hi1 hb1 eg
  go_enter Tryz.func25, Tryz.ntmps25
  go_wp2_with (go_at_call 58; refine hcall.mono ?_; rintro e w' ⟨rfl, hb'⟩)
  go_ret
  exact ⟨rfl, below_then hb1'.out (by simp) hb'⟩

/-! ### impl_BestChoice: function 6 -/
mutual
def impl_BestChoice.j0 : Nat → List ByteArray → List (S32) → Bool → Option (ByteArray × Bool)
  | 0, _, _, _ => none
  | k + 1, x1, x6, x29 => if x29 = true then (some ((⟨#[]⟩ : ByteArray), false)) else (impl_BestChoice.l0 k x6 (⟨#[]⟩ : ByteArray) 0 x1 (x1.length : Int) 0)
def impl_BestChoice.l0 : Nat → List (S32) → ByteArray → Int → List ByteArray → Int → Int → Option (ByteArray × Bool)
  | 0, _, _, _, _, _, _ => none
  | k + 1, x6, x8, x9, x30, x31, x32 => if x32 < x31 then (if 0 ≤ x32 then (if x32 < (x30.length : Int) then ((impl_weightFor.f x6 (rdOf ByteArray.empty x30 x32)).bind fun t237 => (if t237 > x9 then (impl_BestChoice.l0 k x6 (rdOf ByteArray.empty x30 x32) t237 x30 x31 (wrap64 (x32 + 1))) else (impl_BestChoice.l0 k x6 x8 x9 x30 x31 (wrap64 (x32 + 1))))) else (none)) else (none)) else (some (x8, decide (x9 > 0)))
end
def impl_BestChoice.f (k : Nat) (a0 : ByteArray) (l1 : List ByteArray) : Option (ByteArray × Bool) := (impl_ChoicesOf.f k a0).bind fun bt231 => (if bt231.2 = true then (if (l1.length : Int) > 20 then (impl_BestChoice.j0 k l1 bt231.1 true) else ((xAll_str_impl_isToken.f l1).bind fun t235 => (impl_BestChoice.j0 k l1 bt231.1 (!t235)))) else (impl_BestChoice.j0 k l1 bt231.1 true))
theorem impl_BestChoice.mono_l : ∀ k, (∀ y0 y1 y2, LeO (impl_BestChoice.j0 k y0 y1 y2) (impl_BestChoice.j0 (k + 1) y0 y1 y2)) ∧ (∀ y0 y1 y2 y3 y4 y5, LeO (impl_BestChoice.l0 k y0 y1 y2 y3 y4 y5) (impl_BestChoice.l0 (k + 1) y0 y1 y2 y3 y4 y5))
  | 0 => ⟨fun _ _ _ r h => by simp [impl_BestChoice.j0] at h, fun _ _ _ _ _ _ r h => by simp [impl_BestChoice.l0] at h⟩
  | k + 1 => by
    obtain ⟨ih0, ih1⟩ := impl_BestChoice.mono_l k
    refine ⟨?_, ?_⟩
    · intro y0 y1 y2
      unfold impl_BestChoice.j0
      repeat' first
      | (with_reducible exact ih0 _ _ _)
      | (with_reducible exact ih1 _ _ _ _ _ _)
      | (with_reducible exact impl_ChoicesOf.mono _ _)
      | (with_reducible exact LeO.refl _)
      | (with_reducible exact LeO.none _)
      | (with_reducible refine LeO.ite ?_ ?_)
      | (with_reducible refine LeO.bind ?_ (fun _ => ?_))
      | exact ih0 _ _ _
      | exact ih1 _ _ _ _ _ _
      | exact impl_ChoicesOf.mono _ _
      | exact LeO.none _
      | refine LeO.ite ?_ ?_
      | refine LeO.bind ?_ (fun _ => ?_)
    · intro y0 y1 y2 y3 y4 y5
      unfold impl_BestChoice.l0
      repeat' first
      | (with_reducible exact ih0 _ _ _)
      | (with_reducible exact ih1 _ _ _ _ _ _)
      | (with_reducible exact impl_ChoicesOf.mono _ _)
      | (with_reducible exact LeO.refl _)
      | (with_reducible exact LeO.none _)
      | (with_reducible refine LeO.ite ?_ ?_)
      | (with_reducible refine LeO.bind ?_ (fun _ => ?_))
      | exact ih0 _ _ _
      | exact ih1 _ _ _ _ _ _
      | exact impl_ChoicesOf.mono _ _
      | exact LeO.none _
      | refine LeO.ite ?_ ?_
      | refine LeO.bind ?_ (fun _ => ?_)
theorem impl_BestChoice.mono : ∀ a0 a1 k, LeO (impl_BestChoice.f k a0 a1) (impl_BestChoice.f (k + 1) a0 a1) := by
  intro a0 a1 k
  obtain ⟨ih0, ih1⟩ := impl_BestChoice.mono_l k
  unfold impl_BestChoice.f
  repeat' first
      | (with_reducible exact ih0 _ _ _)
      | (with_reducible exact ih1 _ _ _ _ _ _)
      | (with_reducible exact impl_ChoicesOf.mono _ _)
      | (with_reducible exact LeO.refl _)
      | (with_reducible exact LeO.none _)
      | (with_reducible refine LeO.ite ?_ ?_)
      | (with_reducible refine LeO.bind ?_ (fun _ => ?_))
      | exact ih0 _ _ _
      | exact ih1 _ _ _ _ _ _
      | exact impl_ChoicesOf.mono _ _
      | exact LeO.none _
      | refine LeO.ite ?_ ?_
      | refine LeO.bind ?_ (fun _ => ?_)
set_option maxHeartbeats 8000000 in
set_option maxRecDepth 100000 in
theorem impl_BestChoice.calls (k : Nat) (a0 : ByteArray) (A1 : Option Addr) (c1 : Nat) (l1 : List ByteArray) (r1 : ByteArray) (r2 : Bool) (w : World) (hr1 : Kd.C Kd.string w A1 l1.length l1) (hc1 : l1.length ≤ c1) (h : impl_BestChoice.f k a0 l1 = some (r1, r2)) (hT_ : TabOk w) :
    Calls Tryz.prog 6 #[.string a0, .slice A1 l1.length c1] w fun e w' => e = .returned (.tuple #[.string r1, .bool r2]) ∧ Below w.heap.size w w' := by
  have HTB_ := Aside0.mk hT_
  clear hT_
  have HR1 := Aside0.mk hr1
  have HC1 := Aside0.mk hc1
  clear hr1 hc1
  have HB := Aside0.mk (Below.refl w.heap.size w)
  have H : ((impl_ChoicesOf.f k a0).bind fun bt231 => (if bt231.2 = true then (if (l1.length : Int) > 20 then (impl_BestChoice.j0 k l1 bt231.1 true) else ((xAll_str_impl_isToken.f l1).bind fun t235 => (impl_BestChoice.j0 k l1 bt231.1 (!t235)))) else (impl_BestChoice.j0 k l1 bt231.1 true))) = some (r1, r2) := h
  clear h
  replace H := Option.bind_eq_some_iff.mp H
  obtain ⟨⟨t231, t232⟩, A30, H⟩ := H
  replace H : (if t232 = true then (if (l1.length : Int) > 20 then (impl_BestChoice.j0 k l1 t231 true) else ((xAll_str_impl_isToken.f l1).bind fun t235 => (impl_BestChoice.j0 k l1 t231 (!t235)))) else (impl_BestChoice.j0 k l1 t231 true)) = some (r1, r2) := H
  have A3 := Aside0.mk A30
  clear A30
  have HC4 := Aside0.mk H
  clear H
  go_enter Tryz.func6, Tryz.ntmps6
  go_upto_region 2 with (first | ((with_reducible refine gate_callee (f := 8) rfl ?_); refine goesL_ (some 15) rfl rfl Tryz.func8 (by kernel_rfl) rfl #[.string a0] rfl (by (try simp only [List.map_toArray, List.map_cons, List.map_nil]); first | done | rfl | (simp only [List.length_drop, List.length_take]; rfl)) ?_; (with_reducible refine (impl_ChoicesOf.calls k a0 t231 t232 _ A3.out (HTB_.out.below (by first | (with_reducible exact Below.refl _ _) | (repeat (first | (with_reducible first | exact HB.out | exact Below.refl _ _ | apply below_alloc | apply pw_below_drewN | apply below_drew1) | exact HB.out)) | (repeat (first | exact Below.refl _ _ | apply below_alloc | apply pw_below_drewN | apply below_drew1))))).mono ?_); rintro e w5 ⟨v233, rfl, ho0, hb⟩; refine ⟨_, rfl, ?_⟩; have n0_ := Aside0.mk (Kd.R_lower ho0 (below_size (by repeat (first | (with_reducible first | exact HB.out | apply below_alloc | apply pw_below_drewN | apply below_drew1) | exact HB.out)))); have n1_ := Aside0.mk (below_step (by repeat (first | (with_reducible first | exact HB.out | apply below_alloc | apply pw_below_drewN | apply below_drew1) | exact HB.out)) hb); clear HB; have HO234 := n0_; have HB := n1_; clear n0_ n1_; (try clear hb); (try clear hb2); (try clear hk); (try clear hi); (try clear ho0)))
  (try simp only [Act.put, List.setIfInBounds_toArray, List.set_cons_zero, List.set_cons_succ])
  go_cut [29] (fun v29 wc => ∃ (kq : Nat) (x29_3 : Bool), v29 = .bool x29_3 ∧ Aside0 (impl_BestChoice.j0 kq l1 t231 x29_3 = some (r1, r2)) ∧ Aside0 (kq ≤ k) ∧ Aside0 (Kd.R k32 32 wc w.heap.size (fun _ => True) v233 t231) ∧ Aside0 (Below w.heap.size w wc))
  case first =>
    have H := HC4.out
    clear HC4
    by_cases c6 : t232 = true
    · subst c6
      have H1 : (if (l1.length : Int) > 20 then (impl_BestChoice.j0 k l1 t231 true) else ((xAll_str_impl_isToken.f l1).bind fun t235 => (impl_BestChoice.j0 k l1 t231 (!t235)))) = some (r1, r2) := by rw [if_pos rfl] at H; exact H
      clear H
      have H := H1
      clear H1
      by_cases c7 : (l1.length : Int) > 20
      · rw [if_pos c7] at H
        have c7b0 : decide (20 < (l1.length : Int)) = true := decide_eq_true c7
        have c7b1 : decide (20 < l1.length) = true := decide_eq_true (by omega)
        clear c7
        (first | rw [c7b0] | (simp only [i64_w, i32_w]; rw [c7b0]) | skip)
        have H' := Aside0.mk H
        clear H
        go_wp2
        go_meet
        case rel => exact ⟨_, (true), (by first | rfl | (simp; done) | (simp [*]; done)), H', ⟨by first | omega | exact Nat.le_refl _⟩, ⟨by (with_reducible repeat (first | apply Kd.R_alloc | apply Kd.R_drewN | apply Kd.R_drew)); exact HO234.out⟩, ⟨by repeat (first | (with_reducible first | exact HB.out | apply below_alloc | apply pw_below_drewN | apply below_drew1) | exact HB.out)⟩⟩
      · rw [if_neg c7] at H
        have c7b0 : decide (20 < (l1.length : Int)) = false := decide_eq_false c7
        have c7b1 : decide (20 < l1.length) = false := decide_eq_false (by omega)
        clear c7
        (first | rw [c7b0] | (simp only [i64_w, i32_w]; rw [c7b0]) | skip)
        replace H := Option.bind_eq_some_iff.mp H
        obtain ⟨t235, A80, H⟩ := H
        replace H : (impl_BestChoice.j0 k l1 t231 (!t235)) = some (r1, r2) := H
        have A8 := Aside0.mk A80
        clear A80
        have H' := Aside0.mk H
        clear H
        go_wp2_with (first | (go_at_call 25; (with_reducible refine (xAll_str_impl_isToken.calls _ _ l1  t235 _ ?side1 ?side2 A8.out).mono ?_); (case side1 => repeat (first | exact (Kd.C_below HR1.out HB.out) | (with_reducible refine Kd.C_alloc ?_ _) | (with_reducible refine Kd.C_drewN ?_ _) | (with_reducible refine Kd.C_drew ?_))); (case side2 => exact HC1.out); rintro e w9 ⟨rfl, hb⟩; have n0_ := Aside0.mk (Kd.R_below (by (with_reducible repeat (first | apply Kd.R_alloc | apply Kd.R_drewN | apply Kd.R_drew)); exact HO234.out) hb); have n1_ := Aside0.mk (below_step (by repeat (first | (with_reducible first | exact HB.out | apply below_alloc | apply pw_below_drewN | apply below_drew1) | exact HB.out)) hb); clear HO234; clear HB; have HO234 := n0_; have HB := n1_; clear n0_ n1_; (try clear hb); (try clear hb2); (try clear hk); (try clear hi)))
        go_meet
        case rel => exact ⟨_, (!t235), (by first | rfl | (simp; done) | (simp [*]; done)), H', ⟨by first | omega | exact Nat.le_refl _⟩, ⟨by (with_reducible repeat (first | apply Kd.R_alloc | apply Kd.R_drewN | apply Kd.R_drew)); exact HO234.out⟩, ⟨by repeat (first | (with_reducible first | exact HB.out | apply below_alloc | apply pw_below_drewN | apply below_drew1) | exact HB.out)⟩⟩
    · replace c6 := Bool.eq_false_iff.mpr c6
      subst c6
      have H1 : (impl_BestChoice.j0 k l1 t231 true) = some (r1, r2) := by rw [if_neg (show ¬ (false = true) by decide)] at H; exact H
      clear H
      have H := H1
      clear H1
      have H' := Aside0.mk H
      clear H
      go_wp2
      go_meet
      case rel => exact ⟨_, (true), (by first | rfl | (simp; done) | (simp [*]; done)), H', ⟨by first | omega | exact Nat.le_refl _⟩, ⟨by (with_reducible repeat (first | apply Kd.R_alloc | apply Kd.R_drewN | apply Kd.R_drew)); exact HO234.out⟩, ⟨by repeat (first | (with_reducible first | exact HB.out | apply below_alloc | apply pw_below_drewN | apply below_drew1) | exact HB.out)⟩⟩
  case rest =>
    clear HC4
    try clear c1
    try clear p2
    try clear c6
    try clear c7
    try clear c7b0
    try clear c7b1
    try clear c8
    obtain ⟨kq, x29_3, rfl, HA, HJ3, HO_6, HB⟩ := hcut
    cases kq with
    | zero => exact absurd HA.out (by simp [impl_BestChoice.j0])
    | succ kj3 =>
      have H := HA.out
      clear HA
      simp only [impl_BestChoice.j0] at H
      by_cases c10 : x29_3 = true
      · subst c10
        have H1 : (some ((⟨#[]⟩ : ByteArray), false)) = some (r1, r2) := by rw [if_pos rfl] at H; exact H
        clear H
        have H := H1
        clear H1
        simp only [Option.some.injEq, Prod.mk.injEq] at H
        obtain ⟨rfl, rfl⟩ := H
        go_wp2
        go_ret2
        exact ⟨by first | rfl | (simp [errW_none, errW_some] <;> rfl) | (simp [*, errW_none, errW_some] <;> rfl), by repeat (first | (with_reducible first | exact HB.out | apply below_alloc | apply pw_below_drewN | apply below_drew1) | exact HB.out)⟩
      · replace c10 := Bool.eq_false_iff.mpr c10
        subst c10
        have H1 : (impl_BestChoice.l0 kj3 t231 (⟨#[]⟩ : ByteArray) 0 l1 (l1.length : Int) 0) = some (r1, r2) := by rw [if_neg (show ¬ (false = true) by decide)] at H; exact H
        clear H
        have H := H1
        clear H1
        have H' := Aside0.mk H
        clear H
        go_wp2
        go_loopg [8, 9, 32] kj3 (fun kq v8 v9 v32 w' => ∃ (x8_2 : ByteArray) (x9_2 : Int) (x32_2 : Int), v8 = .string x8_2 ∧ v9 = .int .i64 x9_2 ∧ v32 = .int .i64 x32_2 ∧ Aside0 (impl_BestChoice.l0 kq t231 x8_2 x9_2 l1 (l1.length : Int) x32_2 = some (r1, r2)) ∧ Aside0 (kq ≤ kj3) ∧ Aside0 (Kd.R k32 32 w' w.heap.size (fun _ => True) v233 t231) ∧ Aside0 (Below w.heap.size w w'))
        case atStart => exact ⟨((⟨#[]⟩ : ByteArray)), (0), (0), (by first | rfl | (simp; done) | (simp [*]; done)), (by first | rfl | (simp; done) | (simp [*]; done)), (by first | rfl | (simp; done) | (simp [*]; done)), H', ⟨Nat.le_refl _⟩, ⟨by (with_reducible repeat (first | apply Kd.R_alloc | apply Kd.R_drewN | apply Kd.R_drew)); exact HO_6.out⟩, ⟨by repeat (first | (with_reducible first | exact HB.out | apply below_alloc | apply pw_below_drewN | apply below_drew1) | exact HB.out)⟩⟩
        case round =>
          clear H'
          try clear c1
          try clear p2
          try clear c6
          try clear c7
          try clear c7b0
          try clear c7b1
          try clear c8
          try clear c10
          try clear p2
          obtain ⟨x8_2, x9_2, x32_2, rfl, rfl, rfl, HA, HK2, HO_6, HB⟩ := hrel
          cases gk with
          | zero => exact absurd HA.out (by simp [impl_BestChoice.l0])
          | succ k2 =>
            have H := HA.out
            clear HA
            simp only [impl_BestChoice.l0] at H
            by_cases c11 : x32_2 < (l1.length : Int)
            · rw [if_pos c11] at H
              have c11b0 : decide (x32_2 < (l1.length : Int)) = true := decide_eq_true c11
              clear c11
              by_cases c12 : 0 ≤ x32_2
              · rw [if_pos c12] at H
                have c12b0 : decide (0 ≤ x32_2) = true := decide_eq_true c12
                clear c12
                by_cases c13 : x32_2 < (l1.length : Int)
                · rw [if_pos c13] at H
                  have c13b0 : decide (x32_2 < (l1.length : Int)) = true := decide_eq_true c13
                  clear c13
                  replace H := Option.bind_eq_some_iff.mp H
                  obtain ⟨t237, A140, H⟩ := H
                  replace H : (if t237 > x9_2 then (impl_BestChoice.l0 k2 t231 (rdOf ByteArray.empty l1 x32_2) t237 l1 (l1.length : Int) (wrap64 (x32_2 + 1))) else (impl_BestChoice.l0 k2 t231 x8_2 x9_2 l1 (l1.length : Int) (wrap64 (x32_2 + 1)))) = some (r1, r2) := H
                  have A14 := Aside0.mk A140
                  clear A140
                  by_cases c15 : t237 > x9_2
                  · rw [if_pos c15] at H
                    have c15b0 : decide (x9_2 < t237) = true := decide_eq_true c15
                    clear c15
                    have H' := Aside0.mk H
                    clear H
                    have p236 : 0 ≤ (x32_2 : Int) := of_decide_eq_true (by first | (with_reducible assumption) | assumption)
                    have q236 : x32_2 < (l1.length : Int) := of_decide_eq_true (by first | (with_reducible assumption) | assumption)
                    obtain ⟨ad236, e236, hx236_0⟩ := Kd.at_string HR1.out x32_2 p236 q236
                    cases e236
                    (try replace hx236_0 := (HB.out.cell (World.block_lt_of_cell? w _ hx236_0)).trans hx236_0)
                    replace p236 := eq_true p236
                    replace q236 := eq_true q236
                    obtain ⟨Ao16, co16, eo16⟩ := Kd.R_slice HO_6.out
                    subst eo16
                    go_wp2_with (first | ((with_reducible refine gate_callee (f := 27) rfl ?_); refine goesL_ (some 38) rfl rfl Tryz.func27 (by kernel_rfl) rfl #[.slice Ao16 t231.length co16, .string (rdOf ByteArray.empty l1 x32_2)] rfl (by (try simp only [List.map_toArray, List.map_cons, List.map_nil]); first | done | rfl | (simp only [List.length_drop, List.length_take]; rfl)) ?_; (with_reducible refine (impl_weightFor.calls _ _ t231 (rdOf ByteArray.empty l1 x32_2) t237 _ ?side1 ?side2 A14.out).mono ?_); (case side1 => repeat (first | exact (Kd.R_reads' HO_6.out).2.2 | (with_reducible refine Kd.C_alloc ?_ _) | (with_reducible refine Kd.C_drewN ?_ _) | (with_reducible refine Kd.C_drew ?_))); (case side2 => exact (Kd.R_reads' HO_6.out).2.1); rintro e w17 ⟨rfl, hb⟩; refine ⟨_, rfl, ?_⟩; have n0_ := Aside0.mk (Kd.R_below (by (with_reducible repeat (first | apply Kd.R_alloc | apply Kd.R_drewN | apply Kd.R_drew)); exact HO_6.out) hb); have n1_ := Aside0.mk (below_step (by repeat (first | (with_reducible first | exact HB.out | apply below_alloc | apply pw_below_drewN | apply below_drew1) | exact HB.out)) hb); clear HO_6; clear HB; have HO_6 := n0_; have HB := n1_; clear n0_ n1_; (try clear hb); (try clear hb2); (try clear hk); (try clear hi)))
                    go_roundg k2
                    case measure => have := HJ3.out; have := HK2.out; omega
                    case rel => exact ⟨(rdOf ByteArray.empty l1 x32_2), (t237), (wrap64 (x32_2 + 1)), (by first | rfl | (simp; done) | (simp [*]; done)), (by first | rfl | (simp; done) | (simp [*]; done)), (by first | rfl | (simp; done) | (simp [*]; done)), H', ⟨by have := HJ3.out; have := HK2.out; omega⟩, ⟨by (with_reducible repeat (first | apply Kd.R_alloc | apply Kd.R_drewN | apply Kd.R_drew)); exact HO_6.out⟩, ⟨by repeat (first | (with_reducible first | exact HB.out | apply below_alloc | apply pw_below_drewN | apply below_drew1) | exact HB.out)⟩⟩
                  · rw [if_neg c15] at H
                    have c15b0 : decide (x9_2 < t237) = false := decide_eq_false c15
                    clear c15
                    have H' := Aside0.mk H
                    clear H
                    have p236 : 0 ≤ (x32_2 : Int) := of_decide_eq_true (by first | (with_reducible assumption) | assumption)
                    have q236 : x32_2 < (l1.length : Int) := of_decide_eq_true (by first | (with_reducible assumption) | assumption)
                    obtain ⟨ad236, e236, hx236_0⟩ := Kd.at_string HR1.out x32_2 p236 q236
                    cases e236
                    (try replace hx236_0 := (HB.out.cell (World.block_lt_of_cell? w _ hx236_0)).trans hx236_0)
                    replace p236 := eq_true p236
                    replace q236 := eq_true q236
                    obtain ⟨Ao18, co18, eo18⟩ := Kd.R_slice HO_6.out
                    subst eo18
                    go_wp2_with (first | ((with_reducible refine gate_callee (f := 27) rfl ?_); refine goesL_ (some 38) rfl rfl Tryz.func27 (by kernel_rfl) rfl #[.slice Ao18 t231.length co18, .string (rdOf ByteArray.empty l1 x32_2)] rfl (by (try simp only [List.map_toArray, List.map_cons, List.map_nil]); first | done | rfl | (simp only [List.length_drop, List.length_take]; rfl)) ?_; (with_reducible refine (impl_weightFor.calls _ _ t231 (rdOf ByteArray.empty l1 x32_2) t237 _ ?side1 ?side2 A14.out).mono ?_); (case side1 => repeat (first | exact (Kd.R_reads' HO_6.out).2.2 | (with_reducible refine Kd.C_alloc ?_ _) | (with_reducible refine Kd.C_drewN ?_ _) | (with_reducible refine Kd.C_drew ?_))); (case side2 => exact (Kd.R_reads' HO_6.out).2.1); rintro e w19 ⟨rfl, hb⟩; refine ⟨_, rfl, ?_⟩; have n0_ := Aside0.mk (Kd.R_below (by (with_reducible repeat (first | apply Kd.R_alloc | apply Kd.R_drewN | apply Kd.R_drew)); exact HO_6.out) hb); have n1_ := Aside0.mk (below_step (by repeat (first | (with_reducible first | exact HB.out | apply below_alloc | apply pw_below_drewN | apply below_drew1) | exact HB.out)) hb); clear HO_6; clear HB; have HO_6 := n0_; have HB := n1_; clear n0_ n1_; (try clear hb); (try clear hb2); (try clear hk); (try clear hi)))
                    go_roundg k2
                    case measure => have := HJ3.out; have := HK2.out; omega
                    case rel => exact ⟨(x8_2), (x9_2), (wrap64 (x32_2 + 1)), (by first | rfl | (simp; done) | (simp [*]; done)), (by first | rfl | (simp; done) | (simp [*]; done)), (by first | rfl | (simp; done) | (simp [*]; done)), H', ⟨by have := HJ3.out; have := HK2.out; omega⟩, ⟨by (with_reducible repeat (first | apply Kd.R_alloc | apply Kd.R_drewN | apply Kd.R_drew)); exact HO_6.out⟩, ⟨by repeat (first | (with_reducible first | exact HB.out | apply below_alloc | apply pw_below_drewN | apply below_drew1) | exact HB.out)⟩⟩
                · rw [if_neg c13] at H
                  exact absurd H (by simp)
              · rw [if_neg c12] at H
                exact absurd H (by simp)
            · rw [if_neg c11] at H
              have c11b0 : decide (x32_2 < (l1.length : Int)) = false := decide_eq_false c11
              clear c11
              simp only [Option.some.injEq, Prod.mk.injEq] at H
              obtain ⟨rfl, rfl⟩ := H
              go_wp2
              go_ret2
              exact ⟨by first | rfl | (simp [errW_none, errW_some] <;> rfl) | (simp [*, errW_none, errW_some] <;> rfl), by repeat (first | (with_reducible first | exact HB.out | apply below_alloc | apply pw_below_drewN | apply below_drew1) | exact HB.out)⟩

/-! ### spec_l3Printed: function 40 -/
def spec_l3Printed.l0 : Nat → ByteArray → Int → Option (Bool)
  | 0, _, _ => none
  | k + 1, x0, x3 => if x3 < (x0.size : Int) then (if 0 ≤ x3 then (if (bt x0 x3) < 32 then (some false) else (if (bt x0 x3) > 126 then (some false) else (spec_l3Printed.l0 k x0 (wrap64 (x3 + 1))))) else (none)) else (some true)
def spec_l3Printed.f (k : Nat) (a0 : ByteArray) : Option (Bool) := spec_l3Printed.l0 k a0 0
theorem spec_l3Printed.mono_l : ∀ k, (∀ y0 y1, LeO (spec_l3Printed.l0 k y0 y1) (spec_l3Printed.l0 (k + 1) y0 y1))
  | 0 => fun _ _ r h => by simp [spec_l3Printed.l0] at h
  | k + 1 => by
    have ih0 := spec_l3Printed.mono_l k
    · intro y0 y1
      unfold spec_l3Printed.l0
      repeat' first
      | (with_reducible exact ih0 _ _)
      | (with_reducible exact LeO.refl _)
      | (with_reducible exact LeO.none _)
      | (with_reducible refine LeO.ite ?_ ?_)
      | (with_reducible refine LeO.bind ?_ (fun _ => ?_))
      | exact ih0 _ _
      | exact LeO.none _
      | refine LeO.ite ?_ ?_
      | refine LeO.bind ?_ (fun _ => ?_)
theorem spec_l3Printed.mono : ∀ a0 k, LeO (spec_l3Printed.f k a0) (spec_l3Printed.f (k + 1) a0) := by
  intro a0 k
  have ih0 := spec_l3Printed.mono_l k
  unfold spec_l3Printed.f
  repeat' first
      | (with_reducible exact ih0 _ _)
      | (with_reducible exact LeO.refl _)
      | (with_reducible exact LeO.none _)
      | (with_reducible refine LeO.ite ?_ ?_)
      | (with_reducible refine LeO.bind ?_ (fun _ => ?_))
      | exact ih0 _ _
      | exact LeO.none _
      | refine LeO.ite ?_ ?_
      | refine LeO.bind ?_ (fun _ => ?_)
set_option maxHeartbeats 8000000 in
set_option maxRecDepth 100000 in
theorem spec_l3Printed.calls (k : Nat) (a0 : ByteArray) (r : Bool) (w : World) (h : spec_l3Printed.f k a0 = some r) :
    Calls Tryz.prog 40 #[.string a0] w fun e w' => e = .returned (.bool r) ∧ Drawn0 w w' := by
  have H : (spec_l3Printed.l0 k a0 0) = some r := h
  clear h
  have H' := Aside0.mk H
  clear H
  go_enter Tryz.func40, Tryz.ntmps40
  go_wp2
  go_loopg [3] k (fun kq v3 w' => ∃ (x3_1 : Int), v3 = .int .i64 x3_1 ∧ Aside0 (spec_l3Printed.l0 kq a0 x3_1 = some r) ∧ Aside0 (kq ≤ k) ∧ Drawn0 w w')
  case atStart => exact ⟨(0), (by first | rfl | (simp; done) | (simp [*]; done)), H', ⟨Nat.le_refl _⟩, by repeat (first | exact Drawn0.refl _ | apply Drawn0.step)⟩
  case round =>
    clear H'
    obtain ⟨x3_1, rfl, HA, HK1, ⟨m1, rfl⟩⟩ := hrel
    cases gk with
    | zero => exact absurd HA.out (by simp [spec_l3Printed.l0])
    | succ k1 =>
      have H := HA.out
      clear HA
      simp only [spec_l3Printed.l0] at H
      by_cases c2 : x3_1 < (a0.size : Int)
      · rw [if_pos c2] at H
        have c2b0 : decide (x3_1 < (a0.size : Int)) = true := decide_eq_true c2
        clear c2
        by_cases c3 : 0 ≤ x3_1
        · rw [if_pos c3] at H
          have c3b0 : decide (0 ≤ x3_1) = true := decide_eq_true c3
          clear c3
          by_cases c5 : (bt a0 x3_1) < 32
          · rw [if_pos c5] at H
            have c5b0 : decide ((bt a0 x3_1) < 32) = true := decide_eq_true c5
            clear c5
            obtain rfl := Option.some.inj H
            have p4 : 0 ≤ (x3_1 : Int) := of_decide_eq_true (by first | (with_reducible assumption) | assumption)
            have q4 : x3_1 < (a0.size : Int) := of_decide_eq_true (by first | (with_reducible assumption) | assumption)
            have hx4 := bt_at a0 x3_1
            replace p4 := eq_true p4
            replace q4 := eq_true q4
            go_wp2
            go_ret
            exact ⟨by first | rfl | (simp; done) | (simp [*]; done), by repeat (first | exact Drawn0.refl _ | apply Drawn0.step)⟩
          · rw [if_neg c5] at H
            have c5b0 : decide ((bt a0 x3_1) < 32) = false := decide_eq_false c5
            clear c5
            by_cases c7 : (bt a0 x3_1) > 126
            · rw [if_pos c7] at H
              have c7b0 : decide (126 < (bt a0 x3_1)) = true := decide_eq_true c7
              clear c7
              obtain rfl := Option.some.inj H
              have p4 : 0 ≤ (x3_1 : Int) := of_decide_eq_true (by first | (with_reducible assumption) | assumption)
              have q4 : x3_1 < (a0.size : Int) := of_decide_eq_true (by first | (with_reducible assumption) | assumption)
              have hx4 := bt_at a0 x3_1
              replace p4 := eq_true p4
              replace q4 := eq_true q4
              have p6 : 0 ≤ (x3_1 : Int) := of_decide_eq_true (by first | (with_reducible assumption) | assumption)
              have q6 : x3_1 < (a0.size : Int) := of_decide_eq_true (by first | (with_reducible assumption) | assumption)
              have hx6 := bt_at a0 x3_1
              replace p6 := eq_true p6
              replace q6 := eq_true q6
              go_wp2
              go_ret
              exact ⟨by first | rfl | (simp; done) | (simp [*]; done), by repeat (first | exact Drawn0.refl _ | apply Drawn0.step)⟩
            · rw [if_neg c7] at H
              have c7b0 : decide (126 < (bt a0 x3_1)) = false := decide_eq_false c7
              clear c7
              have H' := Aside0.mk H
              clear H
              have p4 : 0 ≤ (x3_1 : Int) := of_decide_eq_true (by first | (with_reducible assumption) | assumption)
              have q4 : x3_1 < (a0.size : Int) := of_decide_eq_true (by first | (with_reducible assumption) | assumption)
              have hx4 := bt_at a0 x3_1
              replace p4 := eq_true p4
              replace q4 := eq_true q4
              have p6 : 0 ≤ (x3_1 : Int) := of_decide_eq_true (by first | (with_reducible assumption) | assumption)
              have q6 : x3_1 < (a0.size : Int) := of_decide_eq_true (by first | (with_reducible assumption) | assumption)
              have hx6 := bt_at a0 x3_1
              replace p6 := eq_true p6
              replace q6 := eq_true q6
              go_wp2
              go_roundg k1
              case measure => have := HK1.out; omega
              case rel => exact ⟨(wrap64 (x3_1 + 1)), (by first | rfl | (simp; done) | (simp [*]; done)), H', ⟨by have := HK1.out; omega⟩, by repeat (first | exact Drawn0.refl _ | apply Drawn0.step)⟩
        · rw [if_neg c3] at H
          exact absurd H (by simp)
      · rw [if_neg c2] at H
        have c2b0 : decide (x3_1 < (a0.size : Int)) = false := decide_eq_false c2
        clear c2
        obtain rfl := Option.some.inj H
        go_wp2
        go_ret
        exact ⟨by first | rfl | (simp; done) | (simp [*]; done), by repeat (first | exact Drawn0.refl _ | apply Drawn0.step)⟩

end Go.Proofs.YtjkpomphkfecmaaGreatDoor.PFnChoices
