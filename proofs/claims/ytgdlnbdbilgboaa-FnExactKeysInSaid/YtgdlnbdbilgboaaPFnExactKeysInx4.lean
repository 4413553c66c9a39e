-- Written by a program of this project (xprint.py) out of the translation; Lean checks it.
import Derived.Test.YtgdlnbdbilgboaaPFnExactKeysInx0
import Derived.Test.YtgdlnbdbilgboaaPFnExactKeysInx3
namespace Go.Proofs.Ytgdlnbdbilgboaa.PFnExactKeysIn
open Go.RowKit Go.Proofs.YtgdlnbdbilgboaaW.PrintWords Go.Proofs.YtgdlnbdbilgboaaW.PrintLast Go.Proofs.YtgdlnbdbilgboaaW.PrintMore
attribute [local go_sem] max2_int min2_int max_two min_two max_three min_three max_four min_four   -- for this text's walks alone
set_option linter.unusedVariables false
set_option linter.unusedSimpArgs false

/-! ### spec_KeysIn: function 18 -/
theorem xinfo9 : (Try.prog.info? 9).map (fun i => (i.zero, i.size, i.bytes)) = some (some (.string ⟨#[]⟩), 1, 16) := by kernel_rfl
def spec_KeysIn.f (k : Nat) (a0 a1 : Int) (l0 l1 : List S49) : Option (List ByteArray × Bool) :=
  (spec_GoodSegmented.f k a0 a1 l0 l1).bind fun b => if b = true then (if l0.length + l1.length < 1000000 then some ((l1 ++ l0).map S49.f0, true) else none) else some ([], false)
theorem spec_KeysIn.mono : ∀ a0 a1 l0 l1 k, LeO (spec_KeysIn.f k a0 a1 l0 l1) (spec_KeysIn.f (k + 1) a0 a1 l0 l1) := by
  intro a0 a1 l0 l1 k
  unfold spec_KeysIn.f
  exact LeO.bind (spec_GoodSegmented.mono _ _ _ _ _) (fun _ => LeO.refl _)
theorem xkeys_cells {w w' : World} {a b c d : Value} {T : Nat} (h : Below (w.heap.size + 1) (w.alloc (.cells #[a, b, c, d] T)) w') :
    w'.cell? ⟨w.heap.size, 0, none⟩ = some a ∧ w'.cell? ⟨w.heap.size, 1, none⟩ = some b ∧ w'.cell? ⟨w.heap.size, 2, none⟩ = some c ∧ w'.cell? ⟨w.heap.size, 3, none⟩ = some d :=
  ⟨(h.cell (p := ⟨w.heap.size, 0, none⟩) (Nat.lt_succ_self _)).trans (by simp), (h.cell (p := ⟨w.heap.size, 1, none⟩) (Nat.lt_succ_self _)).trans (by simp), (h.cell (p := ⟨w.heap.size, 2, none⟩) (Nat.lt_succ_self _)).trans (by simp), (h.cell (p := ⟨w.heap.size, 3, none⟩) (Nat.lt_succ_self _)).trans (by simp)⟩
set_option maxHeartbeats 16000000 in
set_option maxRecDepth 100000 in
theorem spec_KeysIn.calls (k : Nat) (a0 a1 : Int) (A0 : Option Addr) (c0 : Nat) (l0 : List S49) (A1 : Option Addr) (c1 : Nat) (l1 : List S49) (r1 : List ByteArray) (r2 : Bool) (w : World) (hr0 : Kd.C k49 w A0 l0.length l0) (hc0 : l0.length ≤ c0) (hr1 : Kd.C k49 w A1 l1.length l1) (hc1 : l1.length ≤ c1) (h : spec_KeysIn.f k a0 a1 l0 l1 = some (r1, r2)) :
    Calls Try.prog 18 #[.agg #[.int .i64 a0, .int .i64 a1, .slice A0 l0.length c0, .slice A1 l1.length c1]] w fun e w' => ∃ v0_ : Value, e = .returned (.tuple #[v0_, .bool r2]) ∧ Kd.R Kd.string 9 w' w.heap.size (fun _ => True) v0_ r1 ∧ Below w.heap.size w w' := by
  have hu24 := Try.underlying24
  have hu49 := Try.underlying49
  have HR0 := Aside0.mk hr0
  have HC0 := Aside0.mk hc0
  have HR1 := Aside0.mk hr1
  have HC1 := Aside0.mk hc1
  clear hr0 hc0 hr1 hc1
  unfold spec_KeysIn.f at h
  obtain ⟨b, hb, h⟩ := Option.bind_eq_some_iff.mp h
  have H1 := Aside0.mk hb
  clear hb
  have hll0 : Aside0 (Below w.heap.size w (w.alloc (.cells #[.int .i64 a0, .int .i64 a1, .slice A0 l0.length c0, .slice A1 l1.length c1] 24))) := ⟨below_alloc (Below.refl _ w) _⟩
  cases b with
  | false =>
    rw [if_neg (by decide)] at h
    obtain ⟨rfl, rfl⟩ := Prod.mk.inj (Option.some.inj h)
    clear h
    go_enter Try.func18, Try.ntmps18
    go_wp2_with ((go_at_call 13; with_reducible refine (spec_GoodSegmented.calls k a0 a1 A0 c0 l0 A1 c1 l1 _ _ ?s1 ?s2 ?s3 ?s4 H1.out).mono ?_); (case s1 => exact Kd.C_below HR0.out hll0.out); (case s2 => exact HC0.out); (case s3 => exact Kd.C_below HR1.out hll0.out); (case s4 => exact HC1.out); rintro e w1 ⟨rfl, hb1⟩; have HX1 : Aside0 (Below (w.heap.size + 1) (w.alloc (.cells #[.int .i64 a0, .int .i64 a1, .slice A0 l0.length c0, .slice A1 l1.length c1] 24)) w1) := ⟨by have z := hb1; simp at z; exact z⟩; obtain ⟨hq10, hq11, hq12, hq13⟩ := xkeys_cells HX1.out; have HB1 := Aside0.mk (below_step hll0.out hb1); have hlt1 : w.heap.size < w1.heap.size := (by have z := HX1.out.size; simp at z; omega); have hne1 : w.heap.size ≠ w1.heap.size := Nat.ne_of_lt hlt1; clear hb1)
    go_ret2
    exact ⟨_, rfl, Kd.R_nil _ _ _ _ _, HB1.out⟩
  | true =>
    rw [if_pos rfl] at h
    by_cases hlen : l0.length + l1.length < 1000000
    · rw [if_pos hlen] at h
      obtain ⟨rfl, rfl⟩ := Prod.mk.inj (Option.some.inj h)
      have HLEN := Aside0.mk hlen
      clear h hlen
      go_enter Try.func18, Try.ntmps18
      go_wp2_with ((go_at_call 13; with_reducible refine (spec_GoodSegmented.calls k a0 a1 A0 c0 l0 A1 c1 l1 _ _ ?s1 ?s2 ?s3 ?s4 H1.out).mono ?_); (case s1 => exact Kd.C_below HR0.out hll0.out); (case s2 => exact HC0.out); (case s3 => exact Kd.C_below HR1.out hll0.out); (case s4 => exact HC1.out); rintro e w1 ⟨rfl, hb1⟩; have HX1 : Aside0 (Below (w.heap.size + 1) (w.alloc (.cells #[.int .i64 a0, .int .i64 a1, .slice A0 l0.length c0, .slice A1 l1.length c1] 24)) w1) := ⟨by have z := hb1; simp at z; exact z⟩; obtain ⟨hq10, hq11, hq12, hq13⟩ := xkeys_cells HX1.out; have HB1 := Aside0.mk (below_step hll0.out hb1); have hlt1 : w.heap.size < w1.heap.size := (by have z := HX1.out.size; simp at z; omega); have hne1 : w.heap.size ≠ w1.heap.size := Nat.ne_of_lt hlt1; clear hb1)
      go_loopg [4, 18] 2 (fun gg s4 s18 wr => ∃ (kk : Nat) (v : Value) (ys : List ByteArray), kk ≤ 2 ∧ 2 - kk ≤ gg ∧ s18 = .int .i64 kk ∧ v = s4 ∧ Aside0 (Below (w1.heap.size + 1) (w1.alloc (.cells #[.slice A1 l1.length c1, .slice A0 l0.length c0] 22)) wr) ∧ Aside0 (Kd.R Kd.string 9 wr (w1.heap.size + 1) (fun _ => True) v ys) ∧ Aside0 (kk = 0 ∧ ys = [] ∨ kk = 1 ∧ ys = l1.map S49.f0 ∨ kk = 2 ∧ ys = (l1 ++ l0).map S49.f0))
      case atStart => exact ⟨0, .slice none 0 0, [], by omega, by omega, rfl, rfl, ⟨Below.refl _ _⟩, ⟨Kd.R_nil _ _ _ _ _⟩, ⟨.inl ⟨rfl, rfl⟩⟩⟩
      case round =>
        obtain ⟨kk, v, ys, hk, hgk, rfl, rfl, HB, HO, HS⟩ := hrel
        obtain ⟨rfl, hys⟩ | ⟨rfl, hys⟩ | ⟨rfl, hys⟩ := HS.out
        · have HYS := Aside0.mk (show ys.length ≤ 1000000 from by rw [hys]; simp)
          have HYE := Aside0.mk hys
          have hc : wr.cell? ⟨w1.heap.size, 0, none⟩ = some (.slice A1 l1.length c1) := (HB.out.cell (p := ⟨w1.heap.size, 0, none⟩) (Nat.lt_succ_self _)).trans (by simp)
          clear HS hys
          go_wp2
          go_loopg [4, 24] l1.length (fun gg2 s4 s24 wr2 => ∃ (jj : Nat) (v2 : Value) (ys2 : List ByteArray), jj ≤ l1.length ∧ l1.length - jj ≤ gg2 ∧ s24 = .int .i64 jj ∧ v2 = s4 ∧ Aside0 (Below (w1.heap.size + 1) (w1.alloc (.cells #[.slice A1 l1.length c1, .slice A0 l0.length c0] 22)) wr2) ∧ Aside0 (Kd.R Kd.string 9 wr2 (w1.heap.size + 1) (fun _ => True) v2 ys2) ∧ Aside0 (ys2 = ys ++ (l1.take jj).map S49.f0))
          case atStart => exact ⟨0, v, ys, Nat.zero_le _, by omega, rfl, rfl, HB, HO, ⟨by simp⟩⟩
          case round =>
            clear HB HO
            obtain ⟨jj, v2, ys2, hjj, hgj, rfl, rfl, HB, HO, HY⟩ := hrel
            have HBW : Aside0 (Below w.heap.size w wr) := ⟨(below_alloc HB1.out _).trans (HB.out.mono (by have z := HX1.out.size; simp at z; omega))⟩
            have HSZ : Aside0 (w1.heap.size + 1 ≤ wr.heap.size) := ⟨by have z := HB.out.size; simp at z; omega⟩
            by_cases hlt : jj < l1.length
            · have hltz : (jj : Int) < (l1.length : Int) := by omega
              obtain ⟨ad, he, hy0, hy1⟩ := at_T49 (Kd.C_below HR1.out HBW.out) (jj : Int) (by omega) hltz
              cases he
              have hrd : rd_T49 l1 (jj : Int) = l1[jj] := by unfold rd_T49; simp [List.getD_eq_getElem?_getD, hlt]
              rw [hrd, Int.toNat_natCast] at hy0 hy1
              have hst : (l1.take (jj + 1)).map S49.f0 = (l1.take jj).map S49.f0 ++ [l1[jj].f0] := by rw [List.take_succ_eq_append_getElem hlt, List.map_append]; rfl
              have HST := Aside0.mk hst
              have hw : wrap64 ((jj : Int) + 1) = ((jj + 1 : Nat) : Int) := by have hyl := HLEN.out; unfold wrap64; omega
              have hyz : ys2.length < 2000000 := by have hyl := HLEN.out; have hys := HYS.out; rw [HY.out, List.length_append, List.length_map, List.length_take]; omega
              have HYZ := Aside0.mk hyz
              clear hrd hst hyz
              generalize l1[jj] = xx at *
              go_wp2_with ((with_reducible refine gate_builtin (b := .append) (xs := #[.tmp 28, .tmp 31]) rfl ?_); at_builtin; refine Kd.R_append Kd.string (w0 := ?ww0) (w1.heap.size + 1) rfl (.tmp 28) (.tmp 31) 39 9 (.string ⟨#[]⟩) 16 rfl Try.underlying39 xinfo9 rfl (by decide) (by omega) v2 ys2 xx.f0 [.string xx.f0] (fun _ => True) (fun _ => False) rfl (by first | (go_simp; done) | (go_simp; rfl)) ?aP (fun _ hk => hk.elim) ?aF ?aO ?aB ?aS ?aL ?_; (case aB => exact HB.out.alloc HSZ.out _); (case aP => exact rfl); (case aF => exact fun _ _ => trivial); (case aO => exact Kd.R_alloc HO.out _); (case aS => have z := HSZ.out; simp; omega); (case aL => have := HYZ.out; omega); intro v3 w3 ho hb hg hat; have HO3 := Aside0.mk ho; have HB3 := Aside0.mk hb; clear ho hb hg hat)
              go_roundg (l1.length - (jj + 1))
              case measure => omega
              case rel => exact ⟨jj + 1, v3, ys2 ++ [xx.f0], by omega, by omega, by first | (rw [hw]; done) | (simp [hw]; done) | go_num, rfl, HB3, HO3, ⟨by rw [HST.out, HY.out, List.append_assoc]⟩⟩
            · have hlt2 : ¬ (jj : Int) < (l1.length : Int) := by omega
              have hjl : jj = l1.length := by omega
              have hys2 : ys2 = ys ++ l1.map S49.f0 := by rw [HY.out, hjl, List.take_of_length_le (Nat.le_refl _)]
              have HY2 := Aside0.mk hys2
              have hwq : wrap64 ((0 : Int) + 1) = (1 : Int) := by unfold wrap64; omega
              clear hys2
              go_wp2
              go_roundg 1
              case measure => omega
              case rel => exact ⟨1, v2, ys2, by omega, by omega, by first | rfl | (simp; done) | (simp [hwq]; done), rfl, HB, HO, ⟨.inr (.inl ⟨rfl, by rw [HY2.out, HYE.out]; rfl⟩)⟩⟩
        · have HYS := Aside0.mk (show ys.length ≤ 1000000 from by rw [hys, List.length_map]; have := HLEN.out; omega)
          have HYE := Aside0.mk hys
          have hc : wr.cell? ⟨w1.heap.size, 1, none⟩ = some (.slice A0 l0.length c0) := (HB.out.cell (p := ⟨w1.heap.size, 1, none⟩) (Nat.lt_succ_self _)).trans (by simp)
          clear HS hys
          go_wp2
          go_loopg [4, 24] l0.length (fun gg2 s4 s24 wr2 => ∃ (jj : Nat) (v2 : Value) (ys2 : List ByteArray), jj ≤ l0.length ∧ l0.length - jj ≤ gg2 ∧ s24 = .int .i64 jj ∧ v2 = s4 ∧ Aside0 (Below (w1.heap.size + 1) (w1.alloc (.cells #[.slice A1 l1.length c1, .slice A0 l0.length c0] 22)) wr2) ∧ Aside0 (Kd.R Kd.string 9 wr2 (w1.heap.size + 1) (fun _ => True) v2 ys2) ∧ Aside0 (ys2 = ys ++ (l0.take jj).map S49.f0))
          case atStart => exact ⟨0, v, ys, Nat.zero_le _, by omega, rfl, rfl, HB, HO, ⟨by simp⟩⟩
          case round =>
            clear HB HO
            obtain ⟨jj, v2, ys2, hjj, hgj, rfl, rfl, HB, HO, HY⟩ := hrel
            have HBW : Aside0 (Below w.heap.size w wr) := ⟨(below_alloc HB1.out _).trans (HB.out.mono (by have z := HX1.out.size; simp at z; omega))⟩
            have HSZ : Aside0 (w1.heap.size + 1 ≤ wr.heap.size) := ⟨by have z := HB.out.size; simp at z; omega⟩
            by_cases hlt : jj < l0.length
            · have hltz : (jj : Int) < (l0.length : Int) := by omega
              obtain ⟨ad, he, hy0, hy1⟩ := at_T49 (Kd.C_below HR0.out HBW.out) (jj : Int) (by omega) hltz
              cases he
              have hrd : rd_T49 l0 (jj : Int) = l0[jj] := by unfold rd_T49; simp [List.getD_eq_getElem?_getD, hlt]
              rw [hrd, Int.toNat_natCast] at hy0 hy1
              have hst : (l0.take (jj + 1)).map S49.f0 = (l0.take jj).map S49.f0 ++ [l0[jj].f0] := by rw [List.take_succ_eq_append_getElem hlt, List.map_append]; rfl
              have HST := Aside0.mk hst
              have hw : wrap64 ((jj : Int) + 1) = ((jj + 1 : Nat) : Int) := by have hyl := HLEN.out; unfold wrap64; omega
              have hyz : ys2.length < 2000000 := by have hyl := HLEN.out; have hys := HYS.out; rw [HY.out, List.length_append, List.length_map, List.length_take]; omega
              have HYZ := Aside0.mk hyz
              clear hrd hst hyz
              generalize l0[jj] = xx at *
              go_wp2_with ((with_reducible refine gate_builtin (b := .append) (xs := #[.tmp 28, .tmp 31]) rfl ?_); at_builtin; refine Kd.R_append Kd.string (w0 := ?ww1) (w1.heap.size + 1) rfl (.tmp 28) (.tmp 31) 39 9 (.string ⟨#[]⟩) 16 rfl Try.underlying39 xinfo9 rfl (by decide) (by omega) v2 ys2 xx.f0 [.string xx.f0] (fun _ => True) (fun _ => False) rfl (by first | (go_simp; done) | (go_simp; rfl)) ?aP (fun _ hk => hk.elim) ?aF ?aO ?aB ?aS ?aL ?_; (case aB => exact HB.out.alloc HSZ.out _); (case aP => exact rfl); (case aF => exact fun _ _ => trivial); (case aO => exact Kd.R_alloc HO.out _); (case aS => have z := HSZ.out; simp; omega); (case aL => have := HYZ.out; omega); intro v3 w3 ho hb hg hat; have HO3 := Aside0.mk ho; have HB3 := Aside0.mk hb; clear ho hb hg hat)
              go_roundg (l0.length - (jj + 1))
              case measure => omega
              case rel => exact ⟨jj + 1, v3, ys2 ++ [xx.f0], by omega, by omega, by first | (rw [hw]; done) | (simp [hw]; done) | go_num, rfl, HB3, HO3, ⟨by rw [HST.out, HY.out, List.append_assoc]⟩⟩
            · have hlt2 : ¬ (jj : Int) < (l0.length : Int) := by omega
              have hjl : jj = l0.length := by omega
              have hys2 : ys2 = ys ++ l0.map S49.f0 := by rw [HY.out, hjl, List.take_of_length_le (Nat.le_refl _)]
              have HY2 := Aside0.mk hys2
              have hwq : wrap64 ((1 : Int) + 1) = (2 : Int) := by unfold wrap64; omega
              clear hys2
              go_wp2
              go_roundg 0
              case measure => omega
              case rel => exact ⟨2, v2, ys2, by omega, by omega, by first | rfl | (simp; done) | (simp [hwq]; done), rfl, HB, HO, ⟨.inr (.inr ⟨rfl, by rw [HY2.out, HYE.out, List.map_append]⟩)⟩⟩
        · have HYE := Aside0.mk hys
          go_wp2
          go_ret2
          exact ⟨_, rfl, by first | (rw [← HYE.out]; exact Kd.R_lower HO.out (by have z := HX1.out.size; simp at z; omega)) | (have zz := HYE.out; rw [List.map_append] at zz; rw [← zz]; exact Kd.R_lower HO.out (by have z := HX1.out.size; simp at z; omega)), (below_alloc HB1.out _).trans (HB.out.mono (by have z := HX1.out.size; simp at z; omega))⟩
    · rw [if_neg hlen] at h; cases h

/-! ### impl_within: function 40 -/
def impl_within.f (a0 : Int) (a1 : Int) (a2 : Int) : Option (Bool) := if a1 ≤ a0 then (some (decide (a0 ≤ a2))) else (some false)
set_option maxHeartbeats 8000000 in
set_option maxRecDepth 100000 in
theorem impl_within.calls (a0 : Int) (a1 : Int) (a2 : Int) (r : Bool) (w : World) (h : impl_within.f a0 a1 a2 = some r) :
    Calls Try.prog 40 #[.int .i64 a0, .int .i64 a1, .int .i64 a2] w fun e w' => e = .returned (.bool r) ∧ Drawn0 w w' := by
  have H : (if a1 ≤ a0 then (some (decide (a0 ≤ a2))) else (some false)) = some r := h
  clear h
  by_cases c4 : a1 ≤ a0
  · rw [if_pos c4] at H
    have c4b0 : decide (a1 ≤ a0) = true := decide_eq_true c4
    clear c4
    obtain rfl := Option.some.inj H
    go_enter Try.func40, Try.ntmps40
    go_wp2
    go_ret
    exact ⟨by first | rfl | (simp; done) | (simp [*]; done), by repeat (first | exact Drawn0.refl _ | apply Drawn0.step)⟩
  · rw [if_neg c4] at H
    have c4b0 : decide (a1 ≤ a0) = false := decide_eq_false c4
    clear c4
    obtain rfl := Option.some.inj H
    go_enter Try.func40, Try.ntmps40
    go_wp2
    go_ret
    exact ⟨by first | rfl | (simp; done) | (simp [*]; done), by repeat (first | exact Drawn0.refl _ | apply Drawn0.step)⟩

/-! ### impl_isRoom: function 24 -/
def impl_isRoom.f (a0 : Int) : Option (Bool) := (impl_within.f a0 100 2000).bind fun t171 => (some t171)
set_option maxHeartbeats 8000000 in
set_option maxRecDepth 100000 in
theorem impl_isRoom.calls (a0 : Int) (r : Bool) (w : World) (h : impl_isRoom.f a0 = some r) :
    Calls Try.prog 24 #[.int .i64 a0] w fun e w' => e = .returned (.bool r) ∧ Drawn0 w w' := by
  have H : ((impl_within.f a0 100 2000).bind fun t171 => (some t171)) = some r := h
  clear h
  replace H := Option.bind_eq_some_iff.mp H
  obtain ⟨t171, A20, H⟩ := H
  replace H : (some t171) = some r := H
  have A2 := Aside0.mk A20
  clear A20
  obtain rfl := Option.some.inj H
  go_enter Try.func24, Try.ntmps24
  go_wp2_with (first | ((with_reducible refine gate_callee (f := 40) rfl ?_); refine goesL_ (some 4) rfl rfl Try.func40 (by kernel_rfl) rfl #[.int .i64 a0, .int .i64 100, .int .i64 2000] rfl (by (try simp only [List.map_toArray, List.map_cons, List.map_nil]); first | done | rfl | (simp only [List.length_drop, List.length_take]; rfl)) ?_; (with_reducible refine (impl_within.calls a0 100 2000 t171 _ A2.out).mono ?_); rintro e w' ⟨rfl, ⟨nd, rfl⟩⟩; refine ⟨_, rfl, ?_⟩))
  go_ret
  exact ⟨by first | rfl | (simp; done) | (simp [*]; done), by repeat (first | exact Drawn0.refl _ | apply Drawn0.step)⟩

/-! ### impl_weight: function 37 -/
def impl_weight.l0 : Nat → Int → List (S49) → Int → Int → Option (Int)
  | 0, _, _, _, _ => none
  | k + 1, x3, x6, x7, x8 => if x8 < x7 then (if 0 ≤ x8 then (if x8 < (x6.length : Int) then (impl_weight.l0 k (wrap64 (x3 + (wrap64 ((((rd_T49 x6 x8).f0).size : Int) + (((rd_T49 x6 x8).f1).size : Int))))) x6 x7 (wrap64 (x8 + 1))) else (none)) else (none)) else (some x3)
def impl_weight.f (k : Nat) (l0 : List (S49)) : Option (Int) := impl_weight.l0 k 0 l0 (l0.length : Int) 0
theorem impl_weight.mono_l : ∀ k, (∀ y0 y1 y2 y3, LeO (impl_weight.l0 k y0 y1 y2 y3) (impl_weight.l0 (k + 1) y0 y1 y2 y3))
  | 0 => fun _ _ _ _ r h => by simp [impl_weight.l0] at h
  | k + 1 => by
    have ih0 := impl_weight.mono_l k
    · intro y0 y1 y2 y3
      unfold impl_weight.l0
      repeat' first
      | (with_reducible exact ih0 _ _ _ _)
      | (with_reducible exact LeO.refl _)
      | (with_reducible exact LeO.none _)
      | (with_reducible refine LeO.ite ?_ ?_)
      | (with_reducible refine LeO.bind ?_ (fun _ => ?_))
      | exact ih0 _ _ _ _
      | exact LeO.none _
      | refine LeO.ite ?_ ?_
      | refine LeO.bind ?_ (fun _ => ?_)
theorem impl_weight.mono : ∀ a0 k, LeO (impl_weight.f k a0) (impl_weight.f (k + 1) a0) := by
  intro a0 k
  have ih0 := impl_weight.mono_l k
  unfold impl_weight.f
  repeat' first
      | (with_reducible exact ih0 _ _ _ _)
      | (with_reducible exact LeO.refl _)
      | (with_reducible exact LeO.none _)
      | (with_reducible refine LeO.ite ?_ ?_)
      | (with_reducible refine LeO.bind ?_ (fun _ => ?_))
      | exact ih0 _ _ _ _
      | exact LeO.none _
      | refine LeO.ite ?_ ?_
      | refine LeO.bind ?_ (fun _ => ?_)
set_option maxHeartbeats 8000000 in
set_option maxRecDepth 100000 in
theorem impl_weight.calls (k : Nat) (A0 : Option Addr) (c0 : Nat) (l0 : List (S49)) (r : Int) (w : World) (hr0 : Kd.C k49 w A0 l0.length l0) (hc0 : l0.length ≤ c0) (h : impl_weight.f k l0 = some r) :
    Calls Try.prog 37 #[.slice A0 l0.length c0] w fun e w' => e = .returned (.int .i64 r) ∧ Below w.heap.size w w' := by
  have hu49 := Try.underlying49
  have HR0 := Aside0.mk hr0
  have HC0 := Aside0.mk hc0
  clear hr0 hc0
  have HB := Aside0.mk (Below.refl w.heap.size w)
  have H : (impl_weight.l0 k 0 l0 (l0.length : Int) 0) = some r := h
  clear h
  have H' := Aside0.mk H
  clear H
  go_enter Try.func37, Try.ntmps37
  go_wp2
  go_loopg [3, 8] k (fun kq v3 v8 w' => ∃ (x3_1 : Int) (x8_1 : Int), v3 = .int .i64 x3_1 ∧ v8 = .int .i64 x8_1 ∧ Aside0 (impl_weight.l0 kq x3_1 l0 (l0.length : Int) x8_1 = some r) ∧ Aside0 (kq ≤ k) ∧ Aside0 (Below w.heap.size w w'))
  case atStart => exact ⟨(0), (0), (by first | rfl | (simp; done) | (simp [*]; done)), (by first | rfl | (simp; done) | (simp [*]; done)), H', ⟨Nat.le_refl _⟩, ⟨by repeat (first | (with_reducible first | exact HB.out | apply below_alloc | apply pw_below_drewN | apply below_drew1) | exact HB.out)⟩⟩
  case round =>
    clear H'
    obtain ⟨x3_1, x8_1, rfl, rfl, HA, HK1, HB⟩ := hrel
    cases gk with
    | zero => exact absurd HA.out (by simp [impl_weight.l0])
    | succ k1 =>
      have H := HA.out
      clear HA
      simp only [impl_weight.l0] at H
      by_cases c2 : x8_1 < (l0.length : Int)
      · rw [if_pos c2] at H
        have c2b0 : decide (x8_1 < (l0.length : Int)) = true := decide_eq_true c2
        clear c2
        by_cases c3 : 0 ≤ x8_1
        · rw [if_pos c3] at H
          have c3b0 : decide (0 ≤ x8_1) = true := decide_eq_true c3
          clear c3
          by_cases c4 : x8_1 < (l0.length : Int)
          · rw [if_pos c4] at H
            have c4b0 : decide (x8_1 < (l0.length : Int)) = true := decide_eq_true c4
            clear c4
            have H' := Aside0.mk H
            clear H
            have p172 : 0 ≤ (x8_1 : Int) := of_decide_eq_true (by first | (with_reducible assumption) | assumption)
            have q172 : x8_1 < (l0.length : Int) := of_decide_eq_true (by first | (with_reducible assumption) | assumption)
            obtain ⟨ad172, e172, hx172_0, hx172_1⟩ := at_T49 HR0.out x8_1 p172 q172
            cases e172
            (try replace hx172_0 := (HB.out.cell (World.block_lt_of_cell? w _ hx172_0)).trans hx172_0)
            (try replace hx172_1 := (HB.out.cell (World.block_lt_of_cell? w _ hx172_1)).trans hx172_1)
            replace p172 := eq_true p172
            replace q172 := eq_true q172
            go_wp2_with (first | ((with_reducible refine gate_dst (N := 5) rfl ?_); refine box_event ?hg (N := 5) ?hd (cs := #[.string (⟨#[]⟩ : ByteArray), .string (⟨#[]⟩ : ByteArray)]) (t := 49) ?hr ?_; (case hd => rfl); (case hg => rfl); (case hr => first | (go_simp; done) | (go_simp; rfl)); intro gb173 hg w5 hbox hb; have n0_ := Aside0.mk (below_step (by repeat (first | (with_reducible first | exact HB.out | apply below_alloc | apply pw_below_drewN | apply below_drew1) | exact HB.out)) hb); have n1_ := Aside0.mk (hbox); have n2_ := Aside0.mk ((by rw [hg]; exact (below_size (by repeat (first | (with_reducible first | exact HB.out | apply below_alloc | apply pw_below_drewN | apply below_drew1) | exact HB.out))) : w.heap.size ≤ gb173)); have n3_ := Aside0.mk ((by rw [hg]; exact (below_size (by repeat (first | (with_reducible first | exact HB.out | apply below_alloc | apply pw_below_drewN | apply below_drew1) | exact HB.out))) : w.heap.size ≤ gb173)); clear HB; have HB := n0_; have BK173 := n1_; have GW173 := n2_; have GE173 := n3_; clear n0_ n1_ n2_ n3_; clear hb hbox hg; have hcz6_0 : w5.cell? ⟨gb173, 0, none⟩ = some (.string (⟨#[]⟩ : ByteArray)) := (blk_cell BK173.out 0).trans rfl; have hcz6_1 : w5.cell? ⟨gb173, 1, none⟩ = some (.string (⟨#[]⟩ : ByteArray)) := (blk_cell BK173.out 1).trans rfl; have hfz6_0 := blk_frozen BK173.out 0; have hfz6_1 := blk_frozen BK173.out 1))
            go_roundg k1
            case measure => have := HK1.out; omega
            case rel => exact ⟨(wrap64 (x3_1 + (wrap64 ((((rd_T49 l0 x8_1).f0).size : Int) + (((rd_T49 l0 x8_1).f1).size : Int))))), (wrap64 (x8_1 + 1)), (by first | rfl | (simp; done) | (simp [*]; done)), (by first | rfl | (simp; done) | (simp [*]; done)), H', ⟨by have := HK1.out; omega⟩, ⟨by repeat (first | (with_reducible first | exact HB.out | apply below_alloc | apply pw_below_drewN | apply below_drew1 | refine below_set ?_ GE173.out) | exact HB.out)⟩⟩
          · rw [if_neg c4] at H
            exact absurd H (by simp)
        · rw [if_neg c3] at H
          exact absurd H (by simp)
      · rw [if_neg c2] at H
        have c2b0 : decide (x8_1 < (l0.length : Int)) = false := decide_eq_false c2
        clear c2
        obtain rfl := Option.some.inj H
        go_wp2
        go_ret
        exact ⟨by first | rfl | (simp [errW_none, errW_some] <;> rfl) | (simp [*, errW_none, errW_some] <;> rfl), by repeat (first | (with_reducible first | exact HB.out | apply below_alloc | apply pw_below_drewN | apply below_drew1) | exact HB.out)⟩

/-! ### impl_fits: function 32 -/
def impl_fits.f (k : Nat) (l0 : List (S49)) (a1 : Int) : Option (Bool) := if (l0.length : Int) ≤ 60 then ((impl_weight.f k l0).bind fun t174 => (some (decide (t174 ≤ a1)))) else (some false)
theorem impl_fits.mono : ∀ a0 a1 k, LeO (impl_fits.f k a0 a1) (impl_fits.f (k + 1) a0 a1) := by
  intro a0 a1 k
  unfold impl_fits.f
  repeat' first
      | (with_reducible exact impl_weight.mono _ _)
      | (with_reducible exact LeO.refl _)
      | (with_reducible exact LeO.none _)
      | (with_reducible refine LeO.ite ?_ ?_)
      | (with_reducible refine LeO.bind ?_ (fun _ => ?_))
      | exact impl_weight.mono _ _
      | exact LeO.none _
      | refine LeO.ite ?_ ?_
      | refine LeO.bind ?_ (fun _ => ?_)
set_option maxHeartbeats 8000000 in
set_option maxRecDepth 100000 in
theorem impl_fits.calls (k : Nat) (A0 : Option Addr) (c0 : Nat) (l0 : List (S49)) (a1 : Int) (r : Bool) (w : World) (hr0 : Kd.C k49 w A0 l0.length l0) (hc0 : l0.length ≤ c0) (h : impl_fits.f k l0 a1 = some r) :
    Calls Try.prog 32 #[.slice A0 l0.length c0, .int .i64 a1] w fun e w' => e = .returned (.bool r) ∧ Below w.heap.size w w' := by
  have HR0 := Aside0.mk hr0
  have HC0 := Aside0.mk hc0
  clear hr0 hc0
  have HB := Aside0.mk (Below.refl w.heap.size w)
  have H : (if (l0.length : Int) ≤ 60 then ((impl_weight.f k l0).bind fun t174 => (some (decide (t174 ≤ a1)))) else (some false)) = some r := h
  clear h
  by_cases c3 : (l0.length : Int) ≤ 60
  · rw [if_pos c3] at H
    have c3b0 : decide ((l0.length : Int) ≤ 60) = true := decide_eq_true c3
    have c3b1 : decide (l0.length ≤ 60) = true := decide_eq_true (by omega)
    clear c3
    replace H := Option.bind_eq_some_iff.mp H
    obtain ⟨t174, A40, H⟩ := H
    replace H : (some (decide (t174 ≤ a1))) = some r := H
    have A4 := Aside0.mk A40
    clear A40
    obtain rfl := Option.some.inj H
    go_enter Try.func32, Try.ntmps32
    go_wp2_with (first | (go_at_call 37; (with_reducible refine (impl_weight.calls k _ _ l0 t174 _ ?side1 ?side2 A4.out).mono ?_); (case side1 => repeat (first | exact HR0.out | (with_reducible refine Kd.C_alloc ?_ _) | (with_reducible refine Kd.C_drewN ?_ _) | (with_reducible refine Kd.C_drew ?_))); (case side2 => exact HC0.out); rintro e w5 ⟨rfl, hb⟩; have n0_ := Aside0.mk (below_step (by repeat (first | (with_reducible first | exact HB.out | apply below_alloc | apply pw_below_drewN | apply below_drew1) | exact HB.out)) hb); clear HB; have HB := n0_; clear n0_; (try clear hb); (try clear hb2); (try clear hk); (try clear hi)))
    go_ret
    exact ⟨by first | rfl | (simp [errW_none, errW_some] <;> rfl) | (simp [*, errW_none, errW_some] <;> rfl), by repeat (first | (with_reducible first | exact HB.out | apply below_alloc | apply pw_below_drewN | apply below_drew1) | exact HB.out)⟩
  · rw [if_neg c3] at H
    have c3b0 : decide ((l0.length : Int) ≤ 60) = false := decide_eq_false c3
    have c3b1 : decide (l0.length ≤ 60) = false := decide_eq_false (by omega)
    clear c3
    obtain rfl := Option.some.inj H
    go_enter Try.func32, Try.ntmps32
    go_wp2
    go_ret
    exact ⟨by first | rfl | (simp [errW_none, errW_some] <;> rfl) | (simp [*, errW_none, errW_some] <;> rfl), by repeat (first | (with_reducible first | exact HB.out | apply below_alloc | apply pw_below_drewN | apply below_drew1) | exact HB.out)⟩

/-! ### impl_isKey: function 47 -/
def impl_isKey.f (a0 : ByteArray) : Option (Bool) := (impl_within.f (a0.size : Int) 1 20).bind fun t175 => (some t175)
set_option maxHeartbeats 8000000 in
set_option maxRecDepth 100000 in
theorem impl_isKey.calls (a0 : ByteArray) (r : Bool) (w : World) (h : impl_isKey.f a0 = some r) :
    Calls Try.prog 47 #[.string a0] w fun e w' => e = .returned (.bool r) ∧ Drawn0 w w' := by
  have H : ((impl_within.f (a0.size : Int) 1 20).bind fun t175 => (some t175)) = some r := h
  clear h
  replace H := Option.bind_eq_some_iff.mp H
  obtain ⟨t175, A20, H⟩ := H
  replace H : (some t175) = some r := H
  have A2 := Aside0.mk A20
  clear A20
  obtain rfl := Option.some.inj H
  go_enter Try.func47, Try.ntmps47
  go_wp2_with (first | ((with_reducible refine gate_callee (f := 40) rfl ?_); refine goesL_ (some 5) rfl rfl Try.func40 (by kernel_rfl) rfl #[.int .i64 (a0.size : Int), .int .i64 1, .int .i64 20] rfl (by (try simp only [List.map_toArray, List.map_cons, List.map_nil]); first | done | rfl | (simp only [List.length_drop, List.length_take]; rfl)) ?_; (with_reducible refine (impl_within.calls (a0.size : Int) 1 20 t175 _ A2.out).mono ?_); rintro e w' ⟨rfl, ⟨nd, rfl⟩⟩; refine ⟨_, rfl, ?_⟩))
  go_ret
  exact ⟨by first | rfl | (simp; done) | (simp [*]; done), by repeat (first | exact Drawn0.refl _ | apply Drawn0.step)⟩

/-! ### impl_isEntry: function 34 -/
def impl_isEntry.f (a0_0 : ByteArray) (a0_1 : ByteArray) : Option (Bool) := (impl_isKey.f a0_0).bind fun t177 => (if t177 = true then (some (decide ((a0_1.size : Int) ≤ 60))) else (some false))
set_option maxHeartbeats 8000000 in
set_option maxRecDepth 100000 in
theorem impl_isEntry.calls (a0_0 : ByteArray) (a0_1 : ByteArray) (r : Bool) (w : World) (h : impl_isEntry.f a0_0 a0_1 = some r) :
    Calls Try.prog 34 #[.agg #[.string a0_0, .string a0_1]] w fun e w' => e = .returned (.bool r) ∧ Below w.heap.size w w' := by
  have hu49 := Try.underlying49
  have HB := Aside0.mk (Below.refl w.heap.size w)
  have H : ((impl_isKey.f a0_0).bind fun t177 => (if t177 = true then (some (decide ((a0_1.size : Int) ≤ 60))) else (some false))) = some r := h
  clear h
  replace H := Option.bind_eq_some_iff.mp H
  obtain ⟨t177, A20, H⟩ := H
  replace H : (if t177 = true then (some (decide ((a0_1.size : Int) ≤ 60))) else (some false)) = some r := H
  have A2 := Aside0.mk A20
  clear A20
  by_cases c3 : t177 = true
  · subst c3
    have H1 : (some (decide ((a0_1.size : Int) ≤ 60))) = some r := by rw [if_pos rfl] at H; exact H
    clear H
    have H := H1
    clear H1
    obtain rfl := Option.some.inj H
    go_enter Try.func34, Try.ntmps34
    go_wp2_with (first | ((with_reducible refine gate_dst (N := 1) rfl ?_); (try (refine gate_guard (by rfl) ?_; dsimp only)); refine box_event ?hg (N := 1) ?hd (cs := #[.string a0_0, .string a0_1]) (t := 49) ?hr ?_; (case hd => rfl); (case hg => rfl); (case hr => first | (go_simp; done) | (go_simp; rfl)); intro gb176 hg w4 hbox hb; have n0_ := Aside0.mk (below_step (by repeat (first | (with_reducible first | exact HB.out | apply below_alloc | apply pw_below_drewN | apply below_drew1) | exact HB.out)) hb); have n1_ := Aside0.mk (hbox); have n2_ := Aside0.mk ((by rw [hg]; exact (below_size (by repeat (first | (with_reducible first | exact HB.out | apply below_alloc | apply pw_below_drewN | apply below_drew1) | exact HB.out))) : w.heap.size ≤ gb176)); have n3_ := Aside0.mk ((by rw [hg]; exact (below_size (by repeat (first | (with_reducible first | exact HB.out | apply below_alloc | apply pw_below_drewN | apply below_drew1) | exact HB.out))) : w.heap.size ≤ gb176)); clear HB; have HB := n0_; have BK176 := n1_; have GW176 := n2_; have GE176 := n3_; clear n0_ n1_ n2_ n3_; clear hb hbox hg; have hcz5_0 : w4.cell? ⟨gb176, 0, none⟩ = some (.string a0_0) := (blk_cell BK176.out 0).trans rfl; have hcz5_1 : w4.cell? ⟨gb176, 1, none⟩ = some (.string a0_1) := (blk_cell BK176.out 1).trans rfl; have hfz5_0 := blk_frozen BK176.out 0; have hfz5_1 := blk_frozen BK176.out 1) | ((with_reducible refine gate_callee (f := 47) rfl ?_); refine goesL_ (some 5) rfl rfl Try.func47 (by kernel_rfl) rfl #[.string a0_0] rfl (by (try simp only [List.map_toArray, List.map_cons, List.map_nil]); first | done | rfl | (simp only [List.length_drop, List.length_take]; rfl)) ?_; (with_reducible refine (impl_isKey.calls a0_0 true _ A2.out).mono ?_); rintro e w' ⟨rfl, ⟨nd, rfl⟩⟩; refine ⟨_, rfl, ?_⟩))
    go_ret
    exact ⟨by first | rfl | (simp [errW_none, errW_some] <;> rfl) | (simp [*, errW_none, errW_some] <;> rfl), by repeat (first | (with_reducible first | exact HB.out | apply below_alloc | apply pw_below_drewN | apply below_drew1 | refine below_set ?_ GE176.out) | exact HB.out)⟩
  · replace c3 := Bool.eq_false_iff.mpr c3
    subst c3
    have H1 : (some false) = some r := by rw [if_neg (show ¬ (false = true) by decide)] at H; exact H
    clear H
    have H := H1
    clear H1
    obtain rfl := Option.some.inj H
    go_enter Try.func34, Try.ntmps34
    go_wp2_with (first | ((with_reducible refine gate_dst (N := 1) rfl ?_); (try (refine gate_guard (by rfl) ?_; dsimp only)); refine box_event ?hg (N := 1) ?hd (cs := #[.string a0_0, .string a0_1]) (t := 49) ?hr ?_; (case hd => rfl); (case hg => rfl); (case hr => first | (go_simp; done) | (go_simp; rfl)); intro gb176 hg w6 hbox hb; have n0_ := Aside0.mk (below_step (by repeat (first | (with_reducible first | exact HB.out | apply below_alloc | apply pw_below_drewN | apply below_drew1) | exact HB.out)) hb); have n1_ := Aside0.mk (hbox); have n2_ := Aside0.mk ((by rw [hg]; exact (below_size (by repeat (first | (with_reducible first | exact HB.out | apply below_alloc | apply pw_below_drewN | apply below_drew1) | exact HB.out))) : w.heap.size ≤ gb176)); have n3_ := Aside0.mk ((by rw [hg]; exact (below_size (by repeat (first | (with_reducible first | exact HB.out | apply below_alloc | apply pw_below_drewN | apply below_drew1) | exact HB.out))) : w.heap.size ≤ gb176)); clear HB; have HB := n0_; have BK176 := n1_; have GW176 := n2_; have GE176 := n3_; clear n0_ n1_ n2_ n3_; clear hb hbox hg; have hcz7_0 : w6.cell? ⟨gb176, 0, none⟩ = some (.string a0_0) := (blk_cell BK176.out 0).trans rfl; have hcz7_1 : w6.cell? ⟨gb176, 1, none⟩ = some (.string a0_1) := (blk_cell BK176.out 1).trans rfl; have hfz7_0 := blk_frozen BK176.out 0; have hfz7_1 := blk_frozen BK176.out 1) | ((with_reducible refine gate_callee (f := 47) rfl ?_); refine goesL_ (some 5) rfl rfl Try.func47 (by kernel_rfl) rfl #[.string a0_0] rfl (by (try simp only [List.map_toArray, List.map_cons, List.map_nil]); first | done | rfl | (simp only [List.length_drop, List.length_take]; rfl)) ?_; (with_reducible refine (impl_isKey.calls a0_0 false _ A2.out).mono ?_); rintro e w' ⟨rfl, ⟨nd, rfl⟩⟩; refine ⟨_, rfl, ?_⟩))
    go_ret
    exact ⟨by first | rfl | (simp [errW_none, errW_some] <;> rfl) | (simp [*, errW_none, errW_some] <;> rfl), by repeat (first | (with_reducible first | exact HB.out | apply below_alloc | apply pw_below_drewN | apply below_drew1 | refine below_set ?_ GE176.out) | exact HB.out)⟩

theorem xinfo49 : (Try.prog.info? 49).map (fun i => (i.zero, i.size, i.bytes)) = some (some (.agg #[(.string ⟨#[]⟩), (.string ⟨#[]⟩)]), 2, 32) := by kernel_rfl
set_option maxHeartbeats 8000000 in
set_option maxRecDepth 100000 in
/-- slices.Grow of nothing: an empty row with room -/
theorem xGrow0_T49 (w : World) (n : Nat) (hn : n < 4398046511104) :
    Calls Try.prog 48 #[.slice none 0 0, .int .i64 n] w fun e w' => ∃ v0_ : Value, e = .returned (v0_) ∧ Kd.R k49 49 w' w.heap.size (fun _ => True) v0_ [] ∧ Below w.heap.size w w' := by
  by_cases h0 : n = 0
  · subst h0
    go_enter Try.func48, Try.ntmps48
    go_wp2
    go_ret
    exact ⟨_, rfl, Kd.R_nil _ _ _ _ _, Below.refl _ _⟩
  · have hp : (0 : Int) < (n : Int) := by omega
    have hw : wrap64 (n : Int) = (n : Int) := by unfold wrap64; omega
    have HN := Aside0.mk hn
    clear hn h0
    obtain ⟨A, hA⟩ : ∃ A : Option Addr, A = none := ⟨_, rfl⟩
    have HO0 := Aside0.mk (show ∀ W : World, Kd.R k49 49 W w.heap.size (fun _ => True) (.slice A 0 0) [] from fun W => by rw [hA]; exact Kd.R_nil _ _ _ _ _)
    rw [← hA]
    clear hA
    obtain ⟨i0, hi0, _, hsz0, _⟩ := info_parts xinfo49
    have hcut0 := cut_to (P := Try.prog) 22 49 .i64 Try.underlying22 hi0 A 0 0 0 (by omega) (by omega) (by omega)
    simp only [Int.toNat_zero] at hcut0
    go_enter Try.func48, Try.ntmps48
    go_wp2_with (((with_reducible refine gate_builtin (b := .append) (xs := #[.tmp 20, .tmp 21]) rfl ?_); at_builtin; (refine Kd.R_append_zeros k49 (w0 := w) w.heap.size rfl (.tmp 20) (.tmp 21) 22 3 49 (.agg #[(.string ⟨#[]⟩), (.string ⟨#[]⟩)]) 32 rfl Try.underlying22 Try.underlying3 xinfo49 rfl (by decide) (by omega) (.slice A 0 0) [] z49 (wrap64 (n : Int)) (fun _ => True) rfl rfl (k49_mkM _ _ _ _) (fun _ _ => trivial) (HO0.out _) (by rw [hw]; omega) (Below.refl _ _) (Nat.le_refl _) ?aL ?_); (case aL => have := HN.out; rw [hw]; simp; omega); intro v1 w1 ho hb hg hat; obtain ⟨y, hy⟩ : ∃ y : List S49, y = ([] : List S49) ++ List.replicate (wrap64 (n : Int)).toNat z49 := ⟨_, rfl⟩; rw [← hy] at ho; clear hy; obtain ⟨A1, c1, e1⟩ := Kd.R_slice ho; subst e1; have HO1 := Aside0.mk ho; have HB1 := Aside0.mk hb; have hcut := cut_to (P := Try.prog) 22 49 .i64 Try.underlying22 hi0 A1 y.length c1 0 (by omega) (by omega) (Kd.R_reads' HO1.out).2.1; simp only [Int.toNat_zero] at hcut; clear ho hb hg hat))
    go_ret
    exact ⟨_, rfl, Kd.R_take (m := 0) HO1.out (by omega), HB1.out⟩
set_option maxHeartbeats 8000000 in
set_option maxRecDepth 100000 in
/-- slices.Concat of two rows -/
theorem xConcat2_T49 (w : World) (ad : Addr) (c0 : Nat) (Aa Ab : Option Addr) (ca cb : Nat) (la lb : List S49) (hg : ad.block < w.heap.size)
    (h0 : w.cell? (ad.add 0) = some (.slice Aa la.length ca)) (h1 : w.cell? (ad.add 1) = some (.slice Ab lb.length cb))
    (hra : Kd.C k49 w Aa la.length la) (hrb : Kd.C k49 w Ab lb.length lb) (hn : la.length + lb.length < 4398046511104) :
    Calls Try.prog 35 #[.slice (some ad) 2 c0] w fun e w' => ∃ v0_ : Value, e = .returned (v0_) ∧ Kd.R k49 49 w' w.heap.size (fun _ => True) v0_ (la ++ lb) ∧ Below w.heap.size w w' := by
  have HN := Aside0.mk hn
  have HRA := Aside0.mk hra
  have HRB := Aside0.mk hrb
  have H0 := Aside0.mk h0
  have H1 := Aside0.mk h1
  have HG := Aside0.mk hg
  have e1 : wrap64 (0 + (la.length : Int)) = (la.length : Int) := by unfold wrap64; omega
  have e2 : wrap64 ((la.length : Int) + (lb.length : Int)) = ((la.length + lb.length : Nat) : Int) := by unfold wrap64; omega
  have E1 := Aside0.mk e1
  have E2 := Aside0.mk e2
  clear hn hra hrb h0 h1 hg e1 e2
  go_enter Try.func35, Try.ntmps35
  go_wp2
  go_loopg [3, 11] 2 (fun gg s3 s11 wr => ∃ (kk : Nat) (sz : Nat), kk ≤ 2 ∧ 2 - kk ≤ gg ∧ s11 = .int .i64 kk ∧ s3 = .int .i64 sz ∧ Aside0 (Drawn0 w wr) ∧ Aside0 (kk = 0 ∧ sz = 0 ∨ kk = 1 ∧ sz = la.length ∨ kk = 2 ∧ sz = la.length + lb.length))
  case atStart => exact ⟨0, 0, by omega, by omega, rfl, rfl, ⟨Drawn0.refl _⟩, ⟨.inl ⟨rfl, rfl⟩⟩⟩
  case round =>
    obtain ⟨kk, sz, hk, hgk, rfl, rfl, ⟨nd, rfl⟩, HS⟩ := hrel
    obtain ⟨rfl, rfl⟩ | ⟨rfl, rfl⟩ | ⟨rfl, rfl⟩ := HS.out
    · have hc : w.cell? (ad.add 0) = some (.slice Aa la.length ca) := H0.out
      have hc2 : w.cell? ad = some (.slice Aa la.length ca) := hc
      have hw := E1.out
      have hp : ¬ (la.length : Int) < 0 := by omega
      simp only [Int.zero_add] at hw
      go_wp2
      go_roundg 1
      case measure => omega
      case rel => exact ⟨1, la.length, by omega, by omega, rfl, by first | rfl | (simp; done) | (simp [hw]; done), ⟨by repeat (first | exact Drawn0.refl _ | apply Drawn0.step)⟩, ⟨.inr (.inl ⟨rfl, rfl⟩)⟩⟩
    · have hc : w.cell? (ad.add 1) = some (.slice Ab lb.length cb) := H1.out
      have hc2 : w.cell? ⟨ad.block, ad.off + 1, none⟩ = some (.slice Ab lb.length cb) := hc
      have hw := E2.out
      have hp : ¬ ((la.length + lb.length : Nat) : Int) < 0 := by omega
      go_wp2
      go_roundg 0
      case measure => omega
      case rel => exact ⟨2, la.length + lb.length, by omega, by omega, rfl, by first | rfl | (simp; done) | (simp [hw]; done), ⟨by repeat (first | exact Drawn0.refl _ | apply Drawn0.step)⟩, ⟨.inr (.inr ⟨rfl, rfl⟩)⟩⟩
    · go_wp2_with (go_at_call 48; refine (xGrow0_T49 _ (la.length + lb.length) HN.out).mono ?_; rintro e w1 ⟨v1, rfl, ho, hb⟩)
      have HO := Aside0.mk ho
      have HB := Aside0.mk (below_then (pw_below_drewN (Below.refl _ w) nd) (Nat.le_refl _) hb)
      clear ho hb HS
      go_loopg [6, 27] 2 (fun gg s6 s27 wr => ∃ (kk : Nat) (v : Value) (ys : List S49), kk ≤ 2 ∧ 2 - kk ≤ gg ∧ s27 = .int .i64 kk ∧ v = s6 ∧ Aside0 (Below w.heap.size w wr) ∧ Aside0 (Kd.R k49 49 wr w.heap.size (fun _ => True) v ys) ∧ Aside0 (kk = 0 ∧ ys = [] ∨ kk = 1 ∧ ys = la ∨ kk = 2 ∧ ys = la ++ lb))
      case atStart => exact ⟨0, v1, [], by omega, by omega, rfl, rfl, HB, HO, ⟨.inl ⟨rfl, rfl⟩⟩⟩
      case round =>
        clear HB HO
        obtain ⟨kk, v, ys, hk, hgk, rfl, rfl, HB, HO, HS⟩ := hrel
        obtain ⟨rfl, rfl⟩ | ⟨rfl, rfl⟩ | ⟨rfl, rfl⟩ := HS.out
        · have hc : wr.cell? (ad.add 0) = some (.slice Aa la.length ca) := (HB.out.cell (p := ad.add 0) HG.out).trans H0.out
          have hc2 : wr.cell? ad = some (.slice Aa la.length ca) := hc
          go_wp2_with ((with_reducible refine gate_builtin (b := .append) (xs := #[.tmp 31, .tmp 32]) rfl ?_); at_builtin; (refine Kd.R_append_rows k49 (w0 := w) w.heap.size rfl (.tmp 31) (.tmp 32) 22 49 (.agg #[(.string ⟨#[]⟩), (.string ⟨#[]⟩)]) 32 rfl Try.underlying22 xinfo49 rfl (by decide) (by omega) v [] la _ _ _ (fun _ => True) (fun _ => False) rfl rfl ?aO ?aR (fun _ _ h => h) (fun _ h => h.elim) ?aF ?aB ?aS ?aL ?_); (case aR => exact Kd.C_below HRA.out HB.out); (case aB => exact HB.out); (case aF => exact fun _ _ => trivial); (case aO => exact HO.out); (case aS => exact HB.out.size); (case aL => have := HN.out; simp; omega); intro v2 w2 ho hb hg hat; have HO2 := Aside0.mk ho; have HB2 := Aside0.mk hb; clear ho hb hg hat)
          go_roundg 1
          case measure => omega
          case rel => exact ⟨1, v2, la, by omega, by omega, rfl, rfl, HB2, by simpa using HO2, ⟨.inr (.inl ⟨rfl, rfl⟩)⟩⟩
        · have hc : wr.cell? (ad.add 1) = some (.slice Ab lb.length cb) := (HB.out.cell (p := ad.add 1) HG.out).trans H1.out
          have hc2 : wr.cell? ⟨ad.block, ad.off + 1, none⟩ = some (.slice Ab lb.length cb) := hc
          go_wp2_with ((with_reducible refine gate_builtin (b := .append) (xs := #[.tmp 31, .tmp 32]) rfl ?_); at_builtin; (refine Kd.R_append_rows k49 (w0 := w) w.heap.size rfl (.tmp 31) (.tmp 32) 22 49 (.agg #[(.string ⟨#[]⟩), (.string ⟨#[]⟩)]) 32 rfl Try.underlying22 xinfo49 rfl (by decide) (by omega) v ys lb _ _ _ (fun _ => True) (fun _ => False) rfl rfl ?aO ?aR (fun _ _ h => h) (fun _ h => h.elim) ?aF ?aB ?aS ?aL ?_); (case aR => exact Kd.C_below HRB.out HB.out); (case aB => exact HB.out); (case aF => exact fun _ _ => trivial); (case aO => exact HO.out); (case aS => exact HB.out.size); (case aL => have := HN.out; omega); intro v2 w2 ho hb hg hat; have HO2 := Aside0.mk ho; have HB2 := Aside0.mk hb; clear ho hb hg hat)
          go_roundg 0
          case measure => omega
          case rel => exact ⟨2, v2, ys ++ lb, by omega, by omega, rfl, rfl, HB2, HO2, ⟨.inr (.inr ⟨rfl, rfl⟩)⟩⟩
        · go_wp2
          go_ret
          exact ⟨_, rfl, HO.out, HB.out⟩
/-! ### impl_Entry_35: function 35 -/
def impl_Entry_35.f : List (List S49) → Option (List S49)
  | [a, b] => if a.length + b.length < 4398046511104 then some (a ++ b) else none
  | _ => none
theorem impl_Entry_35.calls (A0 : Option Addr) (c0 : Nat) (l0 : List (List S49)) (r : List S49) (w : World) (hr0 : Kd.C (Kd.slice 49 k49) w A0 l0.length l0) (hc0 : l0.length ≤ c0) (h : impl_Entry_35.f l0 = some r) :
    Calls Try.prog 35 #[.slice A0 l0.length c0] w fun e w' => ∃ v0_ : Value, e = .returned (v0_) ∧ Kd.R k49 49 w' w.heap.size (fun _ => True) v0_ r ∧ Below w.heap.size w w' := by
  unfold impl_Entry_35.f at h
  split at h
  · rename_i a b
    by_cases c : a.length + b.length < 4398046511104
    · rw [if_pos c] at h
      obtain rfl := Option.some.inj h
      obtain ⟨ad, cs, e, _, hK, hcs⟩ := Kd.C_get hr0 ([] : List S49) (0 : Int) (by omega) (by simp)
      obtain ⟨ad2, cs2, e2, _, hK2, hcs2⟩ := Kd.C_get hr0 ([] : List S49) (1 : Int) (by omega) (by simp)
      subst e
      obtain rfl := Option.some.inj e2
      obtain ⟨Aa, ca, rfl, la, ga⟩ := hK
      obtain ⟨Ab, cb, rfl, lb, gb⟩ := hK2
      have h0 : w.cell? (ad.add 0) = some (.slice Aa a.length ca) := hcs 0 _ rfl
      have h1 : w.cell? (ad.add 1) = some (.slice Ab b.length cb) := hcs2 0 _ rfl
      exact xConcat2_T49 w ad c0 Aa Ab ca cb a b (World.block_lt_of_cell? w _ h0) h0 h1 ga gb c
    · rw [if_neg c] at h; cases h
  · cases h

/-- the first place, counted from n, at which p holds; -1 if there is none -/
def idxO {α : Type} (p : α → Option Bool) : List α → Int → Option Int
  | [], _ => some (-1)
  | x :: xs, n => (p x).bind fun b => if b = true then some n else idxO p xs (n + 1)
theorem idxO_at {α : Type} (p : α → Option Bool) (l : List α) (n : Nat) (h : n < l.length) : idxO p (l.drop n) (n : Int) = (p l[n]).bind fun b => if b = true then some (n : Int) else idxO p (l.drop (n + 1)) ((n + 1 : Nat) : Int) := by
  rw [List.drop_eq_getElem_cons h]; rfl
theorem idxO_mono {α : Type} (p q : α → Option Bool) (h : ∀ x, LeO (p x) (q x)) (l : List α) : ∀ n, LeO (idxO p l n) (idxO q l n) := by
  induction l with
  | nil => intro n; exact LeO.refl _
  | cons x xs ih => intro n; unfold idxO; exact LeO.bind (h x) (fun b => LeO.ite (LeO.refl _) (ih _))
set_option maxHeartbeats 4000000 in
/-- slices.IndexFunc: the first place at which the predicate holds -/
theorem xIndexFunc_T49 (p : S49 → Option Bool) (g : Nat) (lb : Array Value) (eg : ∀ args w, (callFunc g args).run Try.prog w = .ok (.enter g args) w) (A0 : Option Addr) (c0 : Nat) (l0 : List S49) (i : Int) (w : World)
    (hr0 : Kd.C k49 w A0 l0.length l0) (hc0 : l0.length ≤ c0) (hbig : l0.length < 9223372036854775807)
    (hp : ∀ (W : World) (x : S49) (b : Bool), Below w.heap.size w W → p x = some b → Calls Try.prog g (#[.agg #[.string x.f0, .string x.f1]] ++ lb) W fun e w' => e = .returned (.bool b) ∧ Below w.heap.size w w')
    (h : idxO p l0 0 = some i) :
    Calls Try.prog 49 #[.slice A0 l0.length c0, .func (.func g) #[] lb] w fun e w' => e = .returned (.int .i64 i) ∧ Below w.heap.size w w' := by
  have HR0 := Aside0.mk hr0
  have HC0 := Aside0.mk hc0
  have HP := Aside0.mk hp
  have HI := Aside0.mk h
  clear hr0 hc0 hp h
  go_enter Try.func49, Try.ntmps49
  go_wp2
  go_loopg [5, 8] l0.length (fun gg _ s8 wr => ∃ kk : Nat, kk ≤ l0.length ∧ l0.length - kk ≤ gg ∧ s8 = .int .i64 kk ∧ Aside0 (Below w.heap.size w wr) ∧ Aside0 (idxO p (l0.drop kk) (kk : Int) = some i))
  case atStart => exact ⟨0, Nat.zero_le _, by omega, rfl, ⟨Below.refl _ w⟩, HI⟩
  case round =>
    obtain ⟨kk, hkk, hg, rfl, BW, A⟩ := hrel
    clear HI
    by_cases hlt : kk < l0.length
    · have hltz : (kk : Int) < (l0.length : Int) := by omega
      have H := A.out
      clear A
      rw [idxO_at p l0 kk hlt] at H
      obtain ⟨b, hb, H⟩ := Option.bind_eq_some_iff.mp H
      have hcall := HP.out wr l0[kk] b BW.out hb
      have hrd : rd_T49 l0 (kk : Int) = l0[kk] := by unfold rd_T49; simp [List.getD_eq_getElem?_getD, hlt]
      obtain ⟨ad, he, hy0, hy1⟩ := at_T49 (Kd.C_below HR0.out BW.out) (kk : Int) (by omega) hltz
      cases he
      have hx0 : wr.cell? (ad.add (kk * 2)) = some (.string (l0[kk].f0)) := by rw [← hrd]; exact hy0
      have hx1 : wr.cell? ⟨(ad.add (kk * 2)).block, (ad.add (kk * 2)).off + 1, none⟩ = some (.string (l0[kk].f1)) := by rw [← hrd]; exact hy1
      clear hy0 hy1
      generalize l0[kk] = x at *
      cases b with
      | true =>
        obtain rfl : (kk : Int) = i := Option.some.inj H
        clear H hb
        go_wp2_with (go_at_fn g; refine hcall.mono ?_; rintro e w' ⟨rfl, hb'⟩)
        go_ret
        exact ⟨rfl, hb'⟩
      | false =>
        have H' := Aside0.mk H
        clear H hb
        go_wp2_with (go_at_fn g; refine hcall.mono ?_; rintro e w' ⟨rfl, hb'⟩)
        go_roundg (l0.length - (kk + 1))
        case measure => omega
        case rel => exact ⟨kk + 1, by omega, by omega, by go_num, ⟨hb'⟩, ⟨by have z := H'.out; rw [if_neg (by decide)] at z; exact z⟩⟩
    · have hltz : ¬ (kk : Int) < (l0.length : Int) := by omega
      have H := A.out
      rw [List.drop_of_length_le (by omega)] at H
      obtain rfl : (-1 : Int) = i := Option.some.inj H
      clear H A
      go_wp2
      go_ret
      exact ⟨rfl, BW.out⟩
set_option maxHeartbeats 4000000 in
theorem xContainsFunc_T49 (p : S49 → Option Bool) (g : Nat) (lb : Array Value) (eg : ∀ args w, (callFunc g args).run Try.prog w = .ok (.enter g args) w) (A0 : Option Addr) (c0 : Nat) (l0 : List S49) (i : Int) (w : World)
    (hr0 : Kd.C k49 w A0 l0.length l0) (hc0 : l0.length ≤ c0) (hbig : l0.length < 9223372036854775807)
    (hp : ∀ (W : World) (x : S49) (b : Bool), Below w.heap.size w W → p x = some b → Calls Try.prog g (#[.agg #[.string x.f0, .string x.f1]] ++ lb) W fun e w' => e = .returned (.bool b) ∧ Below w.heap.size w w')
    (h : idxO p l0 0 = some i) :
    Calls Try.prog 45 #[.slice A0 l0.length c0, .func (.func g) #[] lb] w fun e w' => e = .returned (.bool (decide (i ≥ 0))) ∧ Below w.heap.size w w' := by
  have hcall := xIndexFunc_T49 p g lb eg A0 c0 l0 i w hr0 hc0 hbig hp h
  clear hr0 hc0 hbig hp h
  go_enter Try.func45, Try.ntmps45
  go_wp2_with (go_at_call 49; refine hcall.mono ?_; rintro e w' ⟨rfl, hb'⟩)
  go_ret
  exact ⟨rfl, hb'⟩
/-! ### xAll_T49_impl_isEntry: function 33, with function 34 -/
def xAll_T49_impl_isEntry.z (x : S49) : Option Bool := (impl_isEntry.f x.f0 x.f1).bind fun b => some (!b)
def xAll_T49_impl_isEntry.f (l0 : List S49) : Option (Bool) := if l0.length < 9223372036854775807 then ((idxO (xAll_T49_impl_isEntry.z) l0 0).bind fun i => some (!decide (i ≥ 0))) else none
set_option maxHeartbeats 8000000 in
set_option maxRecDepth 100000 in
theorem xAll_T49_impl_isEntry.calls (A0 : Option Addr) (c0 : Nat) (l0 : List S49) (r : Bool) (w : World) (hr0 : Kd.C k49 w A0 l0.length l0) (hc0 : l0.length ≤ c0) (h : xAll_T49_impl_isEntry.f l0 = some r) :
    Calls Try.prog 33 #[.slice A0 l0.length c0, .func (.func 34) #[] #[]] w fun e w' => e = .returned (.bool r) ∧ Below w.heap.size w w' := by
  have hbig : l0.length < 9223372036854775807 := by
    by_cases c : l0.length < 9223372036854775807
    · exact c
    · unfold xAll_T49_impl_isEntry.f at h; rw [if_neg c] at h; cases h
  have h1 : ((idxO (xAll_T49_impl_isEntry.z) l0 0).bind fun i => some (!decide (i ≥ 0))) = some r := by unfold xAll_T49_impl_isEntry.f at h; rw [if_pos hbig] at h; exact h
  clear h
  obtain ⟨i, hi1, hi2⟩ := Option.bind_eq_some_iff.mp h1
  clear h1
  obtain rfl := Option.some.inj hi2
  clear hi2
  have eg : ∀ args w, (callFunc 46 args).run Try.prog w = .ok (.enter 46 args) w := enters_of Try.func46 (by kernel_rfl) rfl
  have hb1 : Below w.heap.size w (w.alloc (.cells #[.func (.func 34) #[] #[]] 54)) := (Below.refl _ w).alloc (Nat.le_refl _) _
  have hcall := xContainsFunc_T49 (xAll_T49_impl_isEntry.z) 46 #[.pointer (some ⟨w.heap.size, 0, none⟩)] eg A0 c0 l0 i (w.alloc (.cells #[.func (.func 34) #[] #[]] 54)) (Kd.C_below hr0 hb1) hc0 hbig
    (by
      intro W x b hb hz
      have hcell : W.cell? ⟨w.heap.size, 0, none⟩ = some (.func (.func 34) #[] #[]) := (hb.cell (p := ⟨w.heap.size, 0, none⟩) (by simp)).trans (by simp)
      obtain ⟨b2, hq, hb2⟩ := Option.bind_eq_some_iff.mp hz
      obtain rfl : (!b2) = b := Option.some.inj hb2
      have hq' := Aside0.mk hq
      have hb' := Aside0.mk hb
      clear hb hz hb2 hq
      show Calls Try.prog 46 #[.agg #[.string x.f0, .string x.f1], .pointer (some ⟨w.heap.size, 0, none⟩)] W _
      have hsz : w.heap.size < W.heap.size := by have z := hb'.out.size; simp at z; omega
      go_enter Try.func46, Try.ntmps46
      go_wp2_with (go_at_call 34; refine (impl_isEntry.calls x.f0 x.f1 b2 _ hq'.out).mono ?_; rintro e w' ⟨rfl, hb2⟩)
      go_ret
      exact ⟨rfl, below_step (by repeat (first | (with_reducible first | exact hb'.out | apply below_alloc | apply pw_below_drewN | apply below_drew1) | exact hb'.out)) hb2⟩)
    hi1
  have hb1' := Aside0.mk hb1
  clear hr0 hc0 hbig hi1 hb1 eg
  go_enter Try.func33, Try.ntmps33
  go_wp2_with (go_at_call 45; refine hcall.mono ?_; rintro e w' ⟨rfl, hb'⟩)
  go_ret
  exact ⟨rfl, below_then hb1'.out (by simp) hb'⟩
/-! ### impl_GoodSegmented: function 15 -/
def xin (s : ByteArray) (acc : List ByteArray) : Bool := acc.any fun t => decide (t.data.toList = s.data.toList)
/-- the names of a list's entries, one after the other, are all unlike, and unlike those of acc -/
def xapart : List ByteArray → List S49 → Bool
  | _, [] => true
  | acc, x :: xs => if xin x.f0 acc = true then false else xapart (acc ++ [x.f0]) xs
def impl_GoodSegmented.f (k : Nat) (a0 a1 : Int) (l0 l1 : List S49) : Option Bool :=
  (impl_isRoom.f a0).bind fun b1 => if b1 = true then ((impl_isRoom.f a1).bind fun b2 => if b2 = true then ((impl_fits.f k l0 a0).bind fun b3 => if b3 = true then ((impl_fits.f k l1 a1).bind fun b4 => if b4 = true then
    ((xAll_T49_impl_isEntry.f l0).bind fun b5 => if b5 = true then ((xAll_T49_impl_isEntry.f l1).bind fun b6 => if b6 = true then
      (if l0.length + l1.length < 1000 then (if ∀ x ∈ l0 ++ l1, x.f0.size ≤ 1000 then some (xapart [] (l0 ++ l1)) else none) else none)
    else some false) else some false) else some false) else some false) else some false) else some false
theorem impl_GoodSegmented.mono : ∀ a0 a1 l0 l1 k, LeO (impl_GoodSegmented.f k a0 a1 l0 l1) (impl_GoodSegmented.f (k + 1) a0 a1 l0 l1) := by
  intro a0 a1 l0 l1 k
  unfold impl_GoodSegmented.f
  refine LeO.bind (LeO.refl _) (fun _ => LeO.ite (LeO.bind (LeO.refl _) (fun _ => LeO.ite (LeO.bind (impl_fits.mono _ _ _) (fun _ => LeO.ite (LeO.bind (impl_fits.mono _ _ _) (fun _ => LeO.ite (LeO.refl _) (LeO.refl _))) (LeO.refl _))) (LeO.refl _))) (LeO.refl _))
/-! a set of texts, as the map of the call's own -/
def xset (acc : List ByteArray) : DataW Unit := Go.Maps.setOf (.lit (.bool true)) (acc.map fun s => Lit.string s.data.toList)
theorem xset_snoc (acc : List ByteArray) (s : ByteArray) : xset (acc ++ [s]) = (xset acc).put (.string s.data.toList) (.lit (.bool true)) := by
  unfold xset; rw [List.map_append, List.map_cons, List.map_nil, Go.Maps.setOf_snoc]
theorem xset_at (k : Lit) (z : DataW Unit) (acc : List Lit) : ∀ m : DataW Unit, Go.Maps.IsMap m → (∀ x ∈ acc, WideAt.IsKeyLit x) →
    (k ∈ acc → (acc.foldl (fun m x => m.put x (.lit (.bool true))) m).atKey k z = .lit (.bool true)) ∧ (¬ k ∈ acc → (acc.foldl (fun m x => m.put x (.lit (.bool true))) m).atKey k z = m.atKey k z) := by
  induction acc with
  | nil => intro m _ _; exact ⟨fun h => by simp at h, fun _ => rfl⟩
  | cons x xs ih =>
    intro m hm hk
    obtain ⟨i1, i2⟩ := ih (m.put x (.lit (.bool true))) (hm.put _ _) (fun y hy => hk y (List.mem_cons_of_mem _ hy))
    refine ⟨fun h => ?_, fun h => ?_⟩
    · rw [List.foldl_cons]
      refine Classical.byCases i1 fun h1 => ?_
      rw [i2 h1]
      rcases List.mem_cons.mp h with h2 | h2
      · subst h2; exact Go.Maps.atKey_put_same hm (hk k List.mem_cons_self) _ _
      · exact absurd h2 h1
    · rw [List.foldl_cons, i2 (fun h1 => h (List.mem_cons_of_mem _ h1))]
      exact Go.Maps.atKey_put_other (fun h1 => h (by rw [h1]; exact List.mem_cons_self)) _ _
theorem xset_get (acc : List ByteArray) (s : ByteArray) : (xset acc).atKey (.string s.data.toList) (.lit (.bool false)) = .lit (.bool (xin s acc)) := by
  unfold xset Go.Maps.setOf
  obtain ⟨i1, i2⟩ := xset_at (.string s.data.toList) (.lit (.bool false)) (acc.map fun s => Lit.string s.data.toList) (.map []) Go.Maps.isMap_empty (fun x hx => by obtain ⟨y, _, rfl⟩ := List.mem_map.mp hx; trivial)
  cases h : xin s acc with
  | true =>
    obtain ⟨t, ht, e⟩ := List.any_eq_true.mp h
    exact i1 (List.mem_map.mpr ⟨t, ht, by rw [of_decide_eq_true e]⟩)
  | false =>
    rw [i2 (fun hm => by
      obtain ⟨t, ht, e⟩ := List.mem_map.mp hm
      have e2 : t.data.toList = s.data.toList := by injection e
      have z : xin s acc = true := List.any_eq_true.mpr ⟨t, ht, decide_eq_true e2⟩
      rw [h] at z; cases z)]
    rfl
theorem xlookup_set {P : Program} (w : World) {ops : Array Oper} {rest : List Oper} {o : Oper} {a : Act} {Q : Exit → Act → World → Prop}
    (hg : o.guard = none) (m x : Operand) (t : TypeId) (hop : o.op = Op.lookup t m x false)
    (k e : TypeId) (K : Go.Maps.Keyed P k) (hk : P.underlying k = some .string) (ht : P.underlying t = some (.map k e)) (he : P.underlying e = some .bool) (hz : (zeroValue e).run P w = .ok (.bool false) w) (b n : Nat) (acc : List ByteArray)
    (hm : a.eval m = .map (some b)) (hown : w.ownsMap P k (plainElem P e) b n (xset acc)) (s : ByteArray) (hx : a.eval x = .string s) (hs : s.size ≤ maxLen)
    (hK : wpList P ops Q rest (a.put o.dst (.bool (xin s acc))) w) :
    wpList P ops Q (o :: rest) a w := by
  refine wpList_plain hg fun K' hK' => ?_
  obtain ⟨v, ps, hrun, hv⟩ := hown.lookup K ht hz (plainElem_bool he false) (WideMaps.keyOf_string_mk hk hs)
  rw [xset_get] at hv
  have hvb : v = .bool (xin s acc) := by
    unfold plainElem at hv
    rw [he] at hv
    cases v <;> simp at hv
    rw [hv.1]
  subst hvb
  unfold Oper.wp
  simp [execOp, hop, hm, hx, hrun, Result.andThen]
  exact hK' _ _ hK
theorem xzeroB (w : World) : (zeroValue 4).run Try.prog w = .ok (.bool false) w := by kernel_rfl
theorem xseg_cells {w w' : World} {a b c d : Value} {T : Nat} (h : Below (w.heap.size + 1) (w.alloc (.cells #[a, b, c, d] T)) w') :
    w'.cell? ⟨w.heap.size, 0, none⟩ = some a ∧ w'.cell? ⟨w.heap.size, 1, none⟩ = some b ∧ w'.cell? ⟨w.heap.size, 2, none⟩ = some c ∧ w'.cell? ⟨w.heap.size, 3, none⟩ = some d :=
  ⟨(h.cell (p := ⟨w.heap.size, 0, none⟩) (Nat.lt_succ_self _)).trans (by simp), (h.cell (p := ⟨w.heap.size, 1, none⟩) (Nat.lt_succ_self _)).trans (by simp), (h.cell (p := ⟨w.heap.size, 2, none⟩) (Nat.lt_succ_self _)).trans (by simp), (h.cell (p := ⟨w.heap.size, 3, none⟩) (Nat.lt_succ_self _)).trans (by simp)⟩
theorem xseg_below {w w' : World} {o : Obj} (h : Below (w.heap.size + 1) (w.alloc o) w') : Below w.heap.size w w' := (below_alloc (Below.refl _ w) o).trans (h.mono (Nat.le_succ _))
set_option maxHeartbeats 16000000 in
set_option maxRecDepth 100000 in
theorem impl_GoodSegmented.calls (k : Nat) (a0 a1 : Int) (A0 : Option Addr) (c0 : Nat) (l0 : List S49) (A1 : Option Addr) (c1 : Nat) (l1 : List S49) (r : Bool) (w : World) (hr0 : Kd.C k49 w A0 l0.length l0) (hc0 : l0.length ≤ c0) (hr1 : Kd.C k49 w A1 l1.length l1) (hc1 : l1.length ≤ c1) (h : impl_GoodSegmented.f k a0 a1 l0 l1 = some r) :
    Calls Try.prog 15 #[.agg #[.int .i64 a0, .int .i64 a1, .slice A0 l0.length c0, .slice A1 l1.length c1]] w fun e w' => e = .returned (.bool r) ∧ Below w.heap.size w w' := by
  have hu24 := Try.underlying24
  have hu49 := Try.underlying49
  have HR0 := Aside0.mk hr0
  have HC0 := Aside0.mk hc0
  have HR1 := Aside0.mk hr1
  have HC1 := Aside0.mk hc1
  clear hr0 hc0 hr1 hc1
  unfold impl_GoodSegmented.f at h
  obtain ⟨b1, hb, h⟩ := Option.bind_eq_some_iff.mp h
  have H1 := Aside0.mk hb
  clear hb
  cases b1 with
  | false =>
    rw [if_neg (by decide)] at h
    obtain rfl := Option.some.inj h
    clear h
    go_enter Try.func15, Try.ntmps15
    go_wp2_with (first
      | (go_at_call 24; with_reducible refine (impl_isRoom.calls a0 _ _ H1.out).mono ?_; rintro e w' ⟨rfl, ⟨nd1, rfl⟩⟩))
    go_ret
    exact ⟨rfl, (by repeat (first | exact Below.refl _ _ | exact HB4.out | exact HB3.out | exact HB2.out | exact HB1.out | apply below_drew1 | apply pw_below_drewN | apply below_alloc))⟩
  | true =>
    rw [if_pos rfl] at h
    obtain ⟨b2, hb, h⟩ := Option.bind_eq_some_iff.mp h
    have H2 := Aside0.mk hb
    clear hb
    cases b2 with
    | false =>
      rw [if_neg (by decide)] at h
      obtain rfl := Option.some.inj h
      clear h
      go_enter Try.func15, Try.ntmps15
      go_wp2_with (first
        | (go_at_call 24; with_reducible refine (impl_isRoom.calls a0 _ _ H1.out).mono ?_; rintro e w' ⟨rfl, ⟨nd1, rfl⟩⟩)
        | (go_at_call 24; with_reducible refine (impl_isRoom.calls a1 _ _ H2.out).mono ?_; rintro e w' ⟨rfl, ⟨nd2, rfl⟩⟩))
      go_ret
      exact ⟨rfl, (by repeat (first | exact Below.refl _ _ | exact HB4.out | exact HB3.out | exact HB2.out | exact HB1.out | apply below_drew1 | apply pw_below_drewN | apply below_alloc))⟩
    | true =>
      rw [if_pos rfl] at h
      obtain ⟨b3, hb, h⟩ := Option.bind_eq_some_iff.mp h
      have H3 := Aside0.mk hb
      clear hb
      cases b3 with
      | false =>
        rw [if_neg (by decide)] at h
        obtain rfl := Option.some.inj h
        clear h
        go_enter Try.func15, Try.ntmps15
        go_wp2_with (first
          | (go_at_call 24; with_reducible refine (impl_isRoom.calls a0 _ _ H1.out).mono ?_; rintro e w' ⟨rfl, ⟨nd1, rfl⟩⟩)
          | (go_at_call 24; with_reducible refine (impl_isRoom.calls a1 _ _ H2.out).mono ?_; rintro e w' ⟨rfl, ⟨nd2, rfl⟩⟩)
          | (go_at_call 32; with_reducible refine (impl_fits.calls k A0 c0 l0 a0 _ _ ?s1 ?s2 H3.out).mono ?_; (case s1 => exact Kd.C_below HR0.out (by repeat (first | exact Below.refl _ _ | apply below_drew1 | apply pw_below_drewN | apply below_alloc))); (case s2 => exact HC0.out); rintro e w1 ⟨rfl, hb1⟩; have HX1 : Aside0 (Below (w.heap.size + 1) (w.alloc (.cells #[.int .i64 a0, .int .i64 a1, .slice A0 l0.length c0, .slice A1 l1.length c1] 24)) w1) := ⟨below_then (by repeat (first | exact Below.refl _ _ | apply below_drew1 | apply pw_below_drewN)) (by simp) hb1⟩; obtain ⟨hq10, hq11, hq12, hq13⟩ := xseg_cells HX1.out; have HB1 := Aside0.mk (xseg_below HX1.out); clear hb1))
        go_ret
        exact ⟨rfl, (by repeat (first | exact Below.refl _ _ | exact HB4.out | exact HB3.out | exact HB2.out | exact HB1.out | apply below_drew1 | apply pw_below_drewN | apply below_alloc))⟩
      | true =>
        rw [if_pos rfl] at h
        obtain ⟨b4, hb, h⟩ := Option.bind_eq_some_iff.mp h
        have H4 := Aside0.mk hb
        clear hb
        cases b4 with
        | false =>
          rw [if_neg (by decide)] at h
          obtain rfl := Option.some.inj h
          clear h
          go_enter Try.func15, Try.ntmps15
          go_wp2_with (first
            | (go_at_call 24; with_reducible refine (impl_isRoom.calls a0 _ _ H1.out).mono ?_; rintro e w' ⟨rfl, ⟨nd1, rfl⟩⟩)
            | (go_at_call 24; with_reducible refine (impl_isRoom.calls a1 _ _ H2.out).mono ?_; rintro e w' ⟨rfl, ⟨nd2, rfl⟩⟩)
            | (go_at_call 32; with_reducible refine (impl_fits.calls k A0 c0 l0 a0 _ _ ?s1 ?s2 H3.out).mono ?_; (case s1 => exact Kd.C_below HR0.out (by repeat (first | exact Below.refl _ _ | apply below_drew1 | apply pw_below_drewN | apply below_alloc))); (case s2 => exact HC0.out); rintro e w1 ⟨rfl, hb1⟩; have HX1 : Aside0 (Below (w.heap.size + 1) (w.alloc (.cells #[.int .i64 a0, .int .i64 a1, .slice A0 l0.length c0, .slice A1 l1.length c1] 24)) w1) := ⟨below_then (by repeat (first | exact Below.refl _ _ | apply below_drew1 | apply pw_below_drewN)) (by simp) hb1⟩; obtain ⟨hq10, hq11, hq12, hq13⟩ := xseg_cells HX1.out; have HB1 := Aside0.mk (xseg_below HX1.out); clear hb1)
            | (go_at_call 32; with_reducible refine (impl_fits.calls k A1 c1 l1 a1 _ _ ?s1 ?s2 H4.out).mono ?_; (case s1 => exact Kd.C_below HR1.out (by repeat (first | exact Below.refl _ _ | apply below_drew1 | apply pw_below_drewN | apply below_alloc | exact HB1.out))); (case s2 => exact HC1.out); rintro e w2 ⟨rfl, hb2⟩; have HX2 : Aside0 (Below (w.heap.size + 1) (w.alloc (.cells #[.int .i64 a0, .int .i64 a1, .slice A0 l0.length c0, .slice A1 l1.length c1] 24)) w2) := ⟨below_then (by repeat (first | exact Below.refl _ _ | apply below_drew1 | apply pw_below_drewN | exact HX1.out)) (by have z := HX1.out.size; simp at z ⊢; omega) hb2⟩; obtain ⟨hq20, hq21, hq22, hq23⟩ := xseg_cells HX2.out; have HB2 := Aside0.mk (xseg_below HX2.out); clear hb2))
          go_ret
          exact ⟨rfl, (by repeat (first | exact Below.refl _ _ | exact HB4.out | exact HB3.out | exact HB2.out | exact HB1.out | apply below_drew1 | apply pw_below_drewN | apply below_alloc))⟩
        | true =>
          rw [if_pos rfl] at h
          obtain ⟨b5, hb, h⟩ := Option.bind_eq_some_iff.mp h
          have H5 := Aside0.mk hb
          clear hb
          cases b5 with
          | false =>
            rw [if_neg (by decide)] at h
            obtain rfl := Option.some.inj h
            clear h
            go_enter Try.func15, Try.ntmps15
            go_wp2_with (first
              | (go_at_call 24; with_reducible refine (impl_isRoom.calls a0 _ _ H1.out).mono ?_; rintro e w' ⟨rfl, ⟨nd1, rfl⟩⟩)
              | (go_at_call 24; with_reducible refine (impl_isRoom.calls a1 _ _ H2.out).mono ?_; rintro e w' ⟨rfl, ⟨nd2, rfl⟩⟩)
              | (go_at_call 32; with_reducible refine (impl_fits.calls k A0 c0 l0 a0 _ _ ?s1 ?s2 H3.out).mono ?_; (case s1 => exact Kd.C_below HR0.out (by repeat (first | exact Below.refl _ _ | apply below_drew1 | apply pw_below_drewN | apply below_alloc))); (case s2 => exact HC0.out); rintro e w1 ⟨rfl, hb1⟩; have HX1 : Aside0 (Below (w.heap.size + 1) (w.alloc (.cells #[.int .i64 a0, .int .i64 a1, .slice A0 l0.length c0, .slice A1 l1.length c1] 24)) w1) := ⟨below_then (by repeat (first | exact Below.refl _ _ | apply below_drew1 | apply pw_below_drewN)) (by simp) hb1⟩; obtain ⟨hq10, hq11, hq12, hq13⟩ := xseg_cells HX1.out; have HB1 := Aside0.mk (xseg_below HX1.out); clear hb1)
              | (go_at_call 32; with_reducible refine (impl_fits.calls k A1 c1 l1 a1 _ _ ?s1 ?s2 H4.out).mono ?_; (case s1 => exact Kd.C_below HR1.out (by repeat (first | exact Below.refl _ _ | apply below_drew1 | apply pw_below_drewN | apply below_alloc | exact HB1.out))); (case s2 => exact HC1.out); rintro e w2 ⟨rfl, hb2⟩; have HX2 : Aside0 (Below (w.heap.size + 1) (w.alloc (.cells #[.int .i64 a0, .int .i64 a1, .slice A0 l0.length c0, .slice A1 l1.length c1] 24)) w2) := ⟨below_then (by repeat (first | exact Below.refl _ _ | apply below_drew1 | apply pw_below_drewN | exact HX1.out)) (by have z := HX1.out.size; simp at z ⊢; omega) hb2⟩; obtain ⟨hq20, hq21, hq22, hq23⟩ := xseg_cells HX2.out; have HB2 := Aside0.mk (xseg_below HX2.out); clear hb2)
              | (go_at_call 33; with_reducible refine (xAll_T49_impl_isEntry.calls A0 c0 l0 _ _ ?s1 ?s2 H5.out).mono ?_; (case s1 => exact Kd.C_below HR0.out (by repeat (first | exact Below.refl _ _ | apply below_drew1 | apply pw_below_drewN | apply below_alloc | exact HB2.out))); (case s2 => exact HC0.out); rintro e w3 ⟨rfl, hb3⟩; have HX3 : Aside0 (Below (w.heap.size + 1) (w.alloc (.cells #[.int .i64 a0, .int .i64 a1, .slice A0 l0.length c0, .slice A1 l1.length c1] 24)) w3) := ⟨below_then (by repeat (first | exact Below.refl _ _ | apply below_drew1 | apply pw_below_drewN | exact HX2.out)) (by have z := HX2.out.size; simp at z ⊢; omega) hb3⟩; obtain ⟨hq30, hq31, hq32, hq33⟩ := xseg_cells HX3.out; have HB3 := Aside0.mk (xseg_below HX3.out); clear hb3))
            go_ret
            exact ⟨rfl, (by repeat (first | exact Below.refl _ _ | exact HB4.out | exact HB3.out | exact HB2.out | exact HB1.out | apply below_drew1 | apply pw_below_drewN | apply below_alloc))⟩
          | true =>
            rw [if_pos rfl] at h
            obtain ⟨b6, hb, h⟩ := Option.bind_eq_some_iff.mp h
            have H6 := Aside0.mk hb
            clear hb
            cases b6 with
            | false =>
              rw [if_neg (by decide)] at h
              obtain rfl := Option.some.inj h
              clear h
              go_enter Try.func15, Try.ntmps15
              go_wp2_with (first
                | (go_at_call 24; with_reducible refine (impl_isRoom.calls a0 _ _ H1.out).mono ?_; rintro e w' ⟨rfl, ⟨nd1, rfl⟩⟩)
                | (go_at_call 24; with_reducible refine (impl_isRoom.calls a1 _ _ H2.out).mono ?_; rintro e w' ⟨rfl, ⟨nd2, rfl⟩⟩)
                | (go_at_call 32; with_reducible refine (impl_fits.calls k A0 c0 l0 a0 _ _ ?s1 ?s2 H3.out).mono ?_; (case s1 => exact Kd.C_below HR0.out (by repeat (first | exact Below.refl _ _ | apply below_drew1 | apply pw_below_drewN | apply below_alloc))); (case s2 => exact HC0.out); rintro e w1 ⟨rfl, hb1⟩; have HX1 : Aside0 (Below (w.heap.size + 1) (w.alloc (.cells #[.int .i64 a0, .int .i64 a1, .slice A0 l0.length c0, .slice A1 l1.length c1] 24)) w1) := ⟨below_then (by repeat (first | exact Below.refl _ _ | apply below_drew1 | apply pw_below_drewN)) (by simp) hb1⟩; obtain ⟨hq10, hq11, hq12, hq13⟩ := xseg_cells HX1.out; have HB1 := Aside0.mk (xseg_below HX1.out); clear hb1)
                | (go_at_call 32; with_reducible refine (impl_fits.calls k A1 c1 l1 a1 _ _ ?s1 ?s2 H4.out).mono ?_; (case s1 => exact Kd.C_below HR1.out (by repeat (first | exact Below.refl _ _ | apply below_drew1 | apply pw_below_drewN | apply below_alloc | exact HB1.out))); (case s2 => exact HC1.out); rintro e w2 ⟨rfl, hb2⟩; have HX2 : Aside0 (Below (w.heap.size + 1) (w.alloc (.cells #[.int .i64 a0, .int .i64 a1, .slice A0 l0.length c0, .slice A1 l1.length c1] 24)) w2) := ⟨below_then (by repeat (first | exact Below.refl _ _ | apply below_drew1 | apply pw_below_drewN | exact HX1.out)) (by have z := HX1.out.size; simp at z ⊢; omega) hb2⟩; obtain ⟨hq20, hq21, hq22, hq23⟩ := xseg_cells HX2.out; have HB2 := Aside0.mk (xseg_below HX2.out); clear hb2)
                | (go_at_call 33; with_reducible refine (xAll_T49_impl_isEntry.calls A0 c0 l0 _ _ ?s1 ?s2 H5.out).mono ?_; (case s1 => exact Kd.C_below HR0.out (by repeat (first | exact Below.refl _ _ | apply below_drew1 | apply pw_below_drewN | apply below_alloc | exact HB2.out))); (case s2 => exact HC0.out); rintro e w3 ⟨rfl, hb3⟩; have HX3 : Aside0 (Below (w.heap.size + 1) (w.alloc (.cells #[.int .i64 a0, .int .i64 a1, .slice A0 l0.length c0, .slice A1 l1.length c1] 24)) w3) := ⟨below_then (by repeat (first | exact Below.refl _ _ | apply below_drew1 | apply pw_below_drewN | exact HX2.out)) (by have z := HX2.out.size; simp at z ⊢; omega) hb3⟩; obtain ⟨hq30, hq31, hq32, hq33⟩ := xseg_cells HX3.out; have HB3 := Aside0.mk (xseg_below HX3.out); clear hb3)
                | (go_at_call 33; with_reducible refine (xAll_T49_impl_isEntry.calls A1 c1 l1 _ _ ?s1 ?s2 H6.out).mono ?_; (case s1 => exact Kd.C_below HR1.out (by repeat (first | exact Below.refl _ _ | apply below_drew1 | apply pw_below_drewN | apply below_alloc | exact HB3.out))); (case s2 => exact HC1.out); rintro e w4 ⟨rfl, hb4⟩; have HX4 : Aside0 (Below (w.heap.size + 1) (w.alloc (.cells #[.int .i64 a0, .int .i64 a1, .slice A0 l0.length c0, .slice A1 l1.length c1] 24)) w4) := ⟨below_then (by repeat (first | exact Below.refl _ _ | apply below_drew1 | apply pw_below_drewN | exact HX3.out)) (by have z := HX3.out.size; simp at z ⊢; omega) hb4⟩; obtain ⟨hq40, hq41, hq42, hq43⟩ := xseg_cells HX4.out; have HB4 := Aside0.mk (xseg_below HX4.out); have hlt4 : w.heap.size < w4.heap.size := (by have z := HX4.out.size; simp at z; omega); have hne4 : w.heap.size ≠ w4.heap.size := Nat.ne_of_lt hlt4; clear hb4))
              go_ret
              exact ⟨rfl, (by repeat (first | exact Below.refl _ _ | exact HB4.out | exact HB3.out | exact HB2.out | exact HB1.out | apply below_drew1 | apply pw_below_drewN | apply below_alloc))⟩
            | true =>
              rw [if_pos rfl] at h
              by_cases hlen : l0.length + l1.length < 1000
              · rw [if_pos hlen] at h
                by_cases hsz : ∀ x ∈ l0 ++ l1, x.f0.size ≤ 1000
                · rw [if_pos hsz] at h
                  obtain ⟨y, hy⟩ : ∃ y, y = l0 ++ l1 := ⟨_, rfl⟩
                  have HY := Aside0.mk hy
                  have HLEN := Aside0.mk hlen
                  rw [← hy] at h hsz
                  have hyl : y.length < 1000 := by rw [hy, List.length_append]; exact hlen
                  have HYL := Aside0.mk hyl
                  have HSZ := Aside0.mk hsz
                  have HH := Aside0.mk h
                  clear hy hlen hsz h hyl
                  have hmm := @run_makeMap Try.prog
                  go_enter Try.func15, Try.ntmps15
                  go_wp2_with (first
                    | (go_at_call 24; with_reducible refine (impl_isRoom.calls a0 _ _ H1.out).mono ?_; rintro e w' ⟨rfl, ⟨nd1, rfl⟩⟩)
                    | (go_at_call 24; with_reducible refine (impl_isRoom.calls a1 _ _ H2.out).mono ?_; rintro e w' ⟨rfl, ⟨nd2, rfl⟩⟩)
                    | (go_at_call 32; with_reducible refine (impl_fits.calls k A0 c0 l0 a0 _ _ ?s1 ?s2 H3.out).mono ?_; (case s1 => exact Kd.C_below HR0.out (by repeat (first | exact Below.refl _ _ | apply below_drew1 | apply pw_below_drewN | apply below_alloc))); (case s2 => exact HC0.out); rintro e w1 ⟨rfl, hb1⟩; have HX1 : Aside0 (Below (w.heap.size + 1) (w.alloc (.cells #[.int .i64 a0, .int .i64 a1, .slice A0 l0.length c0, .slice A1 l1.length c1] 24)) w1) := ⟨below_then (by repeat (first | exact Below.refl _ _ | apply below_drew1 | apply pw_below_drewN)) (by simp) hb1⟩; obtain ⟨hq10, hq11, hq12, hq13⟩ := xseg_cells HX1.out; have HB1 := Aside0.mk (xseg_below HX1.out); clear hb1)
                    | (go_at_call 32; with_reducible refine (impl_fits.calls k A1 c1 l1 a1 _ _ ?s1 ?s2 H4.out).mono ?_; (case s1 => exact Kd.C_below HR1.out (by repeat (first | exact Below.refl _ _ | apply below_drew1 | apply pw_below_drewN | apply below_alloc | exact HB1.out))); (case s2 => exact HC1.out); rintro e w2 ⟨rfl, hb2⟩; have HX2 : Aside0 (Below (w.heap.size + 1) (w.alloc (.cells #[.int .i64 a0, .int .i64 a1, .slice A0 l0.length c0, .slice A1 l1.length c1] 24)) w2) := ⟨below_then (by repeat (first | exact Below.refl _ _ | apply below_drew1 | apply pw_below_drewN | exact HX1.out)) (by have z := HX1.out.size; simp at z ⊢; omega) hb2⟩; obtain ⟨hq20, hq21, hq22, hq23⟩ := xseg_cells HX2.out; have HB2 := Aside0.mk (xseg_below HX2.out); clear hb2)
                    | (go_at_call 33; with_reducible refine (xAll_T49_impl_isEntry.calls A0 c0 l0 _ _ ?s1 ?s2 H5.out).mono ?_; (case s1 => exact Kd.C_below HR0.out (by repeat (first | exact Below.refl _ _ | apply below_drew1 | apply pw_below_drewN | apply below_alloc | exact HB2.out))); (case s2 => exact HC0.out); rintro e w3 ⟨rfl, hb3⟩; have HX3 : Aside0 (Below (w.heap.size + 1) (w.alloc (.cells #[.int .i64 a0, .int .i64 a1, .slice A0 l0.length c0, .slice A1 l1.length c1] 24)) w3) := ⟨below_then (by repeat (first | exact Below.refl _ _ | apply below_drew1 | apply pw_below_drewN | exact HX2.out)) (by have z := HX2.out.size; simp at z ⊢; omega) hb3⟩; obtain ⟨hq30, hq31, hq32, hq33⟩ := xseg_cells HX3.out; have HB3 := Aside0.mk (xseg_below HX3.out); clear hb3)
                    | (go_at_call 33; with_reducible refine (xAll_T49_impl_isEntry.calls A1 c1 l1 _ _ ?s1 ?s2 H6.out).mono ?_; (case s1 => exact Kd.C_below HR1.out (by repeat (first | exact Below.refl _ _ | apply below_drew1 | apply pw_below_drewN | apply below_alloc | exact HB3.out))); (case s2 => exact HC1.out); rintro e w4 ⟨rfl, hb4⟩; have HX4 : Aside0 (Below (w.heap.size + 1) (w.alloc (.cells #[.int .i64 a0, .int .i64 a1, .slice A0 l0.length c0, .slice A1 l1.length c1] 24)) w4) := ⟨below_then (by repeat (first | exact Below.refl _ _ | apply below_drew1 | apply pw_below_drewN | exact HX3.out)) (by have z := HX3.out.size; simp at z ⊢; omega) hb4⟩; obtain ⟨hq40, hq41, hq42, hq43⟩ := xseg_cells HX4.out; have HB4 := Aside0.mk (xseg_below HX4.out); have hlt4 : w.heap.size < w4.heap.size := (by have z := HX4.out.size; simp at z; omega); have hne4 : w.heap.size ≠ w4.heap.size := Nat.ne_of_lt hlt4; clear hb4)
                    | (go_at_call 35; refine (xConcat2_T49 _ ⟨w4.heap.size + 1, 0, none⟩ 2 A0 A1 c0 c1 l0 l1 (by simp) (by simp [Addr.add]) (by simp [Addr.add]) (Kd.C_alloc (Kd.C_alloc (Kd.C_below HR0.out HB4.out) _) _) (Kd.C_alloc (Kd.C_alloc (Kd.C_below HR1.out HB4.out) _) _) (by have := HLEN.out; omega)).mono ?_; rintro e w5 ⟨v5, rfl, ho, hb5⟩; rw [← HY.out] at ho; obtain ⟨A5, c5, e5⟩ := Kd.R_slice ho; subst e5; have HO5 := Aside0.mk ho; have HB5 := Aside0.mk hb5; clear ho hb5))
                  have hwm : w5.ownsMap (H := Unit) Try.prog 9 (plainElem Try.prog 4) w4.heap.size 0 (xset []) := by
                    have z := (World.ownsMap_made (H := Unit) w4 Try.prog 9 (plainElem Try.prog 4)).alloc (.cells #[.slice A0 l0.length c0, .slice A1 l1.length c1] 22)
                    exact z.kept (row := none) (grown_of_below HB5.out none) (by simp)
                  have hb5w : Below w.heap.size w w5 := by
                    have z := HB5.out
                    have z2 := HX4.out.size
                    simp at z z2
                    exact ((below_alloc (below_alloc HB4.out _) _).trans (HB5.out.mono (by simp; omega)))
                  have HO6 : Aside0 (Kd.R k49 49 w5 (w4.heap.size + 2) (fun k => True ∧ k ≠ w4.heap.size) (.slice A5 y.length c5) y) := ⟨by
                    refine Kd.R_lower (Kd.R_mono (Kd.R_bound HO5.out) (fun k hk => ⟨trivial, ?_⟩)) (by simp)
                    have z := hk.2.1
                    simp at z
                    omega⟩
                  have HM := Aside0.mk hwm
                  have HW := Aside0.mk hb5w
                  clear hwm hb5w
                  go_loopg [52] y.length (fun gg s52 wr => ∃ kk : Nat, kk ≤ y.length ∧ y.length - kk ≤ gg ∧ s52 = .int .i64 kk ∧ Aside0 (Below w.heap.size w wr) ∧ Aside0 (w4.heap.size + 2 ≤ wr.heap.size) ∧ Aside0 (Kd.R k49 49 wr (w4.heap.size + 2) (fun k => True ∧ k ≠ w4.heap.size) (.slice A5 y.length c5) y) ∧ Aside0 (wr.ownsMap (H := Unit) Try.prog 9 (plainElem Try.prog 4) w4.heap.size kk (xset ((y.take kk).map S49.f0))) ∧ Aside0 (xapart ((y.take kk).map S49.f0) (y.drop kk) = r))
                  case atStart => exact ⟨0, Nat.zero_le _, by omega, rfl, HW, ⟨by have z := HB5.out.size; simp at z; omega⟩, HO6, HM, ⟨Option.some.inj HH.out⟩⟩
                  case round =>
                    obtain ⟨kk, hkk, hgk, rfl, HBW, HSW, HOW, HMW, HRW⟩ := hrel
                    clear HM HW HO6 HH HB5 HO5
                    by_cases hlt : kk < y.length
                    · have hltz : (kk : Int) < (y.length : Int) := by omega
                      obtain ⟨ad, he, hy0, hy1⟩ := at_T49 (Kd.R_reads' HOW.out).2.2 (kk : Int) (by omega) hltz
                      cases he
                      have hrd : rd_T49 y (kk : Int) = y[kk] := by unfold rd_T49; simp [List.getD_eq_getElem?_getD, hlt]
                      rw [hrd, Int.toNat_natCast] at hy0 hy1
                      have hks := HSZ.out y[kk] (List.getElem_mem hlt)
                      have HKS := Aside0.mk (Nat.le_trans hks (show 1000 ≤ maxLen by decide))
                      have hst : (y.take (kk + 1)).map S49.f0 = (y.take kk).map S49.f0 ++ [y[kk].f0] := by rw [List.take_succ_eq_append_getElem hlt, List.map_append]; rfl
                      have hdr : y.drop kk = y[kk] :: y.drop (kk + 1) := List.drop_eq_getElem_cons hlt
                      have HRX := HRW.out
                      rw [hdr] at HRX
                      unfold xapart at HRX
                      have HRX := Aside0.mk HRX
                      have HST := Aside0.mk hst
                      clear hrd hks hst hdr HRW
                      generalize y[kk] = xx at *
                      have HMA := Aside0.mk (show (wr.alloc (.cells #[.string xx.f0, .string xx.f1] 49)).ownsMap (H := Unit) Try.prog 9 (plainElem Try.prog 4) w4.heap.size kk (xset ((y.take kk).map S49.f0)) from HMW.out.alloc _)
                      have hkm : kk < maxLen := Nat.lt_of_lt_of_le (Nat.lt_trans hlt HYL.out) (by decide)
                      cases hin : xin xx.f0 ((y.take kk).map S49.f0) with
                      | true =>
                        obtain rfl : false = r := by have z := HRX.out; rw [if_pos hin] at z; exact z
                        go_wp2_with (at_lookup; refine xlookup_set _ rfl _ _ 55 rfl 9 4 (Go.Maps.string_keyed Try.underlying9) Try.underlying9 Try.underlying55 Try.underlying4 (xzeroB _) w4.heap.size kk ((y.take kk).map S49.f0) rfl HMA.out xx.f0 rfl HKS.out ?_; rw [hin])
                        refine bodyPost_ret (v := .bool false) (results_tmp (fn := Try.f15) (t := 2) rfl _ _ _) rfl ?_
                        exact ⟨rfl, (by repeat (first | exact HBW.out | apply below_drew1 | apply pw_below_drewN | apply below_alloc))⟩
                      | false =>
                        have HRF : Aside0 (xapart ((y.take (kk + 1)).map S49.f0) (y.drop (kk + 1)) = r) := ⟨by have z := HRX.out; rw [if_neg (by rw [hin]; decide)] at z; rw [HST.out]; exact z⟩
                        go_wp2_with (first
                          | (at_lookup; refine xlookup_set _ rfl _ _ 55 rfl 9 4 (Go.Maps.string_keyed Try.underlying9) Try.underlying9 Try.underlying55 Try.underlying4 (xzeroB _) w4.heap.size kk ((y.take kk).map S49.f0) rfl HMA.out xx.f0 rfl HKS.out ?_; rw [hin])
                          | (at_mapUpdate; refine wpList_mapUpdate_own _ rfl _ _ _ 55 rfl 9 4 (Go.Maps.string_keyed Try.underlying9) Try.underlying55 _ w4.heap.size kk _ rfl HMA.out hkm _ _ _ rfl rfl (WideMaps.keyOf_string_mk Try.underlying9 HKS.out) _ [] (plainElem_bool Try.underlying4 true) ?_; intro w6 hown6 hgrow6; have HM6 := Aside0.mk hown6; have HG6 := Aside0.mk hgrow6; clear hown6 hgrow6))
                        have hw : wrap64 ((kk : Int) + 1) = ((kk + 1 : Nat) : Int) := by have hyl := HYL.out; unfold wrap64; omega
                        go_roundg (y.length - (kk + 1))
                        case measure => omega
                        case rel =>
                          refine ⟨kk + 1, by omega, by omega, by first | (rw [hw]; done) | (simp [hw]; done) | go_num, ⟨?_⟩, ⟨?_⟩, ⟨?_⟩, ⟨?_⟩, HRF⟩
                          · exact (below_alloc HBW.out _).grown HG6.out (by have z := HBW.out.size; simp; omega) (fun k hk => by cases hk; have z := HX4.out.size; simp at z; omega)
                          · have z := HG6.out.size; have z2 := HSW.out; simp at z; omega
                          · exact Kd.R_grown (Kd.R_alloc HOW.out _) HG6.out (fun k hk e => by cases e; exact hk.2 rfl)
                          · rw [HST.out, xset_snoc]; exact HM6.out
                    · have hlt2 : ¬ (kk : Int) < (y.length : Int) := by omega
                      obtain rfl : true = r := by have z := HRW.out; rw [List.drop_of_length_le (by omega)] at z; exact z
                      clear HRW
                      go_wp2
                      go_ret
                      exact ⟨rfl, (by repeat (first | exact HBW.out | apply below_drew1 | apply pw_below_drewN | apply below_alloc))⟩
                · rw [if_neg hsz] at h; cases h
              · rw [if_neg hlen] at h; cases h

end Go.Proofs.Ytgdlnbdbilgboaa.PFnExactKeysIn
