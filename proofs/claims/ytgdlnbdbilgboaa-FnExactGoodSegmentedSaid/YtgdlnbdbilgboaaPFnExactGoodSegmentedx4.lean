-- Written by a program of this project (xprint.py) out of the translation; Lean checks it.
import Derived.Test.YtgdlnbdbilgboaaPFnExactGoodSegmentedx0
import Derived.Test.YtgdlnbdbilgboaaPFnExactGoodSegmentedx1
import Derived.Test.YtgdlnbdbilgboaaPFnExactGoodSegmentedx3
namespace Go.Proofs.Ytgdlnbdbilgboaa.PFnExactGoodSegmented
open Go.RowKit Go.Proofs.YtgdlnbdbilgboaaW.PrintWords Go.Proofs.YtgdlnbdbilgboaaW.PrintLast Go.Proofs.YtgdlnbdbilgboaaW.PrintMore
attribute [local go_sem] max2_int min2_int max_two min_two max_three min_three max_four min_four   -- for this text's walks alone
set_option linter.unusedVariables false
set_option linter.unusedSimpArgs false

/-- the first place, counted from n, at which p holds; -1 if there is none -/
def idxO {α : Type} (p : α → Option Bool) : List α → Int → Option Int
  | [], _ => some (-1)
  | x :: xs, n => (p x).bind fun b => if b = true then some n else idxO p xs (n + 1)
theorem idxO_at {α : Type} (p : α → Option Bool) (l : List α) (n : Nat) (h : n < l.length) : idxO p (l.drop n) (n : Int) = (p l[n]).bind fun b => if b = true then some (n : Int) else idxO p (l.drop (n + 1)) ((n + 1 : Nat) : Int) := by
  rw [List.drop_eq_getElem_cons h]; rfl
theorem idxO_mono {α : Type} (p q : α → Option Bool) (h : ∀ x, LeO (p x) (q x)) (l : List α) : ∀ n, LeO (idxO p l n) (idxO q l n) := by
  induction l with
  | nil => intro n; exact LeO.refl _
  | cons x xs ih => intro n; unfold idxO; exact LeO.bind (h x) (fun b => LeO.ite (LeO.refl _) (ih _))
set_option maxHeartbeats 4000000 in
/-- slices.IndexFunc: the first place at which the predicate holds -/
theorem xIndexFunc_T49 (p : S49 → Option Bool) (g : Nat) (lb : Array Value) (eg : ∀ args w, (callFunc g args).run Try.prog w = .ok (.enter g args) w) (A0 : Option Addr) (c0 : Nat) (l0 : List S49) (i : Int) (w : World)
    (hr0 : Kd.C k49 w A0 l0.length l0) (hc0 : l0.length ≤ c0) (hbig : l0.length < 9223372036854775807)
    (hp : ∀ (W : World) (x : S49) (b : Bool), Below w.heap.size w W → p x = some b → Calls Try.prog g (#[.agg #[.string x.f0, .string x.f1]] ++ lb) W fun e w' => e = .returned (.bool b) ∧ Below w.heap.size w w')
    (h : idxO p l0 0 = some i) :
    Calls Try.prog 49 #[.slice A0 l0.length c0, .func (.func g) #[] lb] w fun e w' => e = .returned (.int .i64 i) ∧ Below w.heap.size w w' := by
  have HR0 := Aside0.mk hr0
  have HC0 := Aside0.mk hc0
  have HP := Aside0.mk hp
  have HI := Aside0.mk h
  clear hr0 hc0 hp h
  go_enter Try.func49, Try.ntmps49
  go_wp2
  go_loopg [5, 8] l0.length (fun gg _ s8 wr => ∃ kk : Nat, kk ≤ l0.length ∧ l0.length - kk ≤ gg ∧ s8 = .int .i64 kk ∧ Aside0 (Below w.heap.size w wr) ∧ Aside0 (idxO p (l0.drop kk) (kk : Int) = some i))
  case atStart => exact ⟨0, Nat.zero_le _, by omega, rfl, ⟨Below.refl _ w⟩, HI⟩
  case round =>
    obtain ⟨kk, hkk, hg, rfl, BW, A⟩ := hrel
    clear HI
    by_cases hlt : kk < l0.length
    · have hltz : (kk : Int) < (l0.length : Int) := by omega
      have H := A.out
      clear A
      rw [idxO_at p l0 kk hlt] at H
      obtain ⟨b, hb, H⟩ := Option.bind_eq_some_iff.mp H
      have hcall := HP.out wr l0[kk] b BW.out hb
      have hrd : rd_T49 l0 (kk : Int) = l0[kk] := by unfold rd_T49; simp [List.getD_eq_getElem?_getD, hlt]
      obtain ⟨ad, he, hy0, hy1⟩ := at_T49 (Kd.C_below HR0.out BW.out) (kk : Int) (by omega) hltz
      cases he
      have hx0 : wr.cell? (ad.add (kk * 2)) = some (.string (l0[kk].f0)) := by rw [← hrd]; exact hy0
      have hx1 : wr.cell? ⟨(ad.add (kk * 2)).block, (ad.add (kk * 2)).off + 1, none⟩ = some (.string (l0[kk].f1)) := by rw [← hrd]; exact hy1
      clear hy0 hy1
      generalize l0[kk] = x at *
      cases b with
      | true =>
        obtain rfl : (kk : Int) = i := Option.some.inj H
        clear H hb
        go_wp2_with (go_at_fn g; refine hcall.mono ?_; rintro e w' ⟨rfl, hb'⟩)
        go_ret
        exact ⟨rfl, hb'⟩
      | false =>
        have H' := Aside0.mk H
        clear H hb
        go_wp2_with (go_at_fn g; refine hcall.mono ?_; rintro e w' ⟨rfl, hb'⟩)
        go_roundg (l0.length - (kk + 1))
        case measure => omega
        case rel => exact ⟨kk + 1, by omega, by omega, by go_num, ⟨hb'⟩, ⟨by have z := H'.out; rw [if_neg (by decide)] at z; exact z⟩⟩
    · have hltz : ¬ (kk : Int) < (l0.length : Int) := by omega
      have H := A.out
      rw [List.drop_of_length_le (by omega)] at H
      obtain rfl : (-1 : Int) = i := Option.some.inj H
      clear H A
      go_wp2
      go_ret
      exact ⟨rfl, BW.out⟩
set_option maxHeartbeats 4000000 in
theorem xContainsFunc_T49 (p : S49 → Option Bool) (g : Nat) (lb : Array Value) (eg : ∀ args w, (callFunc g args).run Try.prog w = .ok (.enter g args) w) (A0 : Option Addr) (c0 : Nat) (l0 : List S49) (i : Int) (w : World)
    (hr0 : Kd.C k49 w A0 l0.length l0) (hc0 : l0.length ≤ c0) (hbig : l0.length < 9223372036854775807)
    (hp : ∀ (W : World) (x : S49) (b : Bool), Below w.heap.size w W → p x = some b → Calls Try.prog g (#[.agg #[.string x.f0, .string x.f1]] ++ lb) W fun e w' => e = .returned (.bool b) ∧ Below w.heap.size w w')
    (h : idxO p l0 0 = some i) :
    Calls Try.prog 45 #[.slice A0 l0.length c0, .func (.func g) #[] lb] w fun e w' => e = .returned (.bool (decide (i ≥ 0))) ∧ Below w.heap.size w w' := by
  have hcall := xIndexFunc_T49 p g lb eg A0 c0 l0 i w hr0 hc0 hbig hp h
  clear hr0 hc0 hbig hp h
  go_enter Try.func45, Try.ntmps45
  go_wp2_with (go_at_call 49; refine hcall.mono ?_; rintro e w' ⟨rfl, hb'⟩)
  go_ret
  exact ⟨rfl, hb'⟩
/-! ### xAll_T49_impl_isEntry: function 33, with function 34 -/
def xAll_T49_impl_isEntry.z (x : S49) : Option Bool := (impl_isEntry.f x.f0 x.f1).bind fun b => some (!b)
def xAll_T49_impl_isEntry.f (l0 : List S49) : Option (Bool) := if l0.length < 9223372036854775807 then ((idxO (xAll_T49_impl_isEntry.z) l0 0).bind fun i => some (!decide (i ≥ 0))) else none
set_option maxHeartbeats 8000000 in
set_option maxRecDepth 100000 in
theorem xAll_T49_impl_isEntry.calls (A0 : Option Addr) (c0 : Nat) (l0 : List S49) (r : Bool) (w : World) (hr0 : Kd.C k49 w A0 l0.length l0) (hc0 : l0.length ≤ c0) (h : xAll_T49_impl_isEntry.f l0 = some r) :
    Calls Try.prog 33 #[.slice A0 l0.length c0, .func (.func 34) #[] #[]] w fun e w' => e = .returned (.bool r) ∧ Below w.heap.size w w' := by
  have hbig : l0.length < 9223372036854775807 := by
    by_cases c : l0.length < 9223372036854775807
    · exact c
    · unfold xAll_T49_impl_isEntry.f at h; rw [if_neg c] at h; cases h
  have h1 : ((idxO (xAll_T49_impl_isEntry.z) l0 0).bind fun i => some (!decide (i ≥ 0))) = some r := by unfold xAll_T49_impl_isEntry.f at h; rw [if_pos hbig] at h; exact h
  clear h
  obtain ⟨i, hi1, hi2⟩ := Option.bind_eq_some_iff.mp h1
  clear h1
  obtain rfl := Option.some.inj hi2
  clear hi2
  have eg : ∀ args w, (callFunc 46 args).run Try.prog w = .ok (.enter 46 args) w := enters_of Try.func46 (by kernel_rfl) rfl
  have hb1 : Below w.heap.size w (w.alloc (.cells #[.func (.func 34) #[] #[]] 54)) := (Below.refl _ w).alloc (Nat.le_refl _) _
  have hcall := xContainsFunc_T49 (xAll_T49_impl_isEntry.z) 46 #[.pointer (some ⟨w.heap.size, 0, none⟩)] eg A0 c0 l0 i (w.alloc (.cells #[.func (.func 34) #[] #[]] 54)) (Kd.C_below hr0 hb1) hc0 hbig
    (by
      intro W x b hb hz
      have hcell : W.cell? ⟨w.heap.size, 0, none⟩ = some (.func (.func 34) #[] #[]) := (hb.cell (p := ⟨w.heap.size, 0, none⟩) (by simp)).trans (by simp)
      obtain ⟨b2, hq, hb2⟩ := Option.bind_eq_some_iff.mp hz
      obtain rfl : (!b2) = b := Option.some.inj hb2
      have hq' := Aside0.mk hq
      have hb' := Aside0.mk hb
      clear hb hz hb2 hq
      show Calls Try.prog 46 #[.agg #[.string x.f0, .string x.f1], .pointer (some ⟨w.heap.size, 0, none⟩)] W _
      have hsz : w.heap.size < W.heap.size := by have z := hb'.out.size; simp at z; omega
      go_enter Try.func46, Try.ntmps46
      go_wp2_with (go_at_call 34; refine (impl_isEntry.calls x.f0 x.f1 b2 _ hq'.out).mono ?_; rintro e w' ⟨rfl, hb2⟩)
      go_ret
      exact ⟨rfl, below_step (by repeat (first | (with_reducible first | exact hb'.out | apply below_alloc | apply pw_below_drewN | apply below_drew1) | exact hb'.out)) hb2⟩)
    hi1
  have hb1' := Aside0.mk hb1
  clear hr0 hc0 hbig hi1 hb1 eg
  go_enter Try.func33, Try.ntmps33
  go_wp2_with (go_at_call 45; refine hcall.mono ?_; rintro e w' ⟨rfl, hb'⟩)
  go_ret
  exact ⟨rfl, below_then hb1'.out (by simp) hb'⟩
/-! ### impl_GoodSegmented: function 15 -/
def xin (s : ByteArray) (acc : List ByteArray) : Bool := acc.any fun t => decide (t.data.toList = s.data.toList)
/-- the names of a list's entries, one after the other, are all unlike, and unlike those of acc -/
def xapart : List ByteArray → List S49 → Bool
  | _, [] => true
  | acc, x :: xs => if xin x.f0 acc = true then false else xapart (acc ++ [x.f0]) xs
def impl_GoodSegmented.f (k : Nat) (a0 a1 : Int) (l0 l1 : List S49) : Option Bool :=
  (impl_isRoom.f a0).bind fun b1 => if b1 = true then ((impl_isRoom.f a1).bind fun b2 => if b2 = true then ((impl_fits.f k l0 a0).bind fun b3 => if b3 = true then ((impl_fits.f k l1 a1).bind fun b4 => if b4 = true then
    ((xAll_T49_impl_isEntry.f l0).bind fun b5 => if b5 = true then ((xAll_T49_impl_isEntry.f l1).bind fun b6 => if b6 = true then
      (if l0.length + l1.length < 1000 then (if ∀ x ∈ l0 ++ l1, x.f0.size ≤ 1000 then some (xapart [] (l0 ++ l1)) else none) else none)
    else some false) else some false) else some false) else some false) else some false) else some false
theorem impl_GoodSegmented.mono : ∀ a0 a1 l0 l1 k, LeO (impl_GoodSegmented.f k a0 a1 l0 l1) (impl_GoodSegmented.f (k + 1) a0 a1 l0 l1) := by
  intro a0 a1 l0 l1 k
  unfold impl_GoodSegmented.f
  refine LeO.bind (LeO.refl _) (fun _ => LeO.ite (LeO.bind (LeO.refl _) (fun _ => LeO.ite (LeO.bind (impl_fits.mono _ _ _) (fun _ => LeO.ite (LeO.bind (impl_fits.mono _ _ _) (fun _ => LeO.ite (LeO.refl _) (LeO.refl _))) (LeO.refl _))) (LeO.refl _))) (LeO.refl _))
/-! a set of texts, as the map of the call's own -/
def xset (acc : List ByteArray) : DataW Unit := Go.Maps.setOf (.lit (.bool true)) (acc.map fun s => Lit.string s.data.toList)
theorem xset_snoc (acc : List ByteArray) (s : ByteArray) : xset (acc ++ [s]) = (xset acc).put (.string s.data.toList) (.lit (.bool true)) := by
  unfold xset; rw [List.map_append, List.map_cons, List.map_nil, Go.Maps.setOf_snoc]
theorem xset_at (k : Lit) (z : DataW Unit) (acc : List Lit) : ∀ m : DataW Unit, Go.Maps.IsMap m → (∀ x ∈ acc, WideAt.IsKeyLit x) →
    (k ∈ acc → (acc.foldl (fun m x => m.put x (.lit (.bool true))) m).atKey k z = .lit (.bool true)) ∧ (¬ k ∈ acc → (acc.foldl (fun m x => m.put x (.lit (.bool true))) m).atKey k z = m.atKey k z) := by
  induction acc with
  | nil => intro m _ _; exact ⟨fun h => by simp at h, fun _ => rfl⟩
  | cons x xs ih =>
    intro m hm hk
    obtain ⟨i1, i2⟩ := ih (m.put x (.lit (.bool true))) (hm.put _ _) (fun y hy => hk y (List.mem_cons_of_mem _ hy))
    refine ⟨fun h => ?_, fun h => ?_⟩
    · rw [List.foldl_cons]
      refine Classical.byCases i1 fun h1 => ?_
      rw [i2 h1]
      rcases List.mem_cons.mp h with h2 | h2
      · subst h2; exact Go.Maps.atKey_put_same hm (hk k List.mem_cons_self) _ _
      · exact absurd h2 h1
    · rw [List.foldl_cons, i2 (fun h1 => h (List.mem_cons_of_mem _ h1))]
      exact Go.Maps.atKey_put_other (fun h1 => h (by rw [h1]; exact List.mem_cons_self)) _ _
theorem xset_get (acc : List ByteArray) (s : ByteArray) : (xset acc).atKey (.string s.data.toList) (.lit (.bool false)) = .lit (.bool (xin s acc)) := by
  unfold xset Go.Maps.setOf
  obtain ⟨i1, i2⟩ := xset_at (.string s.data.toList) (.lit (.bool false)) (acc.map fun s => Lit.string s.data.toList) (.map []) Go.Maps.isMap_empty (fun x hx => by obtain ⟨y, _, rfl⟩ := List.mem_map.mp hx; trivial)
  cases h : xin s acc with
  | true =>
    obtain ⟨t, ht, e⟩ := List.any_eq_true.mp h
    exact i1 (List.mem_map.mpr ⟨t, ht, by rw [of_decide_eq_true e]⟩)
  | false =>
    rw [i2 (fun hm => by
      obtain ⟨t, ht, e⟩ := List.mem_map.mp hm
      have e2 : t.data.toList = s.data.toList := by injection e
      have z : xin s acc = true := List.any_eq_true.mpr ⟨t, ht, decide_eq_true e2⟩
      rw [h] at z; cases z)]
    rfl
theorem xlookup_set {P : Program} (w : World) {ops : Array Oper} {rest : List Oper} {o : Oper} {a : Act} {Q : Exit → Act → World → Prop}
    (hg : o.guard = none) (m x : Operand) (t : TypeId) (hop : o.op = Op.lookup t m x false)
    (k e : TypeId) (K : Go.Maps.Keyed P k) (hk : P.underlying k = some .string) (ht : P.underlying t = some (.map k e)) (he : P.underlying e = some .bool) (hz : (zeroValue e).run P w = .ok (.bool false) w) (b n : Nat) (acc : List ByteArray)
    (hm : a.eval m = .map (some b)) (hown : w.ownsMap P k (plainElem P e) b n (xset acc)) (s : ByteArray) (hx : a.eval x = .string s) (hs : s.size ≤ maxLen)
    (hK : wpList P ops Q rest (a.put o.dst (.bool (xin s acc))) w) :
    wpList P ops Q (o :: rest) a w := by
  refine wpList_plain hg fun K' hK' => ?_
  obtain ⟨v, ps, hrun, hv⟩ := hown.lookup K ht hz (plainElem_bool he false) (WideMaps.keyOf_string_mk hk hs)
  rw [xset_get] at hv
  have hvb : v = .bool (xin s acc) := by
    unfold plainElem at hv
    rw [he] at hv
    cases v <;> simp at hv
    rw [hv.1]
  subst hvb
  unfold Oper.wp
  simp [execOp, hop, hm, hx, hrun, Result.andThen]
  exact hK' _ _ hK
theorem xzeroB (w : World) : (zeroValue 4).run Try.prog w = .ok (.bool false) w := by kernel_rfl
theorem xseg_cells {w w' : World} {a b c d : Value} {T : Nat} (h : Below (w.heap.size + 1) (w.alloc (.cells #[a, b, c, d] T)) w') :
    w'.cell? ⟨w.heap.size, 0, none⟩ = some a ∧ w'.cell? ⟨w.heap.size, 1, none⟩ = some b ∧ w'.cell? ⟨w.heap.size, 2, none⟩ = some c ∧ w'.cell? ⟨w.heap.size, 3, none⟩ = some d :=
  ⟨(h.cell (p := ⟨w.heap.size, 0, none⟩) (Nat.lt_succ_self _)).trans (by simp), (h.cell (p := ⟨w.heap.size, 1, none⟩) (Nat.lt_succ_self _)).trans (by simp), (h.cell (p := ⟨w.heap.size, 2, none⟩) (Nat.lt_succ_self _)).trans (by simp), (h.cell (p := ⟨w.heap.size, 3, none⟩) (Nat.lt_succ_self _)).trans (by simp)⟩
theorem xseg_below {w w' : World} {o : Obj} (h : Below (w.heap.size + 1) (w.alloc o) w') : Below w.heap.size w w' := (below_alloc (Below.refl _ w) o).trans (h.mono (Nat.le_succ _))
set_option maxHeartbeats 16000000 in
set_option maxRecDepth 100000 in
theorem impl_GoodSegmented.calls (k : Nat) (a0 a1 : Int) (A0 : Option Addr) (c0 : Nat) (l0 : List S49) (A1 : Option Addr) (c1 : Nat) (l1 : List S49) (r : Bool) (w : World) (hr0 : Kd.C k49 w A0 l0.length l0) (hc0 : l0.length ≤ c0) (hr1 : Kd.C k49 w A1 l1.length l1) (hc1 : l1.length ≤ c1) (h : impl_GoodSegmented.f k a0 a1 l0 l1 = some r) :
    Calls Try.prog 15 #[.agg #[.int .i64 a0, .int .i64 a1, .slice A0 l0.length c0, .slice A1 l1.length c1]] w fun e w' => e = .returned (.bool r) ∧ Below w.heap.size w w' := by
  have hu24 := Try.underlying24
  have hu49 := Try.underlying49
  have HR0 := Aside0.mk hr0
  have HC0 := Aside0.mk hc0
  have HR1 := Aside0.mk hr1
  have HC1 := Aside0.mk hc1
  clear hr0 hc0 hr1 hc1
  unfold impl_GoodSegmented.f at h
  obtain ⟨b1, hb, h⟩ := Option.bind_eq_some_iff.mp h
  have H1 := Aside0.mk hb
  clear hb
  cases b1 with
  | false =>
    rw [if_neg (by decide)] at h
    obtain rfl := Option.some.inj h
    clear h
    go_enter Try.func15, Try.ntmps15
    go_wp2_with (first
      | (go_at_call 24; with_reducible refine (impl_isRoom.calls a0 _ _ H1.out).mono ?_; rintro e w' ⟨rfl, ⟨nd1, rfl⟩⟩))
    go_ret
    exact ⟨rfl, (by repeat (first | exact Below.refl _ _ | exact HB4.out | exact HB3.out | exact HB2.out | exact HB1.out | apply below_drew1 | apply pw_below_drewN | apply below_alloc))⟩
  | true =>
    rw [if_pos rfl] at h
    obtain ⟨b2, hb, h⟩ := Option.bind_eq_some_iff.mp h
    have H2 := Aside0.mk hb
    clear hb
    cases b2 with
    | false =>
      rw [if_neg (by decide)] at h
      obtain rfl := Option.some.inj h
      clear h
      go_enter Try.func15, Try.ntmps15
      go_wp2_with (first
        | (go_at_call 24; with_reducible refine (impl_isRoom.calls a0 _ _ H1.out).mono ?_; rintro e w' ⟨rfl, ⟨nd1, rfl⟩⟩)
        | (go_at_call 24; with_reducible refine (impl_isRoom.calls a1 _ _ H2.out).mono ?_; rintro e w' ⟨rfl, ⟨nd2, rfl⟩⟩))
      go_ret
      exact ⟨rfl, (by repeat (first | exact Below.refl _ _ | exact HB4.out | exact HB3.out | exact HB2.out | exact HB1.out | apply below_drew1 | apply pw_below_drewN | apply below_alloc))⟩
    | true =>
      rw [if_pos rfl] at h
      obtain ⟨b3, hb, h⟩ := Option.bind_eq_some_iff.mp h
      have H3 := Aside0.mk hb
      clear hb
      cases b3 with
      | false =>
        rw [if_neg (by decide)] at h
        obtain rfl := Option.some.inj h
        clear h
        go_enter Try.func15, Try.ntmps15
        go_wp2_with (first
          | (go_at_call 24; with_reducible refine (impl_isRoom.calls a0 _ _ H1.out).mono ?_; rintro e w' ⟨rfl, ⟨nd1, rfl⟩⟩)
          | (go_at_call 24; with_reducible refine (impl_isRoom.calls a1 _ _ H2.out).mono ?_; rintro e w' ⟨rfl, ⟨nd2, rfl⟩⟩)
          | (go_at_call 32; with_reducible refine (impl_fits.calls k A0 c0 l0 a0 _ _ ?s1 ?s2 H3.out).mono ?_; (case s1 => exact Kd.C_below HR0.out (by repeat (first | exact Below.refl _ _ | apply below_drew1 | apply pw_below_drewN | apply below_alloc))); (case s2 => exact HC0.out); rintro e w1 ⟨rfl, hb1⟩; have HX1 : Aside0 (Below (w.heap.size + 1) (w.alloc (.cells #[.int .i64 a0, .int .i64 a1, .slice A0 l0.length c0, .slice A1 l1.length c1] 24)) w1) := ⟨below_then (by repeat (first | exact Below.refl _ _ | apply below_drew1 | apply pw_below_drewN)) (by simp) hb1⟩; obtain ⟨hq10, hq11, hq12, hq13⟩ := xseg_cells HX1.out; have HB1 := Aside0.mk (xseg_below HX1.out); clear hb1))
        go_ret
        exact ⟨rfl, (by repeat (first | exact Below.refl _ _ | exact HB4.out | exact HB3.out | exact HB2.out | exact HB1.out | apply below_drew1 | apply pw_below_drewN | apply below_alloc))⟩
      | true =>
        rw [if_pos rfl] at h
        obtain ⟨b4, hb, h⟩ := Option.bind_eq_some_iff.mp h
        have H4 := Aside0.mk hb
        clear hb
        cases b4 with
        | false =>
          rw [if_neg (by decide)] at h
          obtain rfl := Option.some.inj h
          clear h
          go_enter Try.func15, Try.ntmps15
          go_wp2_with (first
            | (go_at_call 24; with_reducible refine (impl_isRoom.calls a0 _ _ H1.out).mono ?_; rintro e w' ⟨rfl, ⟨nd1, rfl⟩⟩)
            | (go_at_call 24; with_reducible refine (impl_isRoom.calls a1 _ _ H2.out).mono ?_; rintro e w' ⟨rfl, ⟨nd2, rfl⟩⟩)
            | (go_at_call 32; with_reducible refine (impl_fits.calls k A0 c0 l0 a0 _ _ ?s1 ?s2 H3.out).mono ?_; (case s1 => exact Kd.C_below HR0.out (by repeat (first | exact Below.refl _ _ | apply below_drew1 | apply pw_below_drewN | apply below_alloc))); (case s2 => exact HC0.out); rintro e w1 ⟨rfl, hb1⟩; have HX1 : Aside0 (Below (w.heap.size + 1) (w.alloc (.cells #[.int .i64 a0, .int .i64 a1, .slice A0 l0.length c0, .slice A1 l1.length c1] 24)) w1) := ⟨below_then (by repeat (first | exact Below.refl _ _ | apply below_drew1 | apply pw_below_drewN)) (by simp) hb1⟩; obtain ⟨hq10, hq11, hq12, hq13⟩ := xseg_cells HX1.out; have HB1 := Aside0.mk (xseg_below HX1.out); clear hb1)
            | (go_at_call 32; with_reducible refine (impl_fits.calls k A1 c1 l1 a1 _ _ ?s1 ?s2 H4.out).mono ?_; (case s1 => exact Kd.C_below HR1.out (by repeat (first | exact Below.refl _ _ | apply below_drew1 | apply pw_below_drewN | apply below_alloc | exact HB1.out))); (case s2 => exact HC1.out); rintro e w2 ⟨rfl, hb2⟩; have HX2 : Aside0 (Below (w.heap.size + 1) (w.alloc (.cells #[.int .i64 a0, .int .i64 a1, .slice A0 l0.length c0, .slice A1 l1.length c1] 24)) w2) := ⟨below_then (by repeat (first | exact Below.refl _ _ | apply below_drew1 | apply pw_below_drewN | exact HX1.out)) (by have z := HX1.out.size; simp at z ⊢; omega) hb2⟩; obtain ⟨hq20, hq21, hq22, hq23⟩ := xseg_cells HX2.out; have HB2 := Aside0.mk (xseg_below HX2.out); clear hb2))
          go_ret
          exact ⟨rfl, (by repeat (first | exact Below.refl _ _ | exact HB4.out | exact HB3.out | exact HB2.out | exact HB1.out | apply below_drew1 | apply pw_below_drewN | apply below_alloc))⟩
        | true =>
          rw [if_pos rfl] at h
          obtain ⟨b5, hb, h⟩ := Option.bind_eq_some_iff.mp h
          have H5 := Aside0.mk hb
          clear hb
          cases b5 with
          | false =>
            rw [if_neg (by decide)] at h
            obtain rfl := Option.some.inj h
            clear h
            go_enter Try.func15, Try.ntmps15
            go_wp2_with (first
              | (go_at_call 24; with_reducible refine (impl_isRoom.calls a0 _ _ H1.out).mono ?_; rintro e w' ⟨rfl, ⟨nd1, rfl⟩⟩)
              | (go_at_call 24; with_reducible refine (impl_isRoom.calls a1 _ _ H2.out).mono ?_; rintro e w' ⟨rfl, ⟨nd2, rfl⟩⟩)
              | (go_at_call 32; with_reducible refine (impl_fits.calls k A0 c0 l0 a0 _ _ ?s1 ?s2 H3.out).mono ?_; (case s1 => exact Kd.C_below HR0.out (by repeat (first | exact Below.refl _ _ | apply below_drew1 | apply pw_below_drewN | apply below_alloc))); (case s2 => exact HC0.out); rintro e w1 ⟨rfl, hb1⟩; have HX1 : Aside0 (Below (w.heap.size + 1) (w.alloc (.cells #[.int .i64 a0, .int .i64 a1, .slice A0 l0.length c0, .slice A1 l1.length c1] 24)) w1) := ⟨below_then (by repeat (first | exact Below.refl _ _ | apply below_drew1 | apply pw_below_drewN)) (by simp) hb1⟩; obtain ⟨hq10, hq11, hq12, hq13⟩ := xseg_cells HX1.out; have HB1 := Aside0.mk (xseg_below HX1.out); clear hb1)
              | (go_at_call 32; with_reducible refine (impl_fits.calls k A1 c1 l1 a1 _ _ ?s1 ?s2 H4.out).mono ?_; (case s1 => exact Kd.C_below HR1.out (by repeat (first | exact Below.refl _ _ | apply below_drew1 | apply pw_below_drewN | apply below_alloc | exact HB1.out))); (case s2 => exact HC1.out); rintro e w2 ⟨rfl, hb2⟩; have HX2 : Aside0 (Below (w.heap.size + 1) (w.alloc (.cells #[.int .i64 a0, .int .i64 a1, .slice A0 l0.length c0, .slice A1 l1.length c1] 24)) w2) := ⟨below_then (by repeat (first | exact Below.refl _ _ | apply below_drew1 | apply pw_below_drewN | exact HX1.out)) (by have z := HX1.out.size; simp at z ⊢; omega) hb2⟩; obtain ⟨hq20, hq21, hq22, hq23⟩ := xseg_cells HX2.out; have HB2 := Aside0.mk (xseg_below HX2.out); clear hb2)
              | (go_at_call 33; with_reducible refine (xAll_T49_impl_isEntry.calls A0 c0 l0 _ _ ?s1 ?s2 H5.out).mono ?_; (case s1 => exact Kd.C_below HR0.out (by repeat (first | exact Below.refl _ _ | apply below_drew1 | apply pw_below_drewN | apply below_alloc | exact HB2.out))); (case s2 => exact HC0.out); rintro e w3 ⟨rfl, hb3⟩; have HX3 : Aside0 (Below (w.heap.size + 1) (w.alloc (.cells #[.int .i64 a0, .int .i64 a1, .slice A0 l0.length c0, .slice A1 l1.length c1] 24)) w3) := ⟨below_then (by repeat (first | exact Below.refl _ _ | apply below_drew1 | apply pw_below_drewN | exact HX2.out)) (by have z := HX2.out.size; simp at z ⊢; omega) hb3⟩; obtain ⟨hq30, hq31, hq32, hq33⟩ := xseg_cells HX3.out; have HB3 := Aside0.mk (xseg_below HX3.out); clear hb3))
            go_ret
            exact ⟨rfl, (by repeat (first | exact Below.refl _ _ | exact HB4.out | exact HB3.out | exact HB2.out | exact HB1.out | apply below_drew1 | apply pw_below_drewN | apply below_alloc))⟩
          | true =>
            rw [if_pos rfl] at h
            obtain ⟨b6, hb, h⟩ := Option.bind_eq_some_iff.mp h
            have H6 := Aside0.mk hb
            clear hb
            cases b6 with
            | false =>
              rw [if_neg (by decide)] at h
              obtain rfl := Option.some.inj h
              clear h
              go_enter Try.func15, Try.ntmps15
              go_wp2_with (first
                | (go_at_call 24; with_reducible refine (impl_isRoom.calls a0 _ _ H1.out).mono ?_; rintro e w' ⟨rfl, ⟨nd1, rfl⟩⟩)
                | (go_at_call 24; with_reducible refine (impl_isRoom.calls a1 _ _ H2.out).mono ?_; rintro e w' ⟨rfl, ⟨nd2, rfl⟩⟩)
                | (go_at_call 32; with_reducible refine (impl_fits.calls k A0 c0 l0 a0 _ _ ?s1 ?s2 H3.out).mono ?_; (case s1 => exact Kd.C_below HR0.out (by repeat (first | exact Below.refl _ _ | apply below_drew1 | apply pw_below_drewN | apply below_alloc))); (case s2 => exact HC0.out); rintro e w1 ⟨rfl, hb1⟩; have HX1 : Aside0 (Below (w.heap.size + 1) (w.alloc (.cells #[.int .i64 a0, .int .i64 a1, .slice A0 l0.length c0, .slice A1 l1.length c1] 24)) w1) := ⟨below_then (by repeat (first | exact Below.refl _ _ | apply below_drew1 | apply pw_below_drewN)) (by simp) hb1⟩; obtain ⟨hq10, hq11, hq12, hq13⟩ := xseg_cells HX1.out; have HB1 := Aside0.mk (xseg_below HX1.out); clear hb1)
                | (go_at_call 32; with_reducible refine (impl_fits.calls k A1 c1 l1 a1 _ _ ?s1 ?s2 H4.out).mono ?_; (case s1 => exact Kd.C_below HR1.out (by repeat (first | exact Below.refl _ _ | apply below_drew1 | apply pw_below_drewN | apply below_alloc | exact HB1.out))); (case s2 => exact HC1.out); rintro e w2 ⟨rfl, hb2⟩; have HX2 : Aside0 (Below (w.heap.size + 1) (w.alloc (.cells #[.int .i64 a0, .int .i64 a1, .slice A0 l0.length c0, .slice A1 l1.length c1] 24)) w2) := ⟨below_then (by repeat (first | exact Below.refl _ _ | apply below_drew1 | apply pw_below_drewN | exact HX1.out)) (by have z := HX1.out.size; simp at z ⊢; omega) hb2⟩; obtain ⟨hq20, hq21, hq22, hq23⟩ := xseg_cells HX2.out; have HB2 := Aside0.mk (xseg_below HX2.out); clear hb2)
                | (go_at_call 33; with_reducible refine (xAll_T49_impl_isEntry.calls A0 c0 l0 _ _ ?s1 ?s2 H5.out).mono ?_; (case s1 => exact Kd.C_below HR0.out (by repeat (first | exact Below.refl _ _ | apply below_drew1 | apply pw_below_drewN | apply below_alloc | exact HB2.out))); (case s2 => exact HC0.out); rintro e w3 ⟨rfl, hb3⟩; have HX3 : Aside0 (Below (w.heap.size + 1) (w.alloc (.cells #[.int .i64 a0, .int .i64 a1, .slice A0 l0.length c0, .slice A1 l1.length c1] 24)) w3) := ⟨below_then (by repeat (first | exact Below.refl _ _ | apply below_drew1 | apply pw_below_drewN | exact HX2.out)) (by have z := HX2.out.size; simp at z ⊢; omega) hb3⟩; obtain ⟨hq30, hq31, hq32, hq33⟩ := xseg_cells HX3.out; have HB3 := Aside0.mk (xseg_below HX3.out); clear hb3)
                | (go_at_call 33; with_reducible refine (xAll_T49_impl_isEntry.calls A1 c1 l1 _ _ ?s1 ?s2 H6.out).mono ?_; (case s1 => exact Kd.C_below HR1.out (by repeat (first | exact Below.refl _ _ | apply below_drew1 | apply pw_below_drewN | apply below_alloc | exact HB3.out))); (case s2 => exact HC1.out); rintro e w4 ⟨rfl, hb4⟩; have HX4 : Aside0 (Below (w.heap.size + 1) (w.alloc (.cells #[.int .i64 a0, .int .i64 a1, .slice A0 l0.length c0, .slice A1 l1.length c1] 24)) w4) := ⟨below_then (by repeat (first | exact Below.refl _ _ | apply below_drew1 | apply pw_below_drewN | exact HX3.out)) (by have z := HX3.out.size; simp at z ⊢; omega) hb4⟩; obtain ⟨hq40, hq41, hq42, hq43⟩ := xseg_cells HX4.out; have HB4 := Aside0.mk (xseg_below HX4.out); have hlt4 : w.heap.size < w4.heap.size := (by have z := HX4.out.size; simp at z; omega); have hne4 : w.heap.size ≠ w4.heap.size := Nat.ne_of_lt hlt4; clear hb4))
              go_ret
              exact ⟨rfl, (by repeat (first | exact Below.refl _ _ | exact HB4.out | exact HB3.out | exact HB2.out | exact HB1.out | apply below_drew1 | apply pw_below_drewN | apply below_alloc))⟩
            | true =>
              rw [if_pos rfl] at h
              by_cases hlen : l0.length + l1.length < 1000
              · rw [if_pos hlen] at h
                by_cases hsz : ∀ x ∈ l0 ++ l1, x.f0.size ≤ 1000
                · rw [if_pos hsz] at h
                  obtain ⟨y, hy⟩ : ∃ y, y = l0 ++ l1 := ⟨_, rfl⟩
                  have HY := Aside0.mk hy
                  have HLEN := Aside0.mk hlen
                  rw [← hy] at h hsz
                  have hyl : y.length < 1000 := by rw [hy, List.length_append]; exact hlen
                  have HYL := Aside0.mk hyl
                  have HSZ := Aside0.mk hsz
                  have HH := Aside0.mk h
                  clear hy hlen hsz h hyl
                  have hmm := @run_makeMap Try.prog
                  go_enter Try.func15, Try.ntmps15
                  go_wp2_with (first
                    | (go_at_call 24; with_reducible refine (impl_isRoom.calls a0 _ _ H1.out).mono ?_; rintro e w' ⟨rfl, ⟨nd1, rfl⟩⟩)
                    | (go_at_call 24; with_reducible refine (impl_isRoom.calls a1 _ _ H2.out).mono ?_; rintro e w' ⟨rfl, ⟨nd2, rfl⟩⟩)
                    | (go_at_call 32; with_reducible refine (impl_fits.calls k A0 c0 l0 a0 _ _ ?s1 ?s2 H3.out).mono ?_; (case s1 => exact Kd.C_below HR0.out (by repeat (first | exact Below.refl _ _ | apply below_drew1 | apply pw_below_drewN | apply below_alloc))); (case s2 => exact HC0.out); rintro e w1 ⟨rfl, hb1⟩; have HX1 : Aside0 (Below (w.heap.size + 1) (w.alloc (.cells #[.int .i64 a0, .int .i64 a1, .slice A0 l0.length c0, .slice A1 l1.length c1] 24)) w1) := ⟨below_then (by repeat (first | exact Below.refl _ _ | apply below_drew1 | apply pw_below_drewN)) (by simp) hb1⟩; obtain ⟨hq10, hq11, hq12, hq13⟩ := xseg_cells HX1.out; have HB1 := Aside0.mk (xseg_below HX1.out); clear hb1)
                    | (go_at_call 32; with_reducible refine (impl_fits.calls k A1 c1 l1 a1 _ _ ?s1 ?s2 H4.out).mono ?_; (case s1 => exact Kd.C_below HR1.out (by repeat (first | exact Below.refl _ _ | apply below_drew1 | apply pw_below_drewN | apply below_alloc | exact HB1.out))); (case s2 => exact HC1.out); rintro e w2 ⟨rfl, hb2⟩; have HX2 : Aside0 (Below (w.heap.size + 1) (w.alloc (.cells #[.int .i64 a0, .int .i64 a1, .slice A0 l0.length c0, .slice A1 l1.length c1] 24)) w2) := ⟨below_then (by repeat (first | exact Below.refl _ _ | apply below_drew1 | apply pw_below_drewN | exact HX1.out)) (by have z := HX1.out.size; simp at z ⊢; omega) hb2⟩; obtain ⟨hq20, hq21, hq22, hq23⟩ := xseg_cells HX2.out; have HB2 := Aside0.mk (xseg_below HX2.out); clear hb2)
                    | (go_at_call 33; with_reducible refine (xAll_T49_impl_isEntry.calls A0 c0 l0 _ _ ?s1 ?s2 H5.out).mono ?_; (case s1 => exact Kd.C_below HR0.out (by repeat (first | exact Below.refl _ _ | apply below_drew1 | apply pw_below_drewN | apply below_alloc | exact HB2.out))); (case s2 => exact HC0.out); rintro e w3 ⟨rfl, hb3⟩; have HX3 : Aside0 (Below (w.heap.size + 1) (w.alloc (.cells #[.int .i64 a0, .int .i64 a1, .slice A0 l0.length c0, .slice A1 l1.length c1] 24)) w3) := ⟨below_then (by repeat (first | exact Below.refl _ _ | apply below_drew1 | apply pw_below_drewN | exact HX2.out)) (by have z := HX2.out.size; simp at z ⊢; omega) hb3⟩; obtain ⟨hq30, hq31, hq32, hq33⟩ := xseg_cells HX3.out; have HB3 := Aside0.mk (xseg_below HX3.out); clear hb3)
                    | (go_at_call 33; with_reducible refine (xAll_T49_impl_isEntry.calls A1 c1 l1 _ _ ?s1 ?s2 H6.out).mono ?_; (case s1 => exact Kd.C_below HR1.out (by repeat (first | exact Below.refl _ _ | apply below_drew1 | apply pw_below_drewN | apply below_alloc | exact HB3.out))); (case s2 => exact HC1.out); rintro e w4 ⟨rfl, hb4⟩; have HX4 : Aside0 (Below (w.heap.size + 1) (w.alloc (.cells #[.int .i64 a0, .int .i64 a1, .slice A0 l0.length c0, .slice A1 l1.length c1] 24)) w4) := ⟨below_then (by repeat (first | exact Below.refl _ _ | apply below_drew1 | apply pw_below_drewN | exact HX3.out)) (by have z := HX3.out.size; simp at z ⊢; omega) hb4⟩; obtain ⟨hq40, hq41, hq42, hq43⟩ := xseg_cells HX4.out; have HB4 := Aside0.mk (xseg_below HX4.out); have hlt4 : w.heap.size < w4.heap.size := (by have z := HX4.out.size; simp at z; omega); have hne4 : w.heap.size ≠ w4.heap.size := Nat.ne_of_lt hlt4; clear hb4)
                    | (go_at_call 35; refine (xConcat2_T49 _ ⟨w4.heap.size + 1, 0, none⟩ 2 A0 A1 c0 c1 l0 l1 (by simp) (by simp [Addr.add]) (by simp [Addr.add]) (Kd.C_alloc (Kd.C_alloc (Kd.C_below HR0.out HB4.out) _) _) (Kd.C_alloc (Kd.C_alloc (Kd.C_below HR1.out HB4.out) _) _) (by have := HLEN.out; omega)).mono ?_; rintro e w5 ⟨v5, rfl, ho, hb5⟩; rw [← HY.out] at ho; obtain ⟨A5, c5, e5⟩ := Kd.R_slice ho; subst e5; have HO5 := Aside0.mk ho; have HB5 := Aside0.mk hb5; clear ho hb5))
                  have hwm : w5.ownsMap (H := Unit) Try.prog 9 (plainElem Try.prog 4) w4.heap.size 0 (xset []) := by
                    have z := (World.ownsMap_made (H := Unit) w4 Try.prog 9 (plainElem Try.prog 4)).alloc (.cells #[.slice A0 l0.length c0, .slice A1 l1.length c1] 22)
                    exact z.kept (row := none) (grown_of_below HB5.out none) (by simp)
                  have hb5w : Below w.heap.size w w5 := by
                    have z := HB5.out
                    have z2 := HX4.out.size
                    simp at z z2
                    exact ((below_alloc (below_alloc HB4.out _) _).trans (HB5.out.mono (by simp; omega)))
                  have HO6 : Aside0 (Kd.R k49 49 w5 (w4.heap.size + 2) (fun k => True ∧ k ≠ w4.heap.size) (.slice A5 y.length c5) y) := ⟨by
                    refine Kd.R_lower (Kd.R_mono (Kd.R_bound HO5.out) (fun k hk => ⟨trivial, ?_⟩)) (by simp)
                    have z := hk.2.1
                    simp at z
                    omega⟩
                  have HM := Aside0.mk hwm
                  have HW := Aside0.mk hb5w
                  clear hwm hb5w
                  go_loopg [52] y.length (fun gg s52 wr => ∃ kk : Nat, kk ≤ y.length ∧ y.length - kk ≤ gg ∧ s52 = .int .i64 kk ∧ Aside0 (Below w.heap.size w wr) ∧ Aside0 (w4.heap.size + 2 ≤ wr.heap.size) ∧ Aside0 (Kd.R k49 49 wr (w4.heap.size + 2) (fun k => True ∧ k ≠ w4.heap.size) (.slice A5 y.length c5) y) ∧ Aside0 (wr.ownsMap (H := Unit) Try.prog 9 (plainElem Try.prog 4) w4.heap.size kk (xset ((y.take kk).map S49.f0))) ∧ Aside0 (xapart ((y.take kk).map S49.f0) (y.drop kk) = r))
                  case atStart => exact ⟨0, Nat.zero_le _, by omega, rfl, HW, ⟨by have z := HB5.out.size; simp at z; omega⟩, HO6, HM, ⟨Option.some.inj HH.out⟩⟩
                  case round =>
                    obtain ⟨kk, hkk, hgk, rfl, HBW, HSW, HOW, HMW, HRW⟩ := hrel
                    clear HM HW HO6 HH HB5 HO5
                    by_cases hlt : kk < y.length
                    · have hltz : (kk : Int) < (y.length : Int) := by omega
                      obtain ⟨ad, he, hy0, hy1⟩ := at_T49 (Kd.R_reads' HOW.out).2.2 (kk : Int) (by omega) hltz
                      cases he
                      have hrd : rd_T49 y (kk : Int) = y[kk] := by unfold rd_T49; simp [List.getD_eq_getElem?_getD, hlt]
                      rw [hrd, Int.toNat_natCast] at hy0 hy1
                      have hks := HSZ.out y[kk] (List.getElem_mem hlt)
                      have HKS := Aside0.mk (Nat.le_trans hks (show 1000 ≤ maxLen by decide))
                      have hst : (y.take (kk + 1)).map S49.f0 = (y.take kk).map S49.f0 ++ [y[kk].f0] := by rw [List.take_succ_eq_append_getElem hlt, List.map_append]; rfl
                      have hdr : y.drop kk = y[kk] :: y.drop (kk + 1) := List.drop_eq_getElem_cons hlt
                      have HRX := HRW.out
                      rw [hdr] at HRX
                      unfold xapart at HRX
                      have HRX := Aside0.mk HRX
                      have HST := Aside0.mk hst
                      clear hrd hks hst hdr HRW
                      generalize y[kk] = xx at *
                      have HMA := Aside0.mk (show (wr.alloc (.cells #[.string xx.f0, .string xx.f1] 49)).ownsMap (H := Unit) Try.prog 9 (plainElem Try.prog 4) w4.heap.size kk (xset ((y.take kk).map S49.f0)) from HMW.out.alloc _)
                      have hkm : kk < maxLen := Nat.lt_of_lt_of_le (Nat.lt_trans hlt HYL.out) (by decide)
                      cases hin : xin xx.f0 ((y.take kk).map S49.f0) with
                      | true =>
                        obtain rfl : false = r := by have z := HRX.out; rw [if_pos hin] at z; exact z
                        go_wp2_with (at_lookup; refine xlookup_set _ rfl _ _ 55 rfl 9 4 (Go.Maps.string_keyed Try.underlying9) Try.underlying9 Try.underlying55 Try.underlying4 (xzeroB _) w4.heap.size kk ((y.take kk).map S49.f0) rfl HMA.out xx.f0 rfl HKS.out ?_; rw [hin])
                        refine bodyPost_ret (v := .bool false) (results_tmp (fn := Try.f15) (t := 2) rfl _ _ _) rfl ?_
                        exact ⟨rfl, (by repeat (first | exact HBW.out | apply below_drew1 | apply pw_below_drewN | apply below_alloc))⟩
                      | false =>
                        have HRF : Aside0 (xapart ((y.take (kk + 1)).map S49.f0) (y.drop (kk + 1)) = r) := ⟨by have z := HRX.out; rw [if_neg (by rw [hin]; decide)] at z; rw [HST.out]; exact z⟩
                        go_wp2_with (first
                          | (at_lookup; refine xlookup_set _ rfl _ _ 55 rfl 9 4 (Go.Maps.string_keyed Try.underlying9) Try.underlying9 Try.underlying55 Try.underlying4 (xzeroB _) w4.heap.size kk ((y.take kk).map S49.f0) rfl HMA.out xx.f0 rfl HKS.out ?_; rw [hin])
                          | (at_mapUpdate; refine wpList_mapUpdate_own _ rfl _ _ _ 55 rfl 9 4 (Go.Maps.string_keyed Try.underlying9) Try.underlying55 _ w4.heap.size kk _ rfl HMA.out hkm _ _ _ rfl rfl (WideMaps.keyOf_string_mk Try.underlying9 HKS.out) _ [] (plainElem_bool Try.underlying4 true) ?_; intro w6 hown6 hgrow6; have HM6 := Aside0.mk hown6; have HG6 := Aside0.mk hgrow6; clear hown6 hgrow6))
                        have hw : wrap64 ((kk : Int) + 1) = ((kk + 1 : Nat) : Int) := by have hyl := HYL.out; unfold wrap64; omega
                        go_roundg (y.length - (kk + 1))
                        case measure => omega
                        case rel =>
                          refine ⟨kk + 1, by omega, by omega, by first | (rw [hw]; done) | (simp [hw]; done) | go_num, ⟨?_⟩, ⟨?_⟩, ⟨?_⟩, ⟨?_⟩, HRF⟩
                          · exact (below_alloc HBW.out _).grown HG6.out (by have z := HBW.out.size; simp; omega) (fun k hk => by cases hk; have z := HX4.out.size; simp at z; omega)
                          · have z := HG6.out.size; have z2 := HSW.out; simp at z; omega
                          · exact Kd.R_grown (Kd.R_alloc HOW.out _) HG6.out (fun k hk e => by cases e; exact hk.2 rfl)
                          · rw [HST.out, xset_snoc]; exact HM6.out
                    · have hlt2 : ¬ (kk : Int) < (y.length : Int) := by omega
                      obtain rfl : true = r := by have z := HRW.out; rw [List.drop_of_length_le (by omega)] at z; exact z
                      clear HRW
                      go_wp2
                      go_ret
                      exact ⟨rfl, (by repeat (first | exact HBW.out | apply below_drew1 | apply pw_below_drewN | apply below_alloc))⟩
                · rw [if_neg hsz] at h; cases h
              · rw [if_neg hlen] at h; cases h

/-! ### laws_FnExactGoodSegmented: function 4 -/
def laws_FnExactGoodSegmented.f (k : Nat) (a0_0 : Int) (a0_1 : Int) (l0_2 : List (S63)) (l0_3 : List (S63)) : Option (Bool) := (laws_szSegmented.f k a0_0 a0_1 l0_2 l0_3 1048576).bind fun t167 => (if t167 < 0 then (some true) else ((laws_toSegmented.f k a0_0 a0_1 l0_2 l0_3).bind fun bt168 => ((spec_GoodSegmented.f k bt168.1 bt168.2.1 bt168.2.2.1 bt168.2.2.2).bind fun t176 => ((laws_toSegmented.f k a0_0 a0_1 l0_2 l0_3).bind fun bt177 => ((impl_GoodSegmented.f k bt177.1 bt177.2.1 bt177.2.2.1 bt177.2.2.2).bind fun t186 => (if (t186 != t176) = true then (some false) else ((laws_toSegmented.f k a0_0 a0_1 l0_2 l0_3).bind fun bt187 => ((laws_eqSegmented.f k bt177.1 bt177.2.1 bt177.2.2.1 bt177.2.2.2 bt187.1 bt187.2.1 bt187.2.2.1 bt187.2.2.2).bind fun t195 => (if t195 = true then (some true) else (some false))))))))))
theorem laws_FnExactGoodSegmented.mono : ∀ a0 a1 a2 a3 k, LeO (laws_FnExactGoodSegmented.f k a0 a1 a2 a3) (laws_FnExactGoodSegmented.f (k + 1) a0 a1 a2 a3) := by
  intro a0 a1 a2 a3 k
  unfold laws_FnExactGoodSegmented.f
  repeat' first
      | (with_reducible exact impl_GoodSegmented.mono _ _ _ _ _)
      | (with_reducible exact laws_eqSegmented.mono _ _ _ _ _ _ _ _ _)
      | (with_reducible exact laws_szSegmented.mono _ _ _ _ _ _)
      | (with_reducible exact laws_toSegmented.mono _ _ _ _ _)
      | (with_reducible exact spec_GoodSegmented.mono _ _ _ _ _)
      | (with_reducible exact LeO.refl _)
      | (with_reducible exact LeO.none _)
      | (with_reducible refine LeO.ite ?_ ?_)
      | (with_reducible refine LeO.bind ?_ (fun _ => ?_))
      | exact impl_GoodSegmented.mono _ _ _ _ _
      | exact laws_eqSegmented.mono _ _ _ _ _ _ _ _ _
      | exact laws_szSegmented.mono _ _ _ _ _ _
      | exact laws_toSegmented.mono _ _ _ _ _
      | exact spec_GoodSegmented.mono _ _ _ _ _
      | exact LeO.none _
      | refine LeO.ite ?_ ?_
      | refine LeO.bind ?_ (fun _ => ?_)
set_option maxHeartbeats 8000000 in
set_option maxRecDepth 100000 in
theorem laws_FnExactGoodSegmented.calls (k : Nat) (a0_0 : Int) (a0_1 : Int) (A0_2 : Option Addr) (c0_2 : Nat) (l0_2 : List (S63)) (A0_3 : Option Addr) (c0_3 : Nat) (l0_3 : List (S63)) (r : Bool) (w : World) (hr0_2 : Kd.C k63 w A0_2 l0_2.length l0_2) (hc0_2 : l0_2.length ≤ c0_2) (hr0_3 : Kd.C k63 w A0_3 l0_3.length l0_3) (hc0_3 : l0_3.length ≤ c0_3) (h : laws_FnExactGoodSegmented.f k a0_0 a0_1 l0_2 l0_3 = some r) :
    Calls Try.prog 4 #[.agg #[.int .i64 a0_0, .int .i64 a0_1, .slice A0_2 l0_2.length c0_2, .slice A0_3 l0_3.length c0_3]] w fun e w' => e = .returned (.bool r) ∧ Below w.heap.size w w' := by
  have hu32 := Try.underlying32
  have hu24 := Try.underlying24
  have HR0_2 := Aside0.mk hr0_2
  have HC0_2 := Aside0.mk hc0_2
  clear hr0_2 hc0_2
  have HR0_3 := Aside0.mk hr0_3
  have HC0_3 := Aside0.mk hc0_3
  clear hr0_3 hc0_3
  have HB := Aside0.mk (Below.refl w.heap.size w)
  have H : ((laws_szSegmented.f k a0_0 a0_1 l0_2 l0_3 1048576).bind fun t167 => (if t167 < 0 then (some true) else ((laws_toSegmented.f k a0_0 a0_1 l0_2 l0_3).bind fun bt168 => ((spec_GoodSegmented.f k bt168.1 bt168.2.1 bt168.2.2.1 bt168.2.2.2).bind fun t176 => ((laws_toSegmented.f k a0_0 a0_1 l0_2 l0_3).bind fun bt177 => ((impl_GoodSegmented.f k bt177.1 bt177.2.1 bt177.2.2.1 bt177.2.2.2).bind fun t186 => (if (t186 != t176) = true then (some false) else ((laws_toSegmented.f k a0_0 a0_1 l0_2 l0_3).bind fun bt187 => ((laws_eqSegmented.f k bt177.1 bt177.2.1 bt177.2.2.1 bt177.2.2.2 bt187.1 bt187.2.1 bt187.2.2.1 bt187.2.2.2).bind fun t195 => (if t195 = true then (some true) else (some false))))))))))) = some r := h
  clear h
  replace H := Option.bind_eq_some_iff.mp H
  obtain ⟨t167, A20, H⟩ := H
  replace H : (if t167 < 0 then (some true) else ((laws_toSegmented.f k a0_0 a0_1 l0_2 l0_3).bind fun bt168 => ((spec_GoodSegmented.f k bt168.1 bt168.2.1 bt168.2.2.1 bt168.2.2.2).bind fun t176 => ((laws_toSegmented.f k a0_0 a0_1 l0_2 l0_3).bind fun bt177 => ((impl_GoodSegmented.f k bt177.1 bt177.2.1 bt177.2.2.1 bt177.2.2.2).bind fun t186 => (if (t186 != t176) = true then (some false) else ((laws_toSegmented.f k a0_0 a0_1 l0_2 l0_3).bind fun bt187 => ((laws_eqSegmented.f k bt177.1 bt177.2.1 bt177.2.2.1 bt177.2.2.2 bt187.1 bt187.2.1 bt187.2.2.1 bt187.2.2.2).bind fun t195 => (if t195 = true then (some true) else (some false)))))))))) = some r := H
  have A2 := Aside0.mk A20
  clear A20
  by_cases c3 : t167 < 0
  · rw [if_pos c3] at H
    have c3b0 : decide (t167 < 0) = true := decide_eq_true c3
    clear c3
    obtain rfl := Option.some.inj H
    go_enter Try.func4, Try.ntmps4
    go_wp2_with (first | ((with_reducible refine gate_dst (N := 1) rfl ?_); refine box_event ?hg (N := 1) ?hd (cs := #[.int .i64 a0_0, .int .i64 a0_1, .slice A0_2 l0_2.length c0_2, .slice A0_3 l0_3.length c0_3]) (t := 32) ?hr ?_; (case hd => rfl); (case hg => rfl); (case hr => first | (go_simp; done) | (go_simp; rfl)); intro gb166 hg w4 hbox hb; have n0_ := Aside0.mk (below_step (by repeat (first | (with_reducible first | exact HB.out | apply below_alloc | apply pw_below_drewN | apply below_drew1) | exact HB.out)) hb); have n1_ := Aside0.mk (hbox); have n2_ := Aside0.mk ((by rw [hg]; exact (below_size (by repeat (first | (with_reducible first | exact HB.out | apply below_alloc | apply pw_below_drewN | apply below_drew1) | exact HB.out))) : w.heap.size ≤ gb166)); have n3_ := Aside0.mk ((by rw [hg]; exact (below_size (by repeat (first | (with_reducible first | exact HB.out | apply below_alloc | apply pw_below_drewN | apply below_drew1) | exact HB.out))) : w.heap.size ≤ gb166)); clear HB; have HB := n0_; have BK166 := n1_; have GW166 := n2_; have GE166 := n3_; clear n0_ n1_ n2_ n3_; clear hb hbox hg; have hcz5_0 : w4.cell? ⟨gb166, 0, none⟩ = some (.int .i64 a0_0) := (blk_cell BK166.out 0).trans rfl; have hcz5_1 : w4.cell? ⟨gb166, 1, none⟩ = some (.int .i64 a0_1) := (blk_cell BK166.out 1).trans rfl; have hcz5_2 : w4.cell? ⟨gb166, 2, none⟩ = some (.slice A0_2 l0_2.length c0_2) := (blk_cell BK166.out 2).trans rfl; have hcz5_3 : w4.cell? ⟨gb166, 3, none⟩ = some (.slice A0_3 l0_3.length c0_3) := (blk_cell BK166.out 3).trans rfl; have hfz5_0 := blk_frozen BK166.out 0; have hfz5_1 := blk_frozen BK166.out 1; have hfz5_2 := blk_frozen BK166.out 2; have hfz5_3 := blk_frozen BK166.out 3) | ((with_reducible refine gate_callee (f := 12) rfl ?_); refine goesL_ (some 9) rfl rfl Try.func12 (by kernel_rfl) rfl #[.agg #[.int .i64 a0_0, .int .i64 a0_1, .slice A0_2 l0_2.length c0_2, .slice A0_3 l0_3.length c0_3], .int .i64 1048576] rfl (by (try simp only [List.map_toArray, List.map_cons, List.map_nil]); first | done | rfl | (simp only [List.length_drop, List.length_take]; rfl)) ?_; (with_reducible refine (laws_szSegmented.calls k a0_0 a0_1 _ _ l0_2 _ _ l0_3 1048576 t167 _ ?side1 ?side2 ?side3 ?side4 A2.out).mono ?_); (case side1 => repeat (first | exact (Kd.C_below HR0_2.out HB.out) | (with_reducible refine Kd.C_alloc ?_ _) | (with_reducible refine Kd.C_drewN ?_ _) | (with_reducible refine Kd.C_drew ?_))); (case side2 => exact HC0_2.out); (case side3 => repeat (first | exact (Kd.C_below HR0_3.out HB.out) | (with_reducible refine Kd.C_alloc ?_ _) | (with_reducible refine Kd.C_drewN ?_ _) | (with_reducible refine Kd.C_drew ?_))); (case side4 => exact HC0_3.out); rintro e w6 ⟨rfl, hb⟩; refine ⟨_, rfl, ?_⟩; have n0_ := Aside0.mk (blk_below (g := gb166) (o := .cells #[.int .i64 a0_0, .int .i64 a0_1, .slice A0_2 l0_2.length c0_2, .slice A0_3 l0_3.length c0_3] 32 (0, 0)) (by (with_reducible repeat (first | refine blk_drewN ?_ _ | refine blk_drew ?_ | refine blk_alloc ?_ _)); exact BK166.out) hb); have n1_ := Aside0.mk (below_step (by repeat (first | (with_reducible first | exact HB.out | apply below_alloc | apply pw_below_drewN | apply below_drew1 | refine below_set ?_ GE166.out) | exact HB.out)) hb); clear BK166; clear HB; have BK166 := n0_; have HB := n1_; clear n0_ n1_; (try clear hb); (try clear hb2); (try clear hk); (try clear hi)))
    go_ret
    exact ⟨by first | rfl | (simp [errW_none, errW_some] <;> rfl) | (simp [*, errW_none, errW_some] <;> rfl), by repeat (first | (with_reducible first | exact HB.out | apply below_alloc | apply pw_below_drewN | apply below_drew1 | refine below_set ?_ GE166.out) | exact HB.out)⟩
  · rw [if_neg c3] at H
    have c3b0 : decide (t167 < 0) = false := decide_eq_false c3
    clear c3
    replace H := Option.bind_eq_some_iff.mp H
    obtain ⟨⟨t168, t169, t170, t173⟩, A70, H⟩ := H
    replace H : ((spec_GoodSegmented.f k t168 t169 t170 t173).bind fun t176 => ((laws_toSegmented.f k a0_0 a0_1 l0_2 l0_3).bind fun bt177 => ((impl_GoodSegmented.f k bt177.1 bt177.2.1 bt177.2.2.1 bt177.2.2.2).bind fun t186 => (if (t186 != t176) = true then (some false) else ((laws_toSegmented.f k a0_0 a0_1 l0_2 l0_3).bind fun bt187 => ((laws_eqSegmented.f k bt177.1 bt177.2.1 bt177.2.2.1 bt177.2.2.2 bt187.1 bt187.2.1 bt187.2.2.1 bt187.2.2.2).bind fun t195 => (if t195 = true then (some true) else (some false)))))))) = some r := H
    have A7 := Aside0.mk A70
    clear A70
    replace H := Option.bind_eq_some_iff.mp H
    obtain ⟨t176, A80, H⟩ := H
    replace H : ((laws_toSegmented.f k a0_0 a0_1 l0_2 l0_3).bind fun bt177 => ((impl_GoodSegmented.f k bt177.1 bt177.2.1 bt177.2.2.1 bt177.2.2.2).bind fun t186 => (if (t186 != t176) = true then (some false) else ((laws_toSegmented.f k a0_0 a0_1 l0_2 l0_3).bind fun bt187 => ((laws_eqSegmented.f k bt177.1 bt177.2.1 bt177.2.2.1 bt177.2.2.2 bt187.1 bt187.2.1 bt187.2.2.1 bt187.2.2.2).bind fun t195 => (if t195 = true then (some true) else (some false))))))) = some r := H
    have A8 := Aside0.mk A80
    clear A80
    replace H := Option.bind_eq_some_iff.mp H
    obtain ⟨⟨t177, t178, t179, t182⟩, A90, H⟩ := H
    replace H : ((impl_GoodSegmented.f k t177 t178 t179 t182).bind fun t186 => (if (t186 != t176) = true then (some false) else ((laws_toSegmented.f k a0_0 a0_1 l0_2 l0_3).bind fun bt187 => ((laws_eqSegmented.f k t177 t178 t179 t182 bt187.1 bt187.2.1 bt187.2.2.1 bt187.2.2.2).bind fun t195 => (if t195 = true then (some true) else (some false)))))) = some r := H
    have A9 := Aside0.mk A90
    clear A90
    replace H := Option.bind_eq_some_iff.mp H
    obtain ⟨t186, A100, H⟩ := H
    replace H : (if (t186 != t176) = true then (some false) else ((laws_toSegmented.f k a0_0 a0_1 l0_2 l0_3).bind fun bt187 => ((laws_eqSegmented.f k t177 t178 t179 t182 bt187.1 bt187.2.1 bt187.2.2.1 bt187.2.2.2).bind fun t195 => (if t195 = true then (some true) else (some false))))) = some r := H
    have A10 := Aside0.mk A100
    clear A100
    by_cases c11 : (t186 != t176) = true
    · rw [if_pos c11] at H
      have c11b0 : (t186 != t176) = true := c11
      (try (have c11b1 : decide (t186 = t176) = false := by simpa using c11))
      (try (have c11b2 : (t186 == t176) = false := by simpa using c11))
      (try (have c11b3 : ¬ (t186 = t176) := by simpa using c11))
      clear c11
      obtain rfl := Option.some.inj H
      go_enter Try.func4, Try.ntmps4
      go_wp2_with (first | ((with_reducible refine gate_dst (N := 1) rfl ?_); refine box_event ?hg (N := 1) ?hd (cs := #[.int .i64 a0_0, .int .i64 a0_1, .slice A0_2 l0_2.length c0_2, .slice A0_3 l0_3.length c0_3]) (t := 32) ?hr ?_; (case hd => rfl); (case hg => rfl); (case hr => first | (go_simp; done) | (go_simp; rfl)); intro gb166 hg w12 hbox hb; have n0_ := Aside0.mk (below_step (by repeat (first | (with_reducible first | exact HB.out | apply below_alloc | apply pw_below_drewN | apply below_drew1) | exact HB.out)) hb); have n1_ := Aside0.mk (hbox); have n2_ := Aside0.mk ((by rw [hg]; exact (below_size (by repeat (first | (with_reducible first | exact HB.out | apply below_alloc | apply pw_below_drewN | apply below_drew1) | exact HB.out))) : w.heap.size ≤ gb166)); have n3_ := Aside0.mk ((by rw [hg]; exact (below_size (by repeat (first | (with_reducible first | exact HB.out | apply below_alloc | apply pw_below_drewN | apply below_drew1) | exact HB.out))) : w.heap.size ≤ gb166)); clear HB; have HB := n0_; have BK166 := n1_; have GW166 := n2_; have GE166 := n3_; clear n0_ n1_ n2_ n3_; clear hb hbox hg; have hcz13_0 : w12.cell? ⟨gb166, 0, none⟩ = some (.int .i64 a0_0) := (blk_cell BK166.out 0).trans rfl; have hcz13_1 : w12.cell? ⟨gb166, 1, none⟩ = some (.int .i64 a0_1) := (blk_cell BK166.out 1).trans rfl; have hcz13_2 : w12.cell? ⟨gb166, 2, none⟩ = some (.slice A0_2 l0_2.length c0_2) := (blk_cell BK166.out 2).trans rfl; have hcz13_3 : w12.cell? ⟨gb166, 3, none⟩ = some (.slice A0_3 l0_3.length c0_3) := (blk_cell BK166.out 3).trans rfl; have hfz13_0 := blk_frozen BK166.out 0; have hfz13_1 := blk_frozen BK166.out 1; have hfz13_2 := blk_frozen BK166.out 2; have hfz13_3 := blk_frozen BK166.out 3) | ((with_reducible refine gate_callee (f := 12) rfl ?_); refine goesL_ (some 9) rfl rfl Try.func12 (by kernel_rfl) rfl #[.agg #[.int .i64 a0_0, .int .i64 a0_1, .slice A0_2 l0_2.length c0_2, .slice A0_3 l0_3.length c0_3], .int .i64 1048576] rfl (by (try simp only [List.map_toArray, List.map_cons, List.map_nil]); first | done | rfl | (simp only [List.length_drop, List.length_take]; rfl)) ?_; (with_reducible refine (laws_szSegmented.calls k a0_0 a0_1 _ _ l0_2 _ _ l0_3 1048576 t167 _ ?side1 ?side2 ?side3 ?side4 A2.out).mono ?_); (case side1 => repeat (first | exact (Kd.C_below HR0_2.out HB.out) | (with_reducible refine Kd.C_alloc ?_ _) | (with_reducible refine Kd.C_drewN ?_ _) | (with_reducible refine Kd.C_drew ?_))); (case side2 => exact HC0_2.out); (case side3 => repeat (first | exact (Kd.C_below HR0_3.out HB.out) | (with_reducible refine Kd.C_alloc ?_ _) | (with_reducible refine Kd.C_drewN ?_ _) | (with_reducible refine Kd.C_drew ?_))); (case side4 => exact HC0_3.out); rintro e w14 ⟨rfl, hb⟩; refine ⟨_, rfl, ?_⟩; have n0_ := Aside0.mk (blk_below (g := gb166) (o := .cells #[.int .i64 a0_0, .int .i64 a0_1, .slice A0_2 l0_2.length c0_2, .slice A0_3 l0_3.length c0_3] 32 (0, 0)) (by (with_reducible repeat (first | refine blk_drewN ?_ _ | refine blk_drew ?_ | refine blk_alloc ?_ _)); exact BK166.out) hb); have n1_ := Aside0.mk (below_step (by repeat (first | (with_reducible first | exact HB.out | apply below_alloc | apply pw_below_drewN | apply below_drew1 | refine below_set ?_ GE166.out) | exact HB.out)) hb); clear BK166; clear HB; have BK166 := n0_; have HB := n1_; clear n0_ n1_; (try clear hb); (try clear hb2); (try clear hk); (try clear hi); have hcz15_0 : w14.cell? ⟨gb166, 0, none⟩ = some (.int .i64 a0_0) := (blk_cell BK166.out 0).trans rfl; have hcz15_1 : w14.cell? ⟨gb166, 1, none⟩ = some (.int .i64 a0_1) := (blk_cell BK166.out 1).trans rfl; have hcz15_2 : w14.cell? ⟨gb166, 2, none⟩ = some (.slice A0_2 l0_2.length c0_2) := (blk_cell BK166.out 2).trans rfl; have hcz15_3 : w14.cell? ⟨gb166, 3, none⟩ = some (.slice A0_3 l0_3.length c0_3) := (blk_cell BK166.out 3).trans rfl; have hfz15_0 := blk_frozen BK166.out 0; have hfz15_1 := blk_frozen BK166.out 1; have hfz15_2 := blk_frozen BK166.out 2; have hfz15_3 := blk_frozen BK166.out 3) | ((with_reducible refine gate_callee (f := 14) rfl ?_); refine goesL_ (some 13) rfl rfl Try.func14 (by kernel_rfl) rfl #[.agg #[.int .i64 a0_0, .int .i64 a0_1, .slice A0_2 l0_2.length c0_2, .slice A0_3 l0_3.length c0_3]] rfl (by (try simp only [List.map_toArray, List.map_cons, List.map_nil]); first | done | rfl | (simp only [List.length_drop, List.length_take]; rfl)) ?_; (with_reducible refine (laws_toSegmented.calls k a0_0 a0_1 _ _ l0_2 _ _ l0_3 t168 t169 t170 t173 _ ?side1 ?side2 ?side3 ?side4 A7.out).mono ?_); (case side1 => repeat (first | exact (Kd.C_below HR0_2.out HB.out) | (with_reducible refine Kd.C_alloc ?_ _) | (with_reducible refine Kd.C_drewN ?_ _) | (with_reducible refine Kd.C_drew ?_))); (case side2 => exact HC0_2.out); (case side3 => repeat (first | exact (Kd.C_below HR0_3.out HB.out) | (with_reducible refine Kd.C_alloc ?_ _) | (with_reducible refine Kd.C_drewN ?_ _) | (with_reducible refine Kd.C_drew ?_))); (case side4 => exact HC0_3.out); rintro e w16 ⟨v171, v174, rfl, ho0, ho1, hb⟩; refine ⟨_, rfl, ?_⟩; have n0_ := Aside0.mk (Kd.R_lower ho0 (below_size (by repeat (first | (with_reducible first | exact HB.out | apply below_alloc | apply pw_below_drewN | apply below_drew1 | refine below_set ?_ GE166.out) | exact HB.out)))); have n1_ := Aside0.mk (Kd.R_lower ho1 (below_size (by repeat (first | (with_reducible first | exact HB.out | apply below_alloc | apply pw_below_drewN | apply below_drew1 | refine below_set ?_ GE166.out) | exact HB.out)))); have n2_ := Aside0.mk (blk_below (g := gb166) (o := .cells #[.int .i64 a0_0, .int .i64 a0_1, .slice A0_2 l0_2.length c0_2, .slice A0_3 l0_3.length c0_3] 32 (0, 0)) (by (with_reducible repeat (first | refine blk_drewN ?_ _ | refine blk_drew ?_ | refine blk_alloc ?_ _)); exact BK166.out) hb); have n3_ := Aside0.mk (below_step (by repeat (first | (with_reducible first | exact HB.out | apply below_alloc | apply pw_below_drewN | apply below_drew1 | refine below_set ?_ GE166.out) | exact HB.out)) hb); clear BK166; clear HB; have HO172 := n0_; have HO175 := n1_; have BK166 := n2_; have HB := n3_; clear n0_ n1_ n2_ n3_; (try clear hb); (try clear hb2); (try clear hk); (try clear hi); (try clear ho0); (try clear ho1); obtain ⟨Ao17, co17, eo17⟩ := Kd.R_slice HO172.out; subst eo17; obtain ⟨Ao18, co18, eo18⟩ := Kd.R_slice HO175.out; subst eo18) | ((with_reducible refine gate_callee (f := 13) rfl ?_); refine goesL_ (some 14) rfl rfl Try.func13 (by kernel_rfl) rfl #[.agg #[.int .i64 t168, .int .i64 t169, .slice Ao17 t170.length co17, .slice Ao18 t173.length co18]] rfl (by (try simp only [List.map_toArray, List.map_cons, List.map_nil]); first | done | rfl | (simp only [List.length_drop, List.length_take]; rfl)) ?_; (with_reducible refine (spec_GoodSegmented.calls k t168 t169 _ _ t170 _ _ t173 t176 _ ?side1 ?side2 ?side3 ?side4 A8.out).mono ?_); (case side1 => repeat (first | exact (Kd.R_reads' HO172.out).2.2 | (with_reducible refine Kd.C_alloc ?_ _) | (with_reducible refine Kd.C_drewN ?_ _) | (with_reducible refine Kd.C_drew ?_))); (case side2 => exact (Kd.R_reads' HO172.out).2.1); (case side3 => repeat (first | exact (Kd.R_reads' HO175.out).2.2 | (with_reducible refine Kd.C_alloc ?_ _) | (with_reducible refine Kd.C_drewN ?_ _) | (with_reducible refine Kd.C_drew ?_))); (case side4 => exact (Kd.R_reads' HO175.out).2.1); rintro e w19 ⟨rfl, hb⟩; refine ⟨_, rfl, ?_⟩; have n0_ := Aside0.mk (Kd.R_below (by (with_reducible repeat (first | apply Kd.R_alloc | apply Kd.R_drewN | apply Kd.R_drew)); exact HO172.out) hb); have n1_ := Aside0.mk (Kd.R_below (by (with_reducible repeat (first | apply Kd.R_alloc | apply Kd.R_drewN | apply Kd.R_drew)); exact HO175.out) hb); have n2_ := Aside0.mk (blk_below (g := gb166) (o := .cells #[.int .i64 a0_0, .int .i64 a0_1, .slice A0_2 l0_2.length c0_2, .slice A0_3 l0_3.length c0_3] 32 (0, 0)) (by (with_reducible repeat (first | refine blk_drewN ?_ _ | refine blk_drew ?_ | refine blk_alloc ?_ _)); exact BK166.out) hb); have n3_ := Aside0.mk (below_step (by repeat (first | (with_reducible first | exact HB.out | apply below_alloc | apply pw_below_drewN | apply below_drew1 | refine below_set ?_ GE166.out) | exact HB.out)) hb); clear HO172; clear HO175; clear BK166; clear HB; have HO172 := n0_; have HO175 := n1_; have BK166 := n2_; have HB := n3_; clear n0_ n1_ n2_ n3_; (try clear hb); (try clear hb2); (try clear hk); (try clear hi); have hcz20_0 : w19.cell? ⟨gb166, 0, none⟩ = some (.int .i64 a0_0) := (blk_cell BK166.out 0).trans rfl; have hcz20_1 : w19.cell? ⟨gb166, 1, none⟩ = some (.int .i64 a0_1) := (blk_cell BK166.out 1).trans rfl; have hcz20_2 : w19.cell? ⟨gb166, 2, none⟩ = some (.slice A0_2 l0_2.length c0_2) := (blk_cell BK166.out 2).trans rfl; have hcz20_3 : w19.cell? ⟨gb166, 3, none⟩ = some (.slice A0_3 l0_3.length c0_3) := (blk_cell BK166.out 3).trans rfl; have hfz20_0 := blk_frozen BK166.out 0; have hfz20_1 := blk_frozen BK166.out 1; have hfz20_2 := blk_frozen BK166.out 2; have hfz20_3 := blk_frozen BK166.out 3) | ((with_reducible refine gate_callee (f := 14) rfl ?_); refine goesL_ (some 16) rfl rfl Try.func14 (by kernel_rfl) rfl #[.agg #[.int .i64 a0_0, .int .i64 a0_1, .slice A0_2 l0_2.length c0_2, .slice A0_3 l0_3.length c0_3]] rfl (by (try simp only [List.map_toArray, List.map_cons, List.map_nil]); first | done | rfl | (simp only [List.length_drop, List.length_take]; rfl)) ?_; (with_reducible refine (laws_toSegmented.calls k a0_0 a0_1 _ _ l0_2 _ _ l0_3 t177 t178 t179 t182 _ ?side1 ?side2 ?side3 ?side4 A9.out).mono ?_); (case side1 => repeat (first | exact (Kd.C_below HR0_2.out HB.out) | (with_reducible refine Kd.C_alloc ?_ _) | (with_reducible refine Kd.C_drewN ?_ _) | (with_reducible refine Kd.C_drew ?_))); (case side2 => exact HC0_2.out); (case side3 => repeat (first | exact (Kd.C_below HR0_3.out HB.out) | (with_reducible refine Kd.C_alloc ?_ _) | (with_reducible refine Kd.C_drewN ?_ _) | (with_reducible refine Kd.C_drew ?_))); (case side4 => exact HC0_3.out); rintro e w21 ⟨v180, v183, rfl, ho0, ho1, hb⟩; refine ⟨_, rfl, ?_⟩; have n0_ := Aside0.mk (Kd.R_mono (Kd.R_told (Kd.R_told (Kd.R_old (by (with_reducible repeat (first | apply Kd.R_alloc | apply Kd.R_drewN | apply Kd.R_drew)); exact HO172.out) hb) (Kd.R_base ho0)) (Kd.R_base ho1)) (fun _ h_ => h_.1)); have n1_ := Aside0.mk (Kd.R_mono (Kd.R_told (Kd.R_told (Kd.R_old (by (with_reducible repeat (first | apply Kd.R_alloc | apply Kd.R_drewN | apply Kd.R_drew)); exact HO175.out) hb) (Kd.R_base ho0)) (Kd.R_base ho1)) (fun _ h_ => h_.1)); have n2_ := Aside0.mk (Kd.R_lower (Kd.R_new' (Kd.R_new' ho0 (Kd.R_lt (by (with_reducible repeat (first | apply Kd.R_alloc | apply Kd.R_drewN | apply Kd.R_drew)); exact HO172.out))) (Kd.R_lt (by (with_reducible repeat (first | apply Kd.R_alloc | apply Kd.R_drewN | apply Kd.R_drew)); exact HO175.out))) (below_size (by repeat (first | (with_reducible first | exact HB.out | apply below_alloc | apply pw_below_drewN | apply below_drew1 | refine below_set ?_ GE166.out) | exact HB.out)))); have n3_ := Aside0.mk (Kd.R_lower (Kd.R_new' (Kd.R_new' ho1 (Kd.R_lt (by (with_reducible repeat (first | apply Kd.R_alloc | apply Kd.R_drewN | apply Kd.R_drew)); exact HO172.out))) (Kd.R_lt (by (with_reducible repeat (first | apply Kd.R_alloc | apply Kd.R_drewN | apply Kd.R_drew)); exact HO175.out))) (below_size (by repeat (first | (with_reducible first | exact HB.out | apply below_alloc | apply pw_below_drewN | apply below_drew1 | refine below_set ?_ GE166.out) | exact HB.out)))); have n4_ := Aside0.mk (blk_below (g := gb166) (o := .cells #[.int .i64 a0_0, .int .i64 a0_1, .slice A0_2 l0_2.length c0_2, .slice A0_3 l0_3.length c0_3] 32 (0, 0)) (by (with_reducible repeat (first | refine blk_drewN ?_ _ | refine blk_drew ?_ | refine blk_alloc ?_ _)); exact BK166.out) hb); have n5_ := Aside0.mk (below_step (by repeat (first | (with_reducible first | exact HB.out | apply below_alloc | apply pw_below_drewN | apply below_drew1 | refine below_set ?_ GE166.out) | exact HB.out)) hb); clear HO172; clear HO175; clear BK166; clear HB; have HO172 := n0_; have HO175 := n1_; have HO181 := n2_; have HO184 := n3_; have BK166 := n4_; have HB := n5_; clear n0_ n1_ n2_ n3_ n4_ n5_; (try clear hb); (try clear hb2); (try clear hk); (try clear hi); (try clear ho0); (try clear ho1)) | ((with_reducible refine gate_dst (N := 5) rfl ?_); refine box_event ?hg (N := 5) ?hd (cs := #[.int .i64 0, .int .i64 0, .slice none 0 0, .slice none 0 0]) (t := 24) ?hr ?_; (case hd => rfl); (case hg => rfl); (case hr => first | (go_simp; done) | (go_simp; rfl)); intro gb185 hg w22 hbox hb; have n0_ := Aside0.mk (Kd.R_below (by (with_reducible repeat (first | apply Kd.R_alloc | apply Kd.R_drewN | apply Kd.R_drew)); exact HO172.out) hb); have n1_ := Aside0.mk (Kd.R_below (by (with_reducible repeat (first | apply Kd.R_alloc | apply Kd.R_drewN | apply Kd.R_drew)); exact HO175.out) hb); have n2_ := Aside0.mk (Kd.R_below (by (with_reducible repeat (first | apply Kd.R_alloc | apply Kd.R_drewN | apply Kd.R_drew)); exact HO181.out) hb); have n3_ := Aside0.mk (Kd.R_below (by (with_reducible repeat (first | apply Kd.R_alloc | apply Kd.R_drewN | apply Kd.R_drew)); exact HO184.out) hb); have n4_ := Aside0.mk (blk_below (g := gb166) (o := .cells #[.int .i64 a0_0, .int .i64 a0_1, .slice A0_2 l0_2.length c0_2, .slice A0_3 l0_3.length c0_3] 32 (0, 0)) (by (with_reducible repeat (first | refine blk_drewN ?_ _ | refine blk_drew ?_ | refine blk_alloc ?_ _)); exact BK166.out) hb); have n5_ := Aside0.mk (below_step (by repeat (first | (with_reducible first | exact HB.out | apply below_alloc | apply pw_below_drewN | apply below_drew1 | refine below_set ?_ GE166.out) | exact HB.out)) hb); have n6_ := Aside0.mk (hbox); have n7_ := Aside0.mk ((by rw [hg]; exact (below_size (by repeat (first | (with_reducible first | exact HB.out | apply below_alloc | apply pw_below_drewN | apply below_drew1 | refine below_set ?_ GE166.out) | exact HB.out))) : w.heap.size ≤ gb185)); have n8_ := Aside0.mk ((by rw [hg]; exact (below_size (by repeat (first | (with_reducible first | exact HB.out | apply below_alloc | apply pw_below_drewN | apply below_drew1 | refine below_set ?_ GE166.out) | exact HB.out))) : w.heap.size ≤ gb185)); have n9_ := Aside0.mk ((by rw [hg]; exact Nat.ne_of_lt (blk_lt (g := gb166) (o := .cells #[.int .i64 a0_0, .int .i64 a0_1, .slice A0_2 l0_2.length c0_2, .slice A0_3 l0_3.length c0_3] 32 (0, 0)) (by (with_reducible repeat (first | refine blk_drewN ?_ _ | refine blk_drew ?_ | refine blk_alloc ?_ _)); exact BK166.out)) : gb166 ≠ gb185)); have n10_ := Aside0.mk ((by rw [hg]; exact Nat.ne_of_gt (blk_lt (g := gb166) (o := .cells #[.int .i64 a0_0, .int .i64 a0_1, .slice A0_2 l0_2.length c0_2, .slice A0_3 l0_3.length c0_3] 32 (0, 0)) (by (with_reducible repeat (first | refine blk_drewN ?_ _ | refine blk_drew ?_ | refine blk_alloc ?_ _)); exact BK166.out)) : gb185 ≠ gb166)); clear HO172; clear HO175; clear HO181; clear HO184; clear BK166; clear HB; have HO172 := n0_; have HO175 := n1_; have HO181 := n2_; have HO184 := n3_; have BK166 := n4_; have HB := n5_; have BK185 := n6_; have GW185 := n7_; have GE185 := n8_; have NB166_185 := n9_; have NB185_166 := n10_; clear n0_ n1_ n2_ n3_ n4_ n5_ n6_ n7_ n8_ n9_ n10_; clear hb hbox hg; have hnb23 := NB185_166.out; have hnc23 := NB166_185.out; have hcz24_0 : w22.cell? ⟨gb185, 0, none⟩ = some (.int .i64 0) := (blk_cell BK185.out 0).trans rfl; have hcz24_1 : w22.cell? ⟨gb185, 1, none⟩ = some (.int .i64 0) := (blk_cell BK185.out 1).trans rfl; have hcz24_2 : w22.cell? ⟨gb185, 2, none⟩ = some (.slice none 0 0) := (blk_cell BK185.out 2).trans rfl; have hcz24_3 : w22.cell? ⟨gb185, 3, none⟩ = some (.slice none 0 0) := (blk_cell BK185.out 3).trans rfl; have hfz24_0 := blk_frozen BK185.out 0; have hfz24_1 := blk_frozen BK185.out 1; have hfz24_2 := blk_frozen BK185.out 2; have hfz24_3 := blk_frozen BK185.out 3; obtain ⟨Ao25, co25, eo25⟩ := Kd.R_slice HO181.out; subst eo25; obtain ⟨Ao26, co26, eo26⟩ := Kd.R_slice HO184.out; subst eo26) | ((with_reducible refine gate_callee (f := 15) rfl ?_); refine goesL_ (some 18) rfl rfl Try.func15 (by kernel_rfl) rfl #[.agg #[.int .i64 t177, .int .i64 t178, .slice Ao25 t179.length co25, .slice Ao26 t182.length co26]] rfl (by (try simp only [List.map_toArray, List.map_cons, List.map_nil]); first | done | rfl | (simp only [List.length_drop, List.length_take]; rfl)) ?_; (with_reducible refine (impl_GoodSegmented.calls k t177 t178 _ _ t179 _ _ t182 t186 _ ?side1 ?side2 ?side3 ?side4 A10.out).mono ?_); (case side1 => refine (Kd.R_reads' (e := 49) (base := w.heap.size) (ok := fun k_ => ((some k_ ≠ (.slice Ao26 t182.length co26 : Value).ownBlock ∧ some k_ ≠ (.slice Ao17 t170.length co17 : Value).ownBlock) ∧ some k_ ≠ (.slice Ao18 t173.length co18 : Value).ownBlock)) (n := t179.length) (c := co25) ?_).2.2; exact (by (with_reducible repeat (first | apply Kd.R_alloc | apply Kd.R_drewN | apply Kd.R_drew)); exact (Kd.R_mono (Kd.R_far (p := ⟨gb185, 3, none⟩) (Kd.R_far (p := ⟨gb185, 2, none⟩) (Kd.R_far (p := ⟨gb185, 1, none⟩) (Kd.R_far (p := ⟨gb185, 0, none⟩) (Kd.R_types HO181.out BK185.out (by decide)) (fun _ hk => hk.2) (.int .i64 t177)) (fun _ hk => hk.2) (.int .i64 t178)) (fun _ hk => hk.2) (.slice Ao25 t179.length co25)) (fun _ hk => hk.2) (.slice Ao26 t182.length co26)) (fun _ h_ => h_.1)))); (case side2 => exact (Kd.R_reads' HO181.out).2.1); (case side3 => refine (Kd.R_reads' (e := 49) (base := w.heap.size) (ok := fun k_ => ((some k_ ≠ (.slice Ao25 t179.length co25 : Value).ownBlock ∧ some k_ ≠ (.slice Ao17 t170.length co17 : Value).ownBlock) ∧ some k_ ≠ (.slice Ao18 t173.length co18 : Value).ownBlock)) (n := t182.length) (c := co26) ?_).2.2; exact (by (with_reducible repeat (first | apply Kd.R_alloc | apply Kd.R_drewN | apply Kd.R_drew)); exact (Kd.R_mono (Kd.R_far (p := ⟨gb185, 3, none⟩) (Kd.R_far (p := ⟨gb185, 2, none⟩) (Kd.R_far (p := ⟨gb185, 1, none⟩) (Kd.R_far (p := ⟨gb185, 0, none⟩) (Kd.R_types HO184.out BK185.out (by decide)) (fun _ hk => hk.2) (.int .i64 t177)) (fun _ hk => hk.2) (.int .i64 t178)) (fun _ hk => hk.2) (.slice Ao25 t179.length co25)) (fun _ hk => hk.2) (.slice Ao26 t182.length co26)) (fun _ h_ => h_.1)))); (case side4 => exact (Kd.R_reads' HO184.out).2.1); rintro e w27 ⟨rfl, hb⟩; refine ⟨_, rfl, ?_⟩; have n0_ := Aside0.mk (Kd.R_below (by (with_reducible repeat (first | apply Kd.R_alloc | apply Kd.R_drewN | apply Kd.R_drew)); exact (Kd.R_mono (Kd.R_far (p := ⟨gb185, 3, none⟩) (Kd.R_far (p := ⟨gb185, 2, none⟩) (Kd.R_far (p := ⟨gb185, 1, none⟩) (Kd.R_far (p := ⟨gb185, 0, none⟩) (Kd.R_types HO172.out BK185.out (by decide)) (fun _ hk => hk.2) (.int .i64 t177)) (fun _ hk => hk.2) (.int .i64 t178)) (fun _ hk => hk.2) (.slice Ao25 t179.length co25)) (fun _ hk => hk.2) (.slice Ao26 t182.length co26)) (fun _ h_ => h_.1))) hb); have n1_ := Aside0.mk (Kd.R_below (by (with_reducible repeat (first | apply Kd.R_alloc | apply Kd.R_drewN | apply Kd.R_drew)); exact (Kd.R_mono (Kd.R_far (p := ⟨gb185, 3, none⟩) (Kd.R_far (p := ⟨gb185, 2, none⟩) (Kd.R_far (p := ⟨gb185, 1, none⟩) (Kd.R_far (p := ⟨gb185, 0, none⟩) (Kd.R_types HO175.out BK185.out (by decide)) (fun _ hk => hk.2) (.int .i64 t177)) (fun _ hk => hk.2) (.int .i64 t178)) (fun _ hk => hk.2) (.slice Ao25 t179.length co25)) (fun _ hk => hk.2) (.slice Ao26 t182.length co26)) (fun _ h_ => h_.1))) hb); have n2_ := Aside0.mk (Kd.R_below (by (with_reducible repeat (first | apply Kd.R_alloc | apply Kd.R_drewN | apply Kd.R_drew)); exact (Kd.R_mono (Kd.R_far (p := ⟨gb185, 3, none⟩) (Kd.R_far (p := ⟨gb185, 2, none⟩) (Kd.R_far (p := ⟨gb185, 1, none⟩) (Kd.R_far (p := ⟨gb185, 0, none⟩) (Kd.R_types HO181.out BK185.out (by decide)) (fun _ hk => hk.2) (.int .i64 t177)) (fun _ hk => hk.2) (.int .i64 t178)) (fun _ hk => hk.2) (.slice Ao25 t179.length co25)) (fun _ hk => hk.2) (.slice Ao26 t182.length co26)) (fun _ h_ => h_.1))) hb); have n3_ := Aside0.mk (Kd.R_below (by (with_reducible repeat (first | apply Kd.R_alloc | apply Kd.R_drewN | apply Kd.R_drew)); exact (Kd.R_mono (Kd.R_far (p := ⟨gb185, 3, none⟩) (Kd.R_far (p := ⟨gb185, 2, none⟩) (Kd.R_far (p := ⟨gb185, 1, none⟩) (Kd.R_far (p := ⟨gb185, 0, none⟩) (Kd.R_types HO184.out BK185.out (by decide)) (fun _ hk => hk.2) (.int .i64 t177)) (fun _ hk => hk.2) (.int .i64 t178)) (fun _ hk => hk.2) (.slice Ao25 t179.length co25)) (fun _ hk => hk.2) (.slice Ao26 t182.length co26)) (fun _ h_ => h_.1))) hb); have n4_ := Aside0.mk (blk_below (g := gb166) (o := .cells #[.int .i64 a0_0, .int .i64 a0_1, .slice A0_2 l0_2.length c0_2, .slice A0_3 l0_3.length c0_3] 32 (0, 0)) (by (with_reducible repeat (first | refine blk_drewN ?_ _ | refine blk_drew ?_ | refine blk_alloc ?_ _)); refine blk_far ?_ NB166_185.out _; (with_reducible repeat (first | refine blk_drewN ?_ _ | refine blk_drew ?_ | refine blk_alloc ?_ _)); refine blk_far ?_ NB166_185.out _; (with_reducible repeat (first | refine blk_drewN ?_ _ | refine blk_drew ?_ | refine blk_alloc ?_ _)); refine blk_far ?_ NB166_185.out _; (with_reducible repeat (first | refine blk_drewN ?_ _ | refine blk_drew ?_ | refine blk_alloc ?_ _)); refine blk_far ?_ NB166_185.out _; (with_reducible repeat (first | refine blk_drewN ?_ _ | refine blk_drew ?_ | refine blk_alloc ?_ _)); exact BK166.out) hb); have n5_ := Aside0.mk (blk_below (g := gb185) (o := .cells #[.int .i64 t177, .int .i64 t178, .slice Ao25 t179.length co25, .slice Ao26 t182.length co26] 24 (0, 0)) (by (with_reducible repeat (first | refine blk_drewN ?_ _ | refine blk_drew ?_ | refine blk_alloc ?_ _)); refine blk_put (cs := #[.int .i64 t177, .int .i64 t178, .slice Ao25 t179.length co25, .slice none 0 0]) ?_ 3 _ rfl; (with_reducible repeat (first | refine blk_drewN ?_ _ | refine blk_drew ?_ | refine blk_alloc ?_ _)); refine blk_put (cs := #[.int .i64 t177, .int .i64 t178, .slice none 0 0, .slice none 0 0]) ?_ 2 _ rfl; (with_reducible repeat (first | refine blk_drewN ?_ _ | refine blk_drew ?_ | refine blk_alloc ?_ _)); refine blk_put (cs := #[.int .i64 t177, .int .i64 0, .slice none 0 0, .slice none 0 0]) ?_ 1 _ rfl; (with_reducible repeat (first | refine blk_drewN ?_ _ | refine blk_drew ?_ | refine blk_alloc ?_ _)); refine blk_put (cs := #[.int .i64 0, .int .i64 0, .slice none 0 0, .slice none 0 0]) ?_ 0 _ rfl; (with_reducible repeat (first | refine blk_drewN ?_ _ | refine blk_drew ?_ | refine blk_alloc ?_ _)); exact BK185.out) hb); have n6_ := Aside0.mk (below_step (by repeat (first | (with_reducible first | exact HB.out | apply below_alloc | apply pw_below_drewN | apply below_drew1 | refine below_set ?_ GE166.out | refine below_set ?_ GE185.out) | exact HB.out)) hb); clear HO172; clear HO175; clear HO181; clear HO184; clear BK166; clear BK185; clear HB; have HO172 := n0_; have HO175 := n1_; have HO181 := n2_; have HO184 := n3_; have BK166 := n4_; have BK185 := n5_; have HB := n6_; clear n0_ n1_ n2_ n3_ n4_ n5_ n6_; (try clear hb); (try clear hb2); (try clear hk); (try clear hi)))
      go_ret
      exact ⟨by first | rfl | (simp [errW_none, errW_some] <;> rfl) | (simp [*, errW_none, errW_some] <;> rfl), by repeat (first | (with_reducible first | exact HB.out | apply below_alloc | apply pw_below_drewN | apply below_drew1 | refine below_set ?_ GE166.out | refine below_set ?_ GE185.out) | exact HB.out)⟩
    · rw [if_neg c11] at H
      have c11b0 : (t186 != t176) = false := by simpa using c11
      (try (have c11b1 : decide (t186 = t176) = true := by simpa using c11))
      (try (have c11b2 : (t186 == t176) = true := by simpa using c11))
      clear c11
      replace H := Option.bind_eq_some_iff.mp H
      obtain ⟨⟨t187, t188, t189, t192⟩, A280, H⟩ := H
      replace H : ((laws_eqSegmented.f k t177 t178 t179 t182 t187 t188 t189 t192).bind fun t195 => (if t195 = true then (some true) else (some false))) = some r := H
      have A28 := Aside0.mk A280
      clear A280
      replace H := Option.bind_eq_some_iff.mp H
      obtain ⟨t195, A290, H⟩ := H
      replace H : (if t195 = true then (some true) else (some false)) = some r := H
      have A29 := Aside0.mk A290
      clear A290
      by_cases c30 : t195 = true
      · subst c30
        have H1 : (some true) = some r := by rw [if_pos rfl] at H; exact H
        clear H
        have H := H1
        clear H1
        obtain rfl := Option.some.inj H
        go_enter Try.func4, Try.ntmps4
        try go_wp2_with (first | ((with_reducible refine gate_dst (N := 1) rfl ?_); refine box_event ?hg (N := 1) ?hd (cs := #[.int .i64 a0_0, .int .i64 a0_1, .slice A0_2 l0_2.length c0_2, .slice A0_3 l0_3.length c0_3]) (t := 32) ?hr ?_; (case hd => rfl); (case hg => rfl); (case hr => first | (go_simp; done) | (go_simp; rfl)); intro gb166 hg w31 hbox hb; have n0_ := Aside0.mk (below_step (by repeat (first | (with_reducible first | exact HB.out | apply below_alloc | apply pw_below_drewN | apply below_drew1) | exact HB.out)) hb); have n1_ := Aside0.mk (hbox); have n2_ := Aside0.mk ((by rw [hg]; exact (below_size (by repeat (first | (with_reducible first | exact HB.out | apply below_alloc | apply pw_below_drewN | apply below_drew1) | exact HB.out))) : w.heap.size ≤ gb166)); have n3_ := Aside0.mk ((by rw [hg]; exact (below_size (by repeat (first | (with_reducible first | exact HB.out | apply below_alloc | apply pw_below_drewN | apply below_drew1) | exact HB.out))) : w.heap.size ≤ gb166)); clear HB; have HB := n0_; have BK166 := n1_; have GW166 := n2_; have GE166 := n3_; clear n0_ n1_ n2_ n3_; clear hb hbox hg; have hcz32_0 : w31.cell? ⟨gb166, 0, none⟩ = some (.int .i64 a0_0) := (blk_cell BK166.out 0).trans rfl; have hcz32_1 : w31.cell? ⟨gb166, 1, none⟩ = some (.int .i64 a0_1) := (blk_cell BK166.out 1).trans rfl; have hcz32_2 : w31.cell? ⟨gb166, 2, none⟩ = some (.slice A0_2 l0_2.length c0_2) := (blk_cell BK166.out 2).trans rfl; have hcz32_3 : w31.cell? ⟨gb166, 3, none⟩ = some (.slice A0_3 l0_3.length c0_3) := (blk_cell BK166.out 3).trans rfl; have hfz32_0 := blk_frozen BK166.out 0; have hfz32_1 := blk_frozen BK166.out 1; have hfz32_2 := blk_frozen BK166.out 2; have hfz32_3 := blk_frozen BK166.out 3) | ((with_reducible refine gate_callee (f := 12) rfl ?_); refine goesL_ (some 9) rfl rfl Try.func12 (by kernel_rfl) rfl #[.agg #[.int .i64 a0_0, .int .i64 a0_1, .slice A0_2 l0_2.length c0_2, .slice A0_3 l0_3.length c0_3], .int .i64 1048576] rfl (by (try simp only [List.map_toArray, List.map_cons, List.map_nil]); first | done | rfl | (simp only [List.length_drop, List.length_take]; rfl)) ?_; (with_reducible refine (laws_szSegmented.calls k a0_0 a0_1 _ _ l0_2 _ _ l0_3 1048576 t167 _ ?side1 ?side2 ?side3 ?side4 A2.out).mono ?_); (case side1 => repeat (first | exact (Kd.C_below HR0_2.out HB.out) | (with_reducible refine Kd.C_alloc ?_ _) | (with_reducible refine Kd.C_drewN ?_ _) | (with_reducible refine Kd.C_drew ?_))); (case side2 => exact HC0_2.out); (case side3 => repeat (first | exact (Kd.C_below HR0_3.out HB.out) | (with_reducible refine Kd.C_alloc ?_ _) | (with_reducible refine Kd.C_drewN ?_ _) | (with_reducible refine Kd.C_drew ?_))); (case side4 => exact HC0_3.out); rintro e w33 ⟨rfl, hb⟩; refine ⟨_, rfl, ?_⟩; have n0_ := Aside0.mk (blk_below (g := gb166) (o := .cells #[.int .i64 a0_0, .int .i64 a0_1, .slice A0_2 l0_2.length c0_2, .slice A0_3 l0_3.length c0_3] 32 (0, 0)) (by (with_reducible repeat (first | refine blk_drewN ?_ _ | refine blk_drew ?_ | refine blk_alloc ?_ _)); exact BK166.out) hb); have n1_ := Aside0.mk (below_step (by repeat (first | (with_reducible first | exact HB.out | apply below_alloc | apply pw_below_drewN | apply below_drew1 | refine below_set ?_ GE166.out) | exact HB.out)) hb); clear BK166; clear HB; have BK166 := n0_; have HB := n1_; clear n0_ n1_; (try clear hb); (try clear hb2); (try clear hk); (try clear hi); have hcz34_0 : w33.cell? ⟨gb166, 0, none⟩ = some (.int .i64 a0_0) := (blk_cell BK166.out 0).trans rfl; have hcz34_1 : w33.cell? ⟨gb166, 1, none⟩ = some (.int .i64 a0_1) := (blk_cell BK166.out 1).trans rfl; have hcz34_2 : w33.cell? ⟨gb166, 2, none⟩ = some (.slice A0_2 l0_2.length c0_2) := (blk_cell BK166.out 2).trans rfl; have hcz34_3 : w33.cell? ⟨gb166, 3, none⟩ = some (.slice A0_3 l0_3.length c0_3) := (blk_cell BK166.out 3).trans rfl; have hfz34_0 := blk_frozen BK166.out 0; have hfz34_1 := blk_frozen BK166.out 1; have hfz34_2 := blk_frozen BK166.out 2; have hfz34_3 := blk_frozen BK166.out 3) | ((with_reducible refine gate_callee (f := 14) rfl ?_); refine goesL_ (some 13) rfl rfl Try.func14 (by kernel_rfl) rfl #[.agg #[.int .i64 a0_0, .int .i64 a0_1, .slice A0_2 l0_2.length c0_2, .slice A0_3 l0_3.length c0_3]] rfl (by (try simp only [List.map_toArray, List.map_cons, List.map_nil]); first | done | rfl | (simp only [List.length_drop, List.length_take]; rfl)) ?_; (with_reducible refine (laws_toSegmented.calls k a0_0 a0_1 _ _ l0_2 _ _ l0_3 t168 t169 t170 t173 _ ?side1 ?side2 ?side3 ?side4 A7.out).mono ?_); (case side1 => repeat (first | exact (Kd.C_below HR0_2.out HB.out) | (with_reducible refine Kd.C_alloc ?_ _) | (with_reducible refine Kd.C_drewN ?_ _) | (with_reducible refine Kd.C_drew ?_))); (case side2 => exact HC0_2.out); (case side3 => repeat (first | exact (Kd.C_below HR0_3.out HB.out) | (with_reducible refine Kd.C_alloc ?_ _) | (with_reducible refine Kd.C_drewN ?_ _) | (with_reducible refine Kd.C_drew ?_))); (case side4 => exact HC0_3.out); rintro e w35 ⟨v171, v174, rfl, ho0, ho1, hb⟩; refine ⟨_, rfl, ?_⟩; have n0_ := Aside0.mk (Kd.R_lower ho0 (below_size (by repeat (first | (with_reducible first | exact HB.out | apply below_alloc | apply pw_below_drewN | apply below_drew1 | refine below_set ?_ GE166.out) | exact HB.out)))); have n1_ := Aside0.mk (Kd.R_lower ho1 (below_size (by repeat (first | (with_reducible first | exact HB.out | apply below_alloc | apply pw_below_drewN | apply below_drew1 | refine below_set ?_ GE166.out) | exact HB.out)))); have n2_ := Aside0.mk (blk_below (g := gb166) (o := .cells #[.int .i64 a0_0, .int .i64 a0_1, .slice A0_2 l0_2.length c0_2, .slice A0_3 l0_3.length c0_3] 32 (0, 0)) (by (with_reducible repeat (first | refine blk_drewN ?_ _ | refine blk_drew ?_ | refine blk_alloc ?_ _)); exact BK166.out) hb); have n3_ := Aside0.mk (below_step (by repeat (first | (with_reducible first | exact HB.out | apply below_alloc | apply pw_below_drewN | apply below_drew1 | refine below_set ?_ GE166.out) | exact HB.out)) hb); clear BK166; clear HB; have HO172 := n0_; have HO175 := n1_; have BK166 := n2_; have HB := n3_; clear n0_ n1_ n2_ n3_; (try clear hb); (try clear hb2); (try clear hk); (try clear hi); (try clear ho0); (try clear ho1); obtain ⟨Ao36, co36, eo36⟩ := Kd.R_slice HO172.out; subst eo36; obtain ⟨Ao37, co37, eo37⟩ := Kd.R_slice HO175.out; subst eo37) | ((with_reducible refine gate_callee (f := 13) rfl ?_); refine goesL_ (some 14) rfl rfl Try.func13 (by kernel_rfl) rfl #[.agg #[.int .i64 t168, .int .i64 t169, .slice Ao36 t170.length co36, .slice Ao37 t173.length co37]] rfl (by (try simp only [List.map_toArray, List.map_cons, List.map_nil]); first | done | rfl | (simp only [List.length_drop, List.length_take]; rfl)) ?_; (with_reducible refine (spec_GoodSegmented.calls k t168 t169 _ _ t170 _ _ t173 t176 _ ?side1 ?side2 ?side3 ?side4 A8.out).mono ?_); (case side1 => repeat (first | exact (Kd.R_reads' HO172.out).2.2 | (with_reducible refine Kd.C_alloc ?_ _) | (with_reducible refine Kd.C_drewN ?_ _) | (with_reducible refine Kd.C_drew ?_))); (case side2 => exact (Kd.R_reads' HO172.out).2.1); (case side3 => repeat (first | exact (Kd.R_reads' HO175.out).2.2 | (with_reducible refine Kd.C_alloc ?_ _) | (with_reducible refine Kd.C_drewN ?_ _) | (with_reducible refine Kd.C_drew ?_))); (case side4 => exact (Kd.R_reads' HO175.out).2.1); rintro e w38 ⟨rfl, hb⟩; refine ⟨_, rfl, ?_⟩; have n0_ := Aside0.mk (Kd.R_below (by (with_reducible repeat (first | apply Kd.R_alloc | apply Kd.R_drewN | apply Kd.R_drew)); exact HO172.out) hb); have n1_ := Aside0.mk (Kd.R_below (by (with_reducible repeat (first | apply Kd.R_alloc | apply Kd.R_drewN | apply Kd.R_drew)); exact HO175.out) hb); have n2_ := Aside0.mk (blk_below (g := gb166) (o := .cells #[.int .i64 a0_0, .int .i64 a0_1, .slice A0_2 l0_2.length c0_2, .slice A0_3 l0_3.length c0_3] 32 (0, 0)) (by (with_reducible repeat (first | refine blk_drewN ?_ _ | refine blk_drew ?_ | refine blk_alloc ?_ _)); exact BK166.out) hb); have n3_ := Aside0.mk (below_step (by repeat (first | (with_reducible first | exact HB.out | apply below_alloc | apply pw_below_drewN | apply below_drew1 | refine below_set ?_ GE166.out) | exact HB.out)) hb); clear HO172; clear HO175; clear BK166; clear HB; have HO172 := n0_; have HO175 := n1_; have BK166 := n2_; have HB := n3_; clear n0_ n1_ n2_ n3_; (try clear hb); (try clear hb2); (try clear hk); (try clear hi); have hcz39_0 : w38.cell? ⟨gb166, 0, none⟩ = some (.int .i64 a0_0) := (blk_cell BK166.out 0).trans rfl; have hcz39_1 : w38.cell? ⟨gb166, 1, none⟩ = some (.int .i64 a0_1) := (blk_cell BK166.out 1).trans rfl; have hcz39_2 : w38.cell? ⟨gb166, 2, none⟩ = some (.slice A0_2 l0_2.length c0_2) := (blk_cell BK166.out 2).trans rfl; have hcz39_3 : w38.cell? ⟨gb166, 3, none⟩ = some (.slice A0_3 l0_3.length c0_3) := (blk_cell BK166.out 3).trans rfl; have hfz39_0 := blk_frozen BK166.out 0; have hfz39_1 := blk_frozen BK166.out 1; have hfz39_2 := blk_frozen BK166.out 2; have hfz39_3 := blk_frozen BK166.out 3) | ((with_reducible refine gate_callee (f := 14) rfl ?_); refine goesL_ (some 16) rfl rfl Try.func14 (by kernel_rfl) rfl #[.agg #[.int .i64 a0_0, .int .i64 a0_1, .slice A0_2 l0_2.length c0_2, .slice A0_3 l0_3.length c0_3]] rfl (by (try simp only [List.map_toArray, List.map_cons, List.map_nil]); first | done | rfl | (simp only [List.length_drop, List.length_take]; rfl)) ?_; (with_reducible refine (laws_toSegmented.calls k a0_0 a0_1 _ _ l0_2 _ _ l0_3 t177 t178 t179 t182 _ ?side1 ?side2 ?side3 ?side4 A9.out).mono ?_); (case side1 => repeat (first | exact (Kd.C_below HR0_2.out HB.out) | (with_reducible refine Kd.C_alloc ?_ _) | (with_reducible refine Kd.C_drewN ?_ _) | (with_reducible refine Kd.C_drew ?_))); (case side2 => exact HC0_2.out); (case side3 => repeat (first | exact (Kd.C_below HR0_3.out HB.out) | (with_reducible refine Kd.C_alloc ?_ _) | (with_reducible refine Kd.C_drewN ?_ _) | (with_reducible refine Kd.C_drew ?_))); (case side4 => exact HC0_3.out); rintro e w40 ⟨v180, v183, rfl, ho0, ho1, hb⟩; refine ⟨_, rfl, ?_⟩; have n0_ := Aside0.mk (Kd.R_mono (Kd.R_told (Kd.R_told (Kd.R_old (by (with_reducible repeat (first | apply Kd.R_alloc | apply Kd.R_drewN | apply Kd.R_drew)); exact HO172.out) hb) (Kd.R_base ho0)) (Kd.R_base ho1)) (fun _ h_ => h_.1)); have n1_ := Aside0.mk (Kd.R_mono (Kd.R_told (Kd.R_told (Kd.R_old (by (with_reducible repeat (first | apply Kd.R_alloc | apply Kd.R_drewN | apply Kd.R_drew)); exact HO175.out) hb) (Kd.R_base ho0)) (Kd.R_base ho1)) (fun _ h_ => h_.1)); have n2_ := Aside0.mk (Kd.R_lower (Kd.R_new' (Kd.R_new' ho0 (Kd.R_lt (by (with_reducible repeat (first | apply Kd.R_alloc | apply Kd.R_drewN | apply Kd.R_drew)); exact HO172.out))) (Kd.R_lt (by (with_reducible repeat (first | apply Kd.R_alloc | apply Kd.R_drewN | apply Kd.R_drew)); exact HO175.out))) (below_size (by repeat (first | (with_reducible first | exact HB.out | apply below_alloc | apply pw_below_drewN | apply below_drew1 | refine below_set ?_ GE166.out) | exact HB.out)))); have n3_ := Aside0.mk (Kd.R_lower (Kd.R_new' (Kd.R_new' ho1 (Kd.R_lt (by (with_reducible repeat (first | apply Kd.R_alloc | apply Kd.R_drewN | apply Kd.R_drew)); exact HO172.out))) (Kd.R_lt (by (with_reducible repeat (first | apply Kd.R_alloc | apply Kd.R_drewN | apply Kd.R_drew)); exact HO175.out))) (below_size (by repeat (first | (with_reducible first | exact HB.out | apply below_alloc | apply pw_below_drewN | apply below_drew1 | refine below_set ?_ GE166.out) | exact HB.out)))); have n4_ := Aside0.mk (blk_below (g := gb166) (o := .cells #[.int .i64 a0_0, .int .i64 a0_1, .slice A0_2 l0_2.length c0_2, .slice A0_3 l0_3.length c0_3] 32 (0, 0)) (by (with_reducible repeat (first | refine blk_drewN ?_ _ | refine blk_drew ?_ | refine blk_alloc ?_ _)); exact BK166.out) hb); have n5_ := Aside0.mk (below_step (by repeat (first | (with_reducible first | exact HB.out | apply below_alloc | apply pw_below_drewN | apply below_drew1 | refine below_set ?_ GE166.out) | exact HB.out)) hb); clear HO172; clear HO175; clear BK166; clear HB; have HO172 := n0_; have HO175 := n1_; have HO181 := n2_; have HO184 := n3_; have BK166 := n4_; have HB := n5_; clear n0_ n1_ n2_ n3_ n4_ n5_; (try clear hb); (try clear hb2); (try clear hk); (try clear hi); (try clear ho0); (try clear ho1)) | ((with_reducible refine gate_dst (N := 5) rfl ?_); refine box_event ?hg (N := 5) ?hd (cs := #[.int .i64 0, .int .i64 0, .slice none 0 0, .slice none 0 0]) (t := 24) ?hr ?_; (case hd => rfl); (case hg => rfl); (case hr => first | (go_simp; done) | (go_simp; rfl)); intro gb185 hg w41 hbox hb; have n0_ := Aside0.mk (Kd.R_below (by (with_reducible repeat (first | apply Kd.R_alloc | apply Kd.R_drewN | apply Kd.R_drew)); exact HO172.out) hb); have n1_ := Aside0.mk (Kd.R_below (by (with_reducible repeat (first | apply Kd.R_alloc | apply Kd.R_drewN | apply Kd.R_drew)); exact HO175.out) hb); have n2_ := Aside0.mk (Kd.R_below (by (with_reducible repeat (first | apply Kd.R_alloc | apply Kd.R_drewN | apply Kd.R_drew)); exact HO181.out) hb); have n3_ := Aside0.mk (Kd.R_below (by (with_reducible repeat (first | apply Kd.R_alloc | apply Kd.R_drewN | apply Kd.R_drew)); exact HO184.out) hb); have n4_ := Aside0.mk (blk_below (g := gb166) (o := .cells #[.int .i64 a0_0, .int .i64 a0_1, .slice A0_2 l0_2.length c0_2, .slice A0_3 l0_3.length c0_3] 32 (0, 0)) (by (with_reducible repeat (first | refine blk_drewN ?_ _ | refine blk_drew ?_ | refine blk_alloc ?_ _)); exact BK166.out) hb); have n5_ := Aside0.mk (below_step (by repeat (first | (with_reducible first | exact HB.out | apply below_alloc | apply pw_below_drewN | apply below_drew1 | refine below_set ?_ GE166.out) | exact HB.out)) hb); have n6_ := Aside0.mk (hbox); have n7_ := Aside0.mk ((by rw [hg]; exact (below_size (by repeat (first | (with_reducible first | exact HB.out | apply below_alloc | apply pw_below_drewN | apply below_drew1 | refine below_set ?_ GE166.out) | exact HB.out))) : w.heap.size ≤ gb185)); have n8_ := Aside0.mk ((by rw [hg]; exact (below_size (by repeat (first | (with_reducible first | exact HB.out | apply below_alloc | apply pw_below_drewN | apply below_drew1 | refine below_set ?_ GE166.out) | exact HB.out))) : w.heap.size ≤ gb185)); have n9_ := Aside0.mk ((by rw [hg]; exact Nat.ne_of_lt (blk_lt (g := gb166) (o := .cells #[.int .i64 a0_0, .int .i64 a0_1, .slice A0_2 l0_2.length c0_2, .slice A0_3 l0_3.length c0_3] 32 (0, 0)) (by (with_reducible repeat (first | refine blk_drewN ?_ _ | refine blk_drew ?_ | refine blk_alloc ?_ _)); exact BK166.out)) : gb166 ≠ gb185)); have n10_ := Aside0.mk ((by rw [hg]; exact Nat.ne_of_gt (blk_lt (g := gb166) (o := .cells #[.int .i64 a0_0, .int .i64 a0_1, .slice A0_2 l0_2.length c0_2, .slice A0_3 l0_3.length c0_3] 32 (0, 0)) (by (with_reducible repeat (first | refine blk_drewN ?_ _ | refine blk_drew ?_ | refine blk_alloc ?_ _)); exact BK166.out)) : gb185 ≠ gb166)); clear HO172; clear HO175; clear HO181; clear HO184; clear BK166; clear HB; have HO172 := n0_; have HO175 := n1_; have HO181 := n2_; have HO184 := n3_; have BK166 := n4_; have HB := n5_; have BK185 := n6_; have GW185 := n7_; have GE185 := n8_; have NB166_185 := n9_; have NB185_166 := n10_; clear n0_ n1_ n2_ n3_ n4_ n5_ n6_ n7_ n8_ n9_ n10_; clear hb hbox hg; have hnb42 := NB185_166.out; have hnc42 := NB166_185.out; have hcz43_0 : w41.cell? ⟨gb185, 0, none⟩ = some (.int .i64 0) := (blk_cell BK185.out 0).trans rfl; have hcz43_1 : w41.cell? ⟨gb185, 1, none⟩ = some (.int .i64 0) := (blk_cell BK185.out 1).trans rfl; have hcz43_2 : w41.cell? ⟨gb185, 2, none⟩ = some (.slice none 0 0) := (blk_cell BK185.out 2).trans rfl; have hcz43_3 : w41.cell? ⟨gb185, 3, none⟩ = some (.slice none 0 0) := (blk_cell BK185.out 3).trans rfl; have hfz43_0 := blk_frozen BK185.out 0; have hfz43_1 := blk_frozen BK185.out 1; have hfz43_2 := blk_frozen BK185.out 2; have hfz43_3 := blk_frozen BK185.out 3; obtain ⟨Ao44, co44, eo44⟩ := Kd.R_slice HO181.out; subst eo44; obtain ⟨Ao45, co45, eo45⟩ := Kd.R_slice HO184.out; subst eo45) | ((with_reducible refine gate_callee (f := 15) rfl ?_); refine goesL_ (some 18) rfl rfl Try.func15 (by kernel_rfl) rfl #[.agg #[.int .i64 t177, .int .i64 t178, .slice Ao44 t179.length co44, .slice Ao45 t182.length co45]] rfl (by (try simp only [List.map_toArray, List.map_cons, List.map_nil]); first | done | rfl | (simp only [List.length_drop, List.length_take]; rfl)) ?_; (with_reducible refine (impl_GoodSegmented.calls k t177 t178 _ _ t179 _ _ t182 t186 _ ?side1 ?side2 ?side3 ?side4 A10.out).mono ?_); (case side1 => refine (Kd.R_reads' (e := 49) (base := w.heap.size) (ok := fun k_ => ((some k_ ≠ (.slice Ao45 t182.length co45 : Value).ownBlock ∧ some k_ ≠ (.slice Ao36 t170.length co36 : Value).ownBlock) ∧ some k_ ≠ (.slice Ao37 t173.length co37 : Value).ownBlock)) (n := t179.length) (c := co44) ?_).2.2; exact (by (with_reducible repeat (first | apply Kd.R_alloc | apply Kd.R_drewN | apply Kd.R_drew)); exact (Kd.R_mono (Kd.R_far (p := ⟨gb185, 3, none⟩) (Kd.R_far (p := ⟨gb185, 2, none⟩) (Kd.R_far (p := ⟨gb185, 1, none⟩) (Kd.R_far (p := ⟨gb185, 0, none⟩) (Kd.R_types HO181.out BK185.out (by decide)) (fun _ hk => hk.2) (.int .i64 t177)) (fun _ hk => hk.2) (.int .i64 t178)) (fun _ hk => hk.2) (.slice Ao44 t179.length co44)) (fun _ hk => hk.2) (.slice Ao45 t182.length co45)) (fun _ h_ => h_.1)))); (case side2 => exact (Kd.R_reads' HO181.out).2.1); (case side3 => refine (Kd.R_reads' (e := 49) (base := w.heap.size) (ok := fun k_ => ((some k_ ≠ (.slice Ao44 t179.length co44 : Value).ownBlock ∧ some k_ ≠ (.slice Ao36 t170.length co36 : Value).ownBlock) ∧ some k_ ≠ (.slice Ao37 t173.length co37 : Value).ownBlock)) (n := t182.length) (c := co45) ?_).2.2; exact (by (with_reducible repeat (first | apply Kd.R_alloc | apply Kd.R_drewN | apply Kd.R_drew)); exact (Kd.R_mono (Kd.R_far (p := ⟨gb185, 3, none⟩) (Kd.R_far (p := ⟨gb185, 2, none⟩) (Kd.R_far (p := ⟨gb185, 1, none⟩) (Kd.R_far (p := ⟨gb185, 0, none⟩) (Kd.R_types HO184.out BK185.out (by decide)) (fun _ hk => hk.2) (.int .i64 t177)) (fun _ hk => hk.2) (.int .i64 t178)) (fun _ hk => hk.2) (.slice Ao44 t179.length co44)) (fun _ hk => hk.2) (.slice Ao45 t182.length co45)) (fun _ h_ => h_.1)))); (case side4 => exact (Kd.R_reads' HO184.out).2.1); rintro e w46 ⟨rfl, hb⟩; refine ⟨_, rfl, ?_⟩; have n0_ := Aside0.mk (Kd.R_below (by (with_reducible repeat (first | apply Kd.R_alloc | apply Kd.R_drewN | apply Kd.R_drew)); exact (Kd.R_mono (Kd.R_far (p := ⟨gb185, 3, none⟩) (Kd.R_far (p := ⟨gb185, 2, none⟩) (Kd.R_far (p := ⟨gb185, 1, none⟩) (Kd.R_far (p := ⟨gb185, 0, none⟩) (Kd.R_types HO172.out BK185.out (by decide)) (fun _ hk => hk.2) (.int .i64 t177)) (fun _ hk => hk.2) (.int .i64 t178)) (fun _ hk => hk.2) (.slice Ao44 t179.length co44)) (fun _ hk => hk.2) (.slice Ao45 t182.length co45)) (fun _ h_ => h_.1))) hb); have n1_ := Aside0.mk (Kd.R_below (by (with_reducible repeat (first | apply Kd.R_alloc | apply Kd.R_drewN | apply Kd.R_drew)); exact (Kd.R_mono (Kd.R_far (p := ⟨gb185, 3, none⟩) (Kd.R_far (p := ⟨gb185, 2, none⟩) (Kd.R_far (p := ⟨gb185, 1, none⟩) (Kd.R_far (p := ⟨gb185, 0, none⟩) (Kd.R_types HO175.out BK185.out (by decide)) (fun _ hk => hk.2) (.int .i64 t177)) (fun _ hk => hk.2) (.int .i64 t178)) (fun _ hk => hk.2) (.slice Ao44 t179.length co44)) (fun _ hk => hk.2) (.slice Ao45 t182.length co45)) (fun _ h_ => h_.1))) hb); have n2_ := Aside0.mk (Kd.R_below (by (with_reducible repeat (first | apply Kd.R_alloc | apply Kd.R_drewN | apply Kd.R_drew)); exact (Kd.R_mono (Kd.R_far (p := ⟨gb185, 3, none⟩) (Kd.R_far (p := ⟨gb185, 2, none⟩) (Kd.R_far (p := ⟨gb185, 1, none⟩) (Kd.R_far (p := ⟨gb185, 0, none⟩) (Kd.R_types HO181.out BK185.out (by decide)) (fun _ hk => hk.2) (.int .i64 t177)) (fun _ hk => hk.2) (.int .i64 t178)) (fun _ hk => hk.2) (.slice Ao44 t179.length co44)) (fun _ hk => hk.2) (.slice Ao45 t182.length co45)) (fun _ h_ => h_.1))) hb); have n3_ := Aside0.mk (Kd.R_below (by (with_reducible repeat (first | apply Kd.R_alloc | apply Kd.R_drewN | apply Kd.R_drew)); exact (Kd.R_mono (Kd.R_far (p := ⟨gb185, 3, none⟩) (Kd.R_far (p := ⟨gb185, 2, none⟩) (Kd.R_far (p := ⟨gb185, 1, none⟩) (Kd.R_far (p := ⟨gb185, 0, none⟩) (Kd.R_types HO184.out BK185.out (by decide)) (fun _ hk => hk.2) (.int .i64 t177)) (fun _ hk => hk.2) (.int .i64 t178)) (fun _ hk => hk.2) (.slice Ao44 t179.length co44)) (fun _ hk => hk.2) (.slice Ao45 t182.length co45)) (fun _ h_ => h_.1))) hb); have n4_ := Aside0.mk (blk_below (g := gb166) (o := .cells #[.int .i64 a0_0, .int .i64 a0_1, .slice A0_2 l0_2.length c0_2, .slice A0_3 l0_3.length c0_3] 32 (0, 0)) (by (with_reducible repeat (first | refine blk_drewN ?_ _ | refine blk_drew ?_ | refine blk_alloc ?_ _)); refine blk_far ?_ NB166_185.out _; (with_reducible repeat (first | refine blk_drewN ?_ _ | refine blk_drew ?_ | refine blk_alloc ?_ _)); refine blk_far ?_ NB166_185.out _; (with_reducible repeat (first | refine blk_drewN ?_ _ | refine blk_drew ?_ | refine blk_alloc ?_ _)); refine blk_far ?_ NB166_185.out _; (with_reducible repeat (first | refine blk_drewN ?_ _ | refine blk_drew ?_ | refine blk_alloc ?_ _)); refine blk_far ?_ NB166_185.out _; (with_reducible repeat (first | refine blk_drewN ?_ _ | refine blk_drew ?_ | refine blk_alloc ?_ _)); exact BK166.out) hb); have n5_ := Aside0.mk (blk_below (g := gb185) (o := .cells #[.int .i64 t177, .int .i64 t178, .slice Ao44 t179.length co44, .slice Ao45 t182.length co45] 24 (0, 0)) (by (with_reducible repeat (first | refine blk_drewN ?_ _ | refine blk_drew ?_ | refine blk_alloc ?_ _)); refine blk_put (cs := #[.int .i64 t177, .int .i64 t178, .slice Ao44 t179.length co44, .slice none 0 0]) ?_ 3 _ rfl; (with_reducible repeat (first | refine blk_drewN ?_ _ | refine blk_drew ?_ | refine blk_alloc ?_ _)); refine blk_put (cs := #[.int .i64 t177, .int .i64 t178, .slice none 0 0, .slice none 0 0]) ?_ 2 _ rfl; (with_reducible repeat (first | refine blk_drewN ?_ _ | refine blk_drew ?_ | refine blk_alloc ?_ _)); refine blk_put (cs := #[.int .i64 t177, .int .i64 0, .slice none 0 0, .slice none 0 0]) ?_ 1 _ rfl; (with_reducible repeat (first | refine blk_drewN ?_ _ | refine blk_drew ?_ | refine blk_alloc ?_ _)); refine blk_put (cs := #[.int .i64 0, .int .i64 0, .slice none 0 0, .slice none 0 0]) ?_ 0 _ rfl; (with_reducible repeat (first | refine blk_drewN ?_ _ | refine blk_drew ?_ | refine blk_alloc ?_ _)); exact BK185.out) hb); have n6_ := Aside0.mk (below_step (by repeat (first | (with_reducible first | exact HB.out | apply below_alloc | apply pw_below_drewN | apply below_drew1 | refine below_set ?_ GE166.out | refine below_set ?_ GE185.out) | exact HB.out)) hb); clear HO172; clear HO175; clear HO181; clear HO184; clear BK166; clear BK185; clear HB; have HO172 := n0_; have HO175 := n1_; have HO181 := n2_; have HO184 := n3_; have BK166 := n4_; have BK185 := n5_; have HB := n6_; clear n0_ n1_ n2_ n3_ n4_ n5_ n6_; (try clear hb); (try clear hb2); (try clear hk); (try clear hi)))
        have n0_ := Aside0.mk (Kd.R_drew HO172.out)
        have n1_ := Aside0.mk (Kd.R_drew HO175.out)
        have n2_ := Aside0.mk (Kd.R_drew HO181.out)
        have n3_ := Aside0.mk (Kd.R_drew HO184.out)
        have n4_ := Aside0.mk (blk_drew BK166.out)
        have n5_ := Aside0.mk (blk_drew BK185.out)
        have n6_ := Aside0.mk (below_drew1 HB.out)
        clear HO172
        clear HO175
        clear HO181
        clear HO184
        clear BK166
        clear BK185
        clear HB
        have HO172 := n0_
        have HO175 := n1_
        have HO181 := n2_
        have HO184 := n3_
        have BK166 := n4_
        have BK185 := n5_
        have HB := n6_
        clear n0_ n1_ n2_ n3_ n4_ n5_ n6_
        refine start_ (n := 5) (S := fun w' => w'.cell? ⟨gb185, 0, none⟩ = some (.int .i64 t177) ∧ w'.cell? ⟨gb185, 1, none⟩ = some (.int .i64 t178) ∧ w'.cell? ⟨gb185, 2, none⟩ = some (.slice Ao44 t179.length co44) ∧ w'.cell? ⟨gb185, 3, none⟩ = some (.slice Ao45 t182.length co45) ∧ w'.cell? ⟨gb166, 0, none⟩ = some (.int .i64 a0_0) ∧ w'.cell? ⟨gb166, 1, none⟩ = some (.int .i64 a0_1) ∧ w'.cell? ⟨gb166, 2, none⟩ = some (.slice A0_2 l0_2.length c0_2) ∧ w'.cell? ⟨gb166, 3, none⟩ = some (.slice A0_3 l0_3.length c0_3)) (ds := []) #[false, false, false, false, false] (by kernel_rfl) rfl rfl ⟨(blk_cell BK185.out 0).trans rfl, (blk_cell BK185.out 1).trans rfl, (blk_cell BK185.out 2).trans rfl, (blk_cell BK185.out 3).trans rfl, (blk_cell BK166.out 0).trans rfl, (blk_cell BK166.out 1).trans rfl, (blk_cell BK166.out 2).trans rfl, (blk_cell BK166.out 3).trans rfl⟩ (fun hHeld => ?_)
        generalize w46.drew = w47 at HO172 HO175 HO181 HO184 BK166 BK185 HB hHeld ⊢
        refine take_ (i := 0) (N := some 22) (v := ?_) (a' := ?_) #[true, false, false, false, false] rfl rfl (by kernel_rfl) (fun _ _ _ h => h) (Or.inl ⟨by rfl, ?_⟩) hHeld ?_ ?_
        rotate_left
        · rintro w' ⟨s0, s1, s2, s3, s4, s5, s6, s7⟩
          go_simp
          with_reducible rfl
        rotate_left
        · simp only [Act.put, List.setIfInBounds_toArray, List.set_cons_zero, List.set_cons_succ, i64_w, i32_w]
          rfl
        refine take_ (i := 1) (N := some 23) (v := ?_) (a' := ?_) #[true, true, false, false, false] rfl rfl (by kernel_rfl) (fun _ _ _ h => h) (Or.inl ⟨by rfl, ?_⟩) hHeld ?_ ?_
        rotate_left
        · rintro w' ⟨s0, s1, s2, s3, s4, s5, s6, s7⟩
          go_simp
          with_reducible rfl
        rotate_left
        · simp only [Act.put, List.setIfInBounds_toArray, List.set_cons_zero, List.set_cons_succ, i64_w, i32_w]
          rfl
        refine one_ (i := 2) (N := some 24) #[true, true, true, false, false] rfl rfl (by kernel_rfl) (by decide) (fun K hK => ?_)
        refine goes_ Try.func14 (by kernel_rfl) rfl #[.agg #[.int .i64 a0_0, .int .i64 a0_1, .slice A0_2 l0_2.length c0_2, .slice A0_3 l0_3.length c0_3]] (by rfl) rfl rfl (by (try simp only [List.map_toArray, List.map_cons, List.map_nil]); first | done | rfl | (simp only [List.length_drop, List.length_take]; rfl)) ?_
        with_reducible refine (laws_toSegmented.calls k a0_0 a0_1 _ _ l0_2 _ _ l0_3 t187 t188 t189 t192 _ ?side1 ?side2 ?side3 ?side4 A28.out).mono ?_
        (case side1 => repeat (first | exact (Kd.C_below HR0_2.out HB.out) | (with_reducible refine Kd.C_alloc ?_ _) | (with_reducible refine Kd.C_drewN ?_ _) | (with_reducible refine Kd.C_drew ?_)))
        (case side2 => exact HC0_2.out)
        (case side3 => repeat (first | exact (Kd.C_below HR0_3.out HB.out) | (with_reducible refine Kd.C_alloc ?_ _) | (with_reducible refine Kd.C_drewN ?_ _) | (with_reducible refine Kd.C_drew ?_)))
        (case side4 => exact HC0_3.out)
        rintro e w48 ⟨v190, v193, rfl, ho0, ho1, hb⟩
        refine ⟨_, rfl, ?_⟩
        have n0_ := Aside0.mk (Kd.R_mono (Kd.R_told (Kd.R_told (Kd.R_old (by (with_reducible repeat (first | apply Kd.R_alloc | apply Kd.R_drewN | apply Kd.R_drew)); exact HO172.out) hb) (Kd.R_base ho0)) (Kd.R_base ho1)) (fun _ h_ => h_.1))
        have n1_ := Aside0.mk (Kd.R_mono (Kd.R_told (Kd.R_told (Kd.R_old (by (with_reducible repeat (first | apply Kd.R_alloc | apply Kd.R_drewN | apply Kd.R_drew)); exact HO175.out) hb) (Kd.R_base ho0)) (Kd.R_base ho1)) (fun _ h_ => h_.1))
        have n2_ := Aside0.mk (Kd.R_mono (Kd.R_told (Kd.R_told (Kd.R_old (by (with_reducible repeat (first | apply Kd.R_alloc | apply Kd.R_drewN | apply Kd.R_drew)); exact HO181.out) hb) (Kd.R_base ho0)) (Kd.R_base ho1)) (fun _ h_ => h_.1))
        have n3_ := Aside0.mk (Kd.R_mono (Kd.R_told (Kd.R_told (Kd.R_old (by (with_reducible repeat (first | apply Kd.R_alloc | apply Kd.R_drewN | apply Kd.R_drew)); exact HO184.out) hb) (Kd.R_base ho0)) (Kd.R_base ho1)) (fun _ h_ => h_.1))
        have n4_ := Aside0.mk (Kd.R_lower (Kd.R_new' (Kd.R_new' (Kd.R_new' (Kd.R_new' ho0 (Kd.R_lt (by (with_reducible repeat (first | apply Kd.R_alloc | apply Kd.R_drewN | apply Kd.R_drew)); exact HO172.out))) (Kd.R_lt (by (with_reducible repeat (first | apply Kd.R_alloc | apply Kd.R_drewN | apply Kd.R_drew)); exact HO175.out))) (Kd.R_lt (by (with_reducible repeat (first | apply Kd.R_alloc | apply Kd.R_drewN | apply Kd.R_drew)); exact HO181.out))) (Kd.R_lt (by (with_reducible repeat (first | apply Kd.R_alloc | apply Kd.R_drewN | apply Kd.R_drew)); exact HO184.out))) (below_size (by repeat (first | (with_reducible first | exact HB.out | apply below_alloc | apply pw_below_drewN | apply below_drew1 | refine below_set ?_ GE166.out | refine below_set ?_ GE185.out) | exact HB.out))))
        have n5_ := Aside0.mk (Kd.R_lower (Kd.R_new' (Kd.R_new' (Kd.R_new' (Kd.R_new' ho1 (Kd.R_lt (by (with_reducible repeat (first | apply Kd.R_alloc | apply Kd.R_drewN | apply Kd.R_drew)); exact HO172.out))) (Kd.R_lt (by (with_reducible repeat (first | apply Kd.R_alloc | apply Kd.R_drewN | apply Kd.R_drew)); exact HO175.out))) (Kd.R_lt (by (with_reducible repeat (first | apply Kd.R_alloc | apply Kd.R_drewN | apply Kd.R_drew)); exact HO181.out))) (Kd.R_lt (by (with_reducible repeat (first | apply Kd.R_alloc | apply Kd.R_drewN | apply Kd.R_drew)); exact HO184.out))) (below_size (by repeat (first | (with_reducible first | exact HB.out | apply below_alloc | apply pw_below_drewN | apply below_drew1 | refine below_set ?_ GE166.out | refine below_set ?_ GE185.out) | exact HB.out))))
        have n6_ := Aside0.mk (blk_below (g := gb166) (o := .cells #[.int .i64 a0_0, .int .i64 a0_1, .slice A0_2 l0_2.length c0_2, .slice A0_3 l0_3.length c0_3] 32 (0, 0)) (by (with_reducible repeat (first | refine blk_drewN ?_ _ | refine blk_drew ?_ | refine blk_alloc ?_ _)); exact BK166.out) hb)
        have n7_ := Aside0.mk (blk_below (g := gb185) (o := .cells #[.int .i64 t177, .int .i64 t178, .slice Ao44 t179.length co44, .slice Ao45 t182.length co45] 24 (0, 0)) (by (with_reducible repeat (first | refine blk_drewN ?_ _ | refine blk_drew ?_ | refine blk_alloc ?_ _)); exact BK185.out) hb)
        have n8_ := Aside0.mk (below_step (by repeat (first | (with_reducible first | exact HB.out | apply below_alloc | apply pw_below_drewN | apply below_drew1 | refine below_set ?_ GE166.out | refine below_set ?_ GE185.out) | exact HB.out)) hb)
        clear HO172
        clear HO175
        clear HO181
        clear HO184
        clear BK166
        clear BK185
        clear HB
        have HO172 := n0_
        have HO175 := n1_
        have HO181 := n2_
        have HO184 := n3_
        have HO191 := n4_
        have HO194 := n5_
        have BK166 := n6_
        have BK185 := n7_
        have HB := n8_
        clear n0_ n1_ n2_ n3_ n4_ n5_ n6_ n7_ n8_
        (try clear hb)
        (try clear hb2)
        (try clear hk)
        (try clear hi)
        (try clear ho0)
        (try clear ho1)
        obtain ⟨Ao49, co49, eo49⟩ := Kd.R_slice HO191.out
        (first | subst eo49 | (injection eo49 with f1_ f2_ f3_; have f4_ := f1_.symm; have f5_ := f3_.symm; clear f1_ f2_ f3_; subst f4_; subst f5_))
        obtain ⟨Ao50, co50, eo50⟩ := Kd.R_slice HO194.out
        (first | subst eo50 | (injection eo50 with f1_ f2_ f3_; have f4_ := f1_.symm; have f5_ := f3_.symm; clear f1_ f2_ f3_; subst f4_; subst f5_))
        refine hK.out _ _ ⟨(blk_cell BK185.out 0).trans rfl, (blk_cell BK185.out 1).trans rfl, (blk_cell BK185.out 2).trans rfl, (blk_cell BK185.out 3).trans rfl, (blk_cell BK166.out 0).trans rfl, (blk_cell BK166.out 1).trans rfl, (blk_cell BK166.out 2).trans rfl, (blk_cell BK166.out 3).trans rfl⟩ (fun hHeld => ?_)
        clear hK K
        refine norm_ (a' := ?_) ?_ ?_
        rotate_left
        · show Act.put _ (some 24) _ = _
          simp only [Act.put, List.setIfInBounds_toArray, List.set_cons_zero, List.set_cons_succ, i64_w, i32_w]
          rfl
        refine one_ (i := 3) (N := some 25) #[true, true, true, true, false] rfl rfl (by kernel_rfl) (by decide) (fun K hK => ?_)
        refine goes_ Try.func9 (by kernel_rfl) rfl #[.agg #[.int .i64 t177, .int .i64 t178, .slice Ao44 t179.length co44, .slice Ao45 t182.length co45], .agg #[.int .i64 t187, .int .i64 t188, .slice Ao49 t189.length co49, .slice Ao50 t192.length co50]] (by rfl) rfl rfl (by (try simp only [List.map_toArray, List.map_cons, List.map_nil]); first | done | rfl | (simp only [List.length_drop, List.length_take]; rfl)) ?_
        with_reducible refine (laws_eqSegmented.calls k t177 t178 _ _ t179 _ _ t182 t187 t188 _ _ t189 _ _ t192 true _ ?side1 ?side2 ?side3 ?side4 ?side5 ?side6 ?side7 ?side8 A29.out).mono ?_
        (case side1 => repeat (first | exact (Kd.R_reads' HO181.out).2.2 | (with_reducible refine Kd.C_alloc ?_ _) | (with_reducible refine Kd.C_drewN ?_ _) | (with_reducible refine Kd.C_drew ?_)))
        (case side2 => exact (Kd.R_reads' HO181.out).2.1)
        (case side3 => repeat (first | exact (Kd.R_reads' HO184.out).2.2 | (with_reducible refine Kd.C_alloc ?_ _) | (with_reducible refine Kd.C_drewN ?_ _) | (with_reducible refine Kd.C_drew ?_)))
        (case side4 => exact (Kd.R_reads' HO184.out).2.1)
        (case side5 => repeat (first | exact (Kd.R_reads' HO191.out).2.2 | (with_reducible refine Kd.C_alloc ?_ _) | (with_reducible refine Kd.C_drewN ?_ _) | (with_reducible refine Kd.C_drew ?_)))
        (case side6 => exact (Kd.R_reads' HO191.out).2.1)
        (case side7 => repeat (first | exact (Kd.R_reads' HO194.out).2.2 | (with_reducible refine Kd.C_alloc ?_ _) | (with_reducible refine Kd.C_drewN ?_ _) | (with_reducible refine Kd.C_drew ?_)))
        (case side8 => exact (Kd.R_reads' HO194.out).2.1)
        rintro e w51 ⟨rfl, hb⟩
        refine ⟨_, rfl, ?_⟩
        have n0_ := Aside0.mk (Kd.R_below (by (with_reducible repeat (first | apply Kd.R_alloc | apply Kd.R_drewN | apply Kd.R_drew)); exact HO172.out) hb)
        have n1_ := Aside0.mk (Kd.R_below (by (with_reducible repeat (first | apply Kd.R_alloc | apply Kd.R_drewN | apply Kd.R_drew)); exact HO175.out) hb)
        have n2_ := Aside0.mk (Kd.R_below (by (with_reducible repeat (first | apply Kd.R_alloc | apply Kd.R_drewN | apply Kd.R_drew)); exact HO181.out) hb)
        have n3_ := Aside0.mk (Kd.R_below (by (with_reducible repeat (first | apply Kd.R_alloc | apply Kd.R_drewN | apply Kd.R_drew)); exact HO184.out) hb)
        have n4_ := Aside0.mk (Kd.R_below (by (with_reducible repeat (first | apply Kd.R_alloc | apply Kd.R_drewN | apply Kd.R_drew)); exact HO191.out) hb)
        have n5_ := Aside0.mk (Kd.R_below (by (with_reducible repeat (first | apply Kd.R_alloc | apply Kd.R_drewN | apply Kd.R_drew)); exact HO194.out) hb)
        have n6_ := Aside0.mk (blk_below (g := gb166) (o := .cells #[.int .i64 a0_0, .int .i64 a0_1, .slice A0_2 l0_2.length c0_2, .slice A0_3 l0_3.length c0_3] 32 (0, 0)) (by (with_reducible repeat (first | refine blk_drewN ?_ _ | refine blk_drew ?_ | refine blk_alloc ?_ _)); exact BK166.out) hb)
        have n7_ := Aside0.mk (blk_below (g := gb185) (o := .cells #[.int .i64 t177, .int .i64 t178, .slice Ao44 t179.length co44, .slice Ao45 t182.length co45] 24 (0, 0)) (by (with_reducible repeat (first | refine blk_drewN ?_ _ | refine blk_drew ?_ | refine blk_alloc ?_ _)); exact BK185.out) hb)
        have n8_ := Aside0.mk (below_step (by repeat (first | (with_reducible first | exact HB.out | apply below_alloc | apply pw_below_drewN | apply below_drew1 | refine below_set ?_ GE166.out | refine below_set ?_ GE185.out) | exact HB.out)) hb)
        clear HO172
        clear HO175
        clear HO181
        clear HO184
        clear HO191
        clear HO194
        clear BK166
        clear BK185
        clear HB
        have HO172 := n0_
        have HO175 := n1_
        have HO181 := n2_
        have HO184 := n3_
        have HO191 := n4_
        have HO194 := n5_
        have BK166 := n6_
        have BK185 := n7_
        have HB := n8_
        clear n0_ n1_ n2_ n3_ n4_ n5_ n6_ n7_ n8_
        (try clear hb)
        (try clear hb2)
        (try clear hk)
        (try clear hi)
        refine hK.out _ _ ⟨(blk_cell BK185.out 0).trans rfl, (blk_cell BK185.out 1).trans rfl, (blk_cell BK185.out 2).trans rfl, (blk_cell BK185.out 3).trans rfl, (blk_cell BK166.out 0).trans rfl, (blk_cell BK166.out 1).trans rfl, (blk_cell BK166.out 2).trans rfl, (blk_cell BK166.out 3).trans rfl⟩ (fun hHeld => ?_)
        clear hK K
        refine norm_ (a' := ?_) ?_ ?_
        rotate_left
        · show Act.put _ (some 25) _ = _
          simp only [Act.put, List.setIfInBounds_toArray, List.set_cons_zero, List.set_cons_succ, i64_w, i32_w]
          rfl
        refine pure_ (i := 4) (N := some 26) (v := ?_) (a' := ?_) #[true, true, true, true, true] rfl rfl (by kernel_rfl) (fun _ _ _ h => h) (Or.inl ⟨by rfl, ?_⟩) ?_ ?_
        rotate_left
        · intro w'
          go_simp
          with_reducible rfl
        rotate_left
        · simp only [Act.put, List.setIfInBounds_toArray, List.set_cons_zero, List.set_cons_succ, i64_w, i32_w]
          rfl
        refine done_ (by kernel_rfl) ?_
        try go_wp2
        go_ret
        exact ⟨by first | rfl | (simp [errW_none, errW_some] <;> rfl) | (simp [*, errW_none, errW_some] <;> rfl), by repeat (first | (with_reducible first | exact HB.out | apply below_alloc | apply pw_below_drewN | apply below_drew1 | refine below_set ?_ GE166.out | refine below_set ?_ GE185.out) | exact HB.out)⟩
      · replace c30 := Bool.eq_false_iff.mpr c30
        subst c30
        have H1 : (some false) = some r := by rw [if_neg (show ¬ (false = true) by decide)] at H; exact H
        clear H
        have H := H1
        clear H1
        obtain rfl := Option.some.inj H
        go_enter Try.func4, Try.ntmps4
        try go_wp2_with (first | ((with_reducible refine gate_dst (N := 1) rfl ?_); refine box_event ?hg (N := 1) ?hd (cs := #[.int .i64 a0_0, .int .i64 a0_1, .slice A0_2 l0_2.length c0_2, .slice A0_3 l0_3.length c0_3]) (t := 32) ?hr ?_; (case hd => rfl); (case hg => rfl); (case hr => first | (go_simp; done) | (go_simp; rfl)); intro gb166 hg w52 hbox hb; have n0_ := Aside0.mk (below_step (by repeat (first | (with_reducible first | exact HB.out | apply below_alloc | apply pw_below_drewN | apply below_drew1) | exact HB.out)) hb); have n1_ := Aside0.mk (hbox); have n2_ := Aside0.mk ((by rw [hg]; exact (below_size (by repeat (first | (with_reducible first | exact HB.out | apply below_alloc | apply pw_below_drewN | apply below_drew1) | exact HB.out))) : w.heap.size ≤ gb166)); have n3_ := Aside0.mk ((by rw [hg]; exact (below_size (by repeat (first | (with_reducible first | exact HB.out | apply below_alloc | apply pw_below_drewN | apply below_drew1) | exact HB.out))) : w.heap.size ≤ gb166)); clear HB; have HB := n0_; have BK166 := n1_; have GW166 := n2_; have GE166 := n3_; clear n0_ n1_ n2_ n3_; clear hb hbox hg; have hcz53_0 : w52.cell? ⟨gb166, 0, none⟩ = some (.int .i64 a0_0) := (blk_cell BK166.out 0).trans rfl; have hcz53_1 : w52.cell? ⟨gb166, 1, none⟩ = some (.int .i64 a0_1) := (blk_cell BK166.out 1).trans rfl; have hcz53_2 : w52.cell? ⟨gb166, 2, none⟩ = some (.slice A0_2 l0_2.length c0_2) := (blk_cell BK166.out 2).trans rfl; have hcz53_3 : w52.cell? ⟨gb166, 3, none⟩ = some (.slice A0_3 l0_3.length c0_3) := (blk_cell BK166.out 3).trans rfl; have hfz53_0 := blk_frozen BK166.out 0; have hfz53_1 := blk_frozen BK166.out 1; have hfz53_2 := blk_frozen BK166.out 2; have hfz53_3 := blk_frozen BK166.out 3) | ((with_reducible refine gate_callee (f := 12) rfl ?_); refine goesL_ (some 9) rfl rfl Try.func12 (by kernel_rfl) rfl #[.agg #[.int .i64 a0_0, .int .i64 a0_1, .slice A0_2 l0_2.length c0_2, .slice A0_3 l0_3.length c0_3], .int .i64 1048576] rfl (by (try simp only [List.map_toArray, List.map_cons, List.map_nil]); first | done | rfl | (simp only [List.length_drop, List.length_take]; rfl)) ?_; (with_reducible refine (laws_szSegmented.calls k a0_0 a0_1 _ _ l0_2 _ _ l0_3 1048576 t167 _ ?side1 ?side2 ?side3 ?side4 A2.out).mono ?_); (case side1 => repeat (first | exact (Kd.C_below HR0_2.out HB.out) | (with_reducible refine Kd.C_alloc ?_ _) | (with_reducible refine Kd.C_drewN ?_ _) | (with_reducible refine Kd.C_drew ?_))); (case side2 => exact HC0_2.out); (case side3 => repeat (first | exact (Kd.C_below HR0_3.out HB.out) | (with_reducible refine Kd.C_alloc ?_ _) | (with_reducible refine Kd.C_drewN ?_ _) | (with_reducible refine Kd.C_drew ?_))); (case side4 => exact HC0_3.out); rintro e w54 ⟨rfl, hb⟩; refine ⟨_, rfl, ?_⟩; have n0_ := Aside0.mk (blk_below (g := gb166) (o := .cells #[.int .i64 a0_0, .int .i64 a0_1, .slice A0_2 l0_2.length c0_2, .slice A0_3 l0_3.length c0_3] 32 (0, 0)) (by (with_reducible repeat (first | refine blk_drewN ?_ _ | refine blk_drew ?_ | refine blk_alloc ?_ _)); exact BK166.out) hb); have n1_ := Aside0.mk (below_step (by repeat (first | (with_reducible first | exact HB.out | apply below_alloc | apply pw_below_drewN | apply below_drew1 | refine below_set ?_ GE166.out) | exact HB.out)) hb); clear BK166; clear HB; have BK166 := n0_; have HB := n1_; clear n0_ n1_; (try clear hb); (try clear hb2); (try clear hk); (try clear hi); have hcz55_0 : w54.cell? ⟨gb166, 0, none⟩ = some (.int .i64 a0_0) := (blk_cell BK166.out 0).trans rfl; have hcz55_1 : w54.cell? ⟨gb166, 1, none⟩ = some (.int .i64 a0_1) := (blk_cell BK166.out 1).trans rfl; have hcz55_2 : w54.cell? ⟨gb166, 2, none⟩ = some (.slice A0_2 l0_2.length c0_2) := (blk_cell BK166.out 2).trans rfl; have hcz55_3 : w54.cell? ⟨gb166, 3, none⟩ = some (.slice A0_3 l0_3.length c0_3) := (blk_cell BK166.out 3).trans rfl; have hfz55_0 := blk_frozen BK166.out 0; have hfz55_1 := blk_frozen BK166.out 1; have hfz55_2 := blk_frozen BK166.out 2; have hfz55_3 := blk_frozen BK166.out 3) | ((with_reducible refine gate_callee (f := 14) rfl ?_); refine goesL_ (some 13) rfl rfl Try.func14 (by kernel_rfl) rfl #[.agg #[.int .i64 a0_0, .int .i64 a0_1, .slice A0_2 l0_2.length c0_2, .slice A0_3 l0_3.length c0_3]] rfl (by (try simp only [List.map_toArray, List.map_cons, List.map_nil]); first | done | rfl | (simp only [List.length_drop, List.length_take]; rfl)) ?_; (with_reducible refine (laws_toSegmented.calls k a0_0 a0_1 _ _ l0_2 _ _ l0_3 t168 t169 t170 t173 _ ?side1 ?side2 ?side3 ?side4 A7.out).mono ?_); (case side1 => repeat (first | exact (Kd.C_below HR0_2.out HB.out) | (with_reducible refine Kd.C_alloc ?_ _) | (with_reducible refine Kd.C_drewN ?_ _) | (with_reducible refine Kd.C_drew ?_))); (case side2 => exact HC0_2.out); (case side3 => repeat (first | exact (Kd.C_below HR0_3.out HB.out) | (with_reducible refine Kd.C_alloc ?_ _) | (with_reducible refine Kd.C_drewN ?_ _) | (with_reducible refine Kd.C_drew ?_))); (case side4 => exact HC0_3.out); rintro e w56 ⟨v171, v174, rfl, ho0, ho1, hb⟩; refine ⟨_, rfl, ?_⟩; have n0_ := Aside0.mk (Kd.R_lower ho0 (below_size (by repeat (first | (with_reducible first | exact HB.out | apply below_alloc | apply pw_below_drewN | apply below_drew1 | refine below_set ?_ GE166.out) | exact HB.out)))); have n1_ := Aside0.mk (Kd.R_lower ho1 (below_size (by repeat (first | (with_reducible first | exact HB.out | apply below_alloc | apply pw_below_drewN | apply below_drew1 | refine below_set ?_ GE166.out) | exact HB.out)))); have n2_ := Aside0.mk (blk_below (g := gb166) (o := .cells #[.int .i64 a0_0, .int .i64 a0_1, .slice A0_2 l0_2.length c0_2, .slice A0_3 l0_3.length c0_3] 32 (0, 0)) (by (with_reducible repeat (first | refine blk_drewN ?_ _ | refine blk_drew ?_ | refine blk_alloc ?_ _)); exact BK166.out) hb); have n3_ := Aside0.mk (below_step (by repeat (first | (with_reducible first | exact HB.out | apply below_alloc | apply pw_below_drewN | apply below_drew1 | refine below_set ?_ GE166.out) | exact HB.out)) hb); clear BK166; clear HB; have HO172 := n0_; have HO175 := n1_; have BK166 := n2_; have HB := n3_; clear n0_ n1_ n2_ n3_; (try clear hb); (try clear hb2); (try clear hk); (try clear hi); (try clear ho0); (try clear ho1); obtain ⟨Ao57, co57, eo57⟩ := Kd.R_slice HO172.out; subst eo57; obtain ⟨Ao58, co58, eo58⟩ := Kd.R_slice HO175.out; subst eo58) | ((with_reducible refine gate_callee (f := 13) rfl ?_); refine goesL_ (some 14) rfl rfl Try.func13 (by kernel_rfl) rfl #[.agg #[.int .i64 t168, .int .i64 t169, .slice Ao57 t170.length co57, .slice Ao58 t173.length co58]] rfl (by (try simp only [List.map_toArray, List.map_cons, List.map_nil]); first | done | rfl | (simp only [List.length_drop, List.length_take]; rfl)) ?_; (with_reducible refine (spec_GoodSegmented.calls k t168 t169 _ _ t170 _ _ t173 t176 _ ?side1 ?side2 ?side3 ?side4 A8.out).mono ?_); (case side1 => repeat (first | exact (Kd.R_reads' HO172.out).2.2 | (with_reducible refine Kd.C_alloc ?_ _) | (with_reducible refine Kd.C_drewN ?_ _) | (with_reducible refine Kd.C_drew ?_))); (case side2 => exact (Kd.R_reads' HO172.out).2.1); (case side3 => repeat (first | exact (Kd.R_reads' HO175.out).2.2 | (with_reducible refine Kd.C_alloc ?_ _) | (with_reducible refine Kd.C_drewN ?_ _) | (with_reducible refine Kd.C_drew ?_))); (case side4 => exact (Kd.R_reads' HO175.out).2.1); rintro e w59 ⟨rfl, hb⟩; refine ⟨_, rfl, ?_⟩; have n0_ := Aside0.mk (Kd.R_below (by (with_reducible repeat (first | apply Kd.R_alloc | apply Kd.R_drewN | apply Kd.R_drew)); exact HO172.out) hb); have n1_ := Aside0.mk (Kd.R_below (by (with_reducible repeat (first | apply Kd.R_alloc | apply Kd.R_drewN | apply Kd.R_drew)); exact HO175.out) hb); have n2_ := Aside0.mk (blk_below (g := gb166) (o := .cells #[.int .i64 a0_0, .int .i64 a0_1, .slice A0_2 l0_2.length c0_2, .slice A0_3 l0_3.length c0_3] 32 (0, 0)) (by (with_reducible repeat (first | refine blk_drewN ?_ _ | refine blk_drew ?_ | refine blk_alloc ?_ _)); exact BK166.out) hb); have n3_ := Aside0.mk (below_step (by repeat (first | (with_reducible first | exact HB.out | apply below_alloc | apply pw_below_drewN | apply below_drew1 | refine below_set ?_ GE166.out) | exact HB.out)) hb); clear HO172; clear HO175; clear BK166; clear HB; have HO172 := n0_; have HO175 := n1_; have BK166 := n2_; have HB := n3_; clear n0_ n1_ n2_ n3_; (try clear hb); (try clear hb2); (try clear hk); (try clear hi); have hcz60_0 : w59.cell? ⟨gb166, 0, none⟩ = some (.int .i64 a0_0) := (blk_cell BK166.out 0).trans rfl; have hcz60_1 : w59.cell? ⟨gb166, 1, none⟩ = some (.int .i64 a0_1) := (blk_cell BK166.out 1).trans rfl; have hcz60_2 : w59.cell? ⟨gb166, 2, none⟩ = some (.slice A0_2 l0_2.length c0_2) := (blk_cell BK166.out 2).trans rfl; have hcz60_3 : w59.cell? ⟨gb166, 3, none⟩ = some (.slice A0_3 l0_3.length c0_3) := (blk_cell BK166.out 3).trans rfl; have hfz60_0 := blk_frozen BK166.out 0; have hfz60_1 := blk_frozen BK166.out 1; have hfz60_2 := blk_frozen BK166.out 2; have hfz60_3 := blk_frozen BK166.out 3) | ((with_reducible refine gate_callee (f := 14) rfl ?_); refine goesL_ (some 16) rfl rfl Try.func14 (by kernel_rfl) rfl #[.agg #[.int .i64 a0_0, .int .i64 a0_1, .slice A0_2 l0_2.length c0_2, .slice A0_3 l0_3.length c0_3]] rfl (by (try simp only [List.map_toArray, List.map_cons, List.map_nil]); first | done | rfl | (simp only [List.length_drop, List.length_take]; rfl)) ?_; (with_reducible refine (laws_toSegmented.calls k a0_0 a0_1 _ _ l0_2 _ _ l0_3 t177 t178 t179 t182 _ ?side1 ?side2 ?side3 ?side4 A9.out).mono ?_); (case side1 => repeat (first | exact (Kd.C_below HR0_2.out HB.out) | (with_reducible refine Kd.C_alloc ?_ _) | (with_reducible refine Kd.C_drewN ?_ _) | (with_reducible refine Kd.C_drew ?_))); (case side2 => exact HC0_2.out); (case side3 => repeat (first | exact (Kd.C_below HR0_3.out HB.out) | (with_reducible refine Kd.C_alloc ?_ _) | (with_reducible refine Kd.C_drewN ?_ _) | (with_reducible refine Kd.C_drew ?_))); (case side4 => exact HC0_3.out); rintro e w61 ⟨v180, v183, rfl, ho0, ho1, hb⟩; refine ⟨_, rfl, ?_⟩; have n0_ := Aside0.mk (Kd.R_mono (Kd.R_told (Kd.R_told (Kd.R_old (by (with_reducible repeat (first | apply Kd.R_alloc | apply Kd.R_drewN | apply Kd.R_drew)); exact HO172.out) hb) (Kd.R_base ho0)) (Kd.R_base ho1)) (fun _ h_ => h_.1)); have n1_ := Aside0.mk (Kd.R_mono (Kd.R_told (Kd.R_told (Kd.R_old (by (with_reducible repeat (first | apply Kd.R_alloc | apply Kd.R_drewN | apply Kd.R_drew)); exact HO175.out) hb) (Kd.R_base ho0)) (Kd.R_base ho1)) (fun _ h_ => h_.1)); have n2_ := Aside0.mk (Kd.R_lower (Kd.R_new' (Kd.R_new' ho0 (Kd.R_lt (by (with_reducible repeat (first | apply Kd.R_alloc | apply Kd.R_drewN | apply Kd.R_drew)); exact HO172.out))) (Kd.R_lt (by (with_reducible repeat (first | apply Kd.R_alloc | apply Kd.R_drewN | apply Kd.R_drew)); exact HO175.out))) (below_size (by repeat (first | (with_reducible first | exact HB.out | apply below_alloc | apply pw_below_drewN | apply below_drew1 | refine below_set ?_ GE166.out) | exact HB.out)))); have n3_ := Aside0.mk (Kd.R_lower (Kd.R_new' (Kd.R_new' ho1 (Kd.R_lt (by (with_reducible repeat (first | apply Kd.R_alloc | apply Kd.R_drewN | apply Kd.R_drew)); exact HO172.out))) (Kd.R_lt (by (with_reducible repeat (first | apply Kd.R_alloc | apply Kd.R_drewN | apply Kd.R_drew)); exact HO175.out))) (below_size (by repeat (first | (with_reducible first | exact HB.out | apply below_alloc | apply pw_below_drewN | apply below_drew1 | refine below_set ?_ GE166.out) | exact HB.out)))); have n4_ := Aside0.mk (blk_below (g := gb166) (o := .cells #[.int .i64 a0_0, .int .i64 a0_1, .slice A0_2 l0_2.length c0_2, .slice A0_3 l0_3.length c0_3] 32 (0, 0)) (by (with_reducible repeat (first | refine blk_drewN ?_ _ | refine blk_drew ?_ | refine blk_alloc ?_ _)); exact BK166.out) hb); have n5_ := Aside0.mk (below_step (by repeat (first | (with_reducible first | exact HB.out | apply below_alloc | apply pw_below_drewN | apply below_drew1 | refine below_set ?_ GE166.out) | exact HB.out)) hb); clear HO172; clear HO175; clear BK166; clear HB; have HO172 := n0_; have HO175 := n1_; have HO181 := n2_; have HO184 := n3_; have BK166 := n4_; have HB := n5_; clear n0_ n1_ n2_ n3_ n4_ n5_; (try clear hb); (try clear hb2); (try clear hk); (try clear hi); (try clear ho0); (try clear ho1)) | ((with_reducible refine gate_dst (N := 5) rfl ?_); refine box_event ?hg (N := 5) ?hd (cs := #[.int .i64 0, .int .i64 0, .slice none 0 0, .slice none 0 0]) (t := 24) ?hr ?_; (case hd => rfl); (case hg => rfl); (case hr => first | (go_simp; done) | (go_simp; rfl)); intro gb185 hg w62 hbox hb; have n0_ := Aside0.mk (Kd.R_below (by (with_reducible repeat (first | apply Kd.R_alloc | apply Kd.R_drewN | apply Kd.R_drew)); exact HO172.out) hb); have n1_ := Aside0.mk (Kd.R_below (by (with_reducible repeat (first | apply Kd.R_alloc | apply Kd.R_drewN | apply Kd.R_drew)); exact HO175.out) hb); have n2_ := Aside0.mk (Kd.R_below (by (with_reducible repeat (first | apply Kd.R_alloc | apply Kd.R_drewN | apply Kd.R_drew)); exact HO181.out) hb); have n3_ := Aside0.mk (Kd.R_below (by (with_reducible repeat (first | apply Kd.R_alloc | apply Kd.R_drewN | apply Kd.R_drew)); exact HO184.out) hb); have n4_ := Aside0.mk (blk_below (g := gb166) (o := .cells #[.int .i64 a0_0, .int .i64 a0_1, .slice A0_2 l0_2.length c0_2, .slice A0_3 l0_3.length c0_3] 32 (0, 0)) (by (with_reducible repeat (first | refine blk_drewN ?_ _ | refine blk_drew ?_ | refine blk_alloc ?_ _)); exact BK166.out) hb); have n5_ := Aside0.mk (below_step (by repeat (first | (with_reducible first | exact HB.out | apply below_alloc | apply pw_below_drewN | apply below_drew1 | refine below_set ?_ GE166.out) | exact HB.out)) hb); have n6_ := Aside0.mk (hbox); have n7_ := Aside0.mk ((by rw [hg]; exact (below_size (by repeat (first | (with_reducible first | exact HB.out | apply below_alloc | apply pw_below_drewN | apply below_drew1 | refine below_set ?_ GE166.out) | exact HB.out))) : w.heap.size ≤ gb185)); have n8_ := Aside0.mk ((by rw [hg]; exact (below_size (by repeat (first | (with_reducible first | exact HB.out | apply below_alloc | apply pw_below_drewN | apply below_drew1 | refine below_set ?_ GE166.out) | exact HB.out))) : w.heap.size ≤ gb185)); have n9_ := Aside0.mk ((by rw [hg]; exact Nat.ne_of_lt (blk_lt (g := gb166) (o := .cells #[.int .i64 a0_0, .int .i64 a0_1, .slice A0_2 l0_2.length c0_2, .slice A0_3 l0_3.length c0_3] 32 (0, 0)) (by (with_reducible repeat (first | refine blk_drewN ?_ _ | refine blk_drew ?_ | refine blk_alloc ?_ _)); exact BK166.out)) : gb166 ≠ gb185)); have n10_ := Aside0.mk ((by rw [hg]; exact Nat.ne_of_gt (blk_lt (g := gb166) (o := .cells #[.int .i64 a0_0, .int .i64 a0_1, .slice A0_2 l0_2.length c0_2, .slice A0_3 l0_3.length c0_3] 32 (0, 0)) (by (with_reducible repeat (first | refine blk_drewN ?_ _ | refine blk_drew ?_ | refine blk_alloc ?_ _)); exact BK166.out)) : gb185 ≠ gb166)); clear HO172; clear HO175; clear HO181; clear HO184; clear BK166; clear HB; have HO172 := n0_; have HO175 := n1_; have HO181 := n2_; have HO184 := n3_; have BK166 := n4_; have HB := n5_; have BK185 := n6_; have GW185 := n7_; have GE185 := n8_; have NB166_185 := n9_; have NB185_166 := n10_; clear n0_ n1_ n2_ n3_ n4_ n5_ n6_ n7_ n8_ n9_ n10_; clear hb hbox hg; have hnb63 := NB185_166.out; have hnc63 := NB166_185.out; have hcz64_0 : w62.cell? ⟨gb185, 0, none⟩ = some (.int .i64 0) := (blk_cell BK185.out 0).trans rfl; have hcz64_1 : w62.cell? ⟨gb185, 1, none⟩ = some (.int .i64 0) := (blk_cell BK185.out 1).trans rfl; have hcz64_2 : w62.cell? ⟨gb185, 2, none⟩ = some (.slice none 0 0) := (blk_cell BK185.out 2).trans rfl; have hcz64_3 : w62.cell? ⟨gb185, 3, none⟩ = some (.slice none 0 0) := (blk_cell BK185.out 3).trans rfl; have hfz64_0 := blk_frozen BK185.out 0; have hfz64_1 := blk_frozen BK185.out 1; have hfz64_2 := blk_frozen BK185.out 2; have hfz64_3 := blk_frozen BK185.out 3; obtain ⟨Ao65, co65, eo65⟩ := Kd.R_slice HO181.out; subst eo65; obtain ⟨Ao66, co66, eo66⟩ := Kd.R_slice HO184.out; subst eo66) | ((with_reducible refine gate_callee (f := 15) rfl ?_); refine goesL_ (some 18) rfl rfl Try.func15 (by kernel_rfl) rfl #[.agg #[.int .i64 t177, .int .i64 t178, .slice Ao65 t179.length co65, .slice Ao66 t182.length co66]] rfl (by (try simp only [List.map_toArray, List.map_cons, List.map_nil]); first | done | rfl | (simp only [List.length_drop, List.length_take]; rfl)) ?_; (with_reducible refine (impl_GoodSegmented.calls k t177 t178 _ _ t179 _ _ t182 t186 _ ?side1 ?side2 ?side3 ?side4 A10.out).mono ?_); (case side1 => refine (Kd.R_reads' (e := 49) (base := w.heap.size) (ok := fun k_ => ((some k_ ≠ (.slice Ao66 t182.length co66 : Value).ownBlock ∧ some k_ ≠ (.slice Ao57 t170.length co57 : Value).ownBlock) ∧ some k_ ≠ (.slice Ao58 t173.length co58 : Value).ownBlock)) (n := t179.length) (c := co65) ?_).2.2; exact (by (with_reducible repeat (first | apply Kd.R_alloc | apply Kd.R_drewN | apply Kd.R_drew)); exact (Kd.R_mono (Kd.R_far (p := ⟨gb185, 3, none⟩) (Kd.R_far (p := ⟨gb185, 2, none⟩) (Kd.R_far (p := ⟨gb185, 1, none⟩) (Kd.R_far (p := ⟨gb185, 0, none⟩) (Kd.R_types HO181.out BK185.out (by decide)) (fun _ hk => hk.2) (.int .i64 t177)) (fun _ hk => hk.2) (.int .i64 t178)) (fun _ hk => hk.2) (.slice Ao65 t179.length co65)) (fun _ hk => hk.2) (.slice Ao66 t182.length co66)) (fun _ h_ => h_.1)))); (case side2 => exact (Kd.R_reads' HO181.out).2.1); (case side3 => refine (Kd.R_reads' (e := 49) (base := w.heap.size) (ok := fun k_ => ((some k_ ≠ (.slice Ao65 t179.length co65 : Value).ownBlock ∧ some k_ ≠ (.slice Ao57 t170.length co57 : Value).ownBlock) ∧ some k_ ≠ (.slice Ao58 t173.length co58 : Value).ownBlock)) (n := t182.length) (c := co66) ?_).2.2; exact (by (with_reducible repeat (first | apply Kd.R_alloc | apply Kd.R_drewN | apply Kd.R_drew)); exact (Kd.R_mono (Kd.R_far (p := ⟨gb185, 3, none⟩) (Kd.R_far (p := ⟨gb185, 2, none⟩) (Kd.R_far (p := ⟨gb185, 1, none⟩) (Kd.R_far (p := ⟨gb185, 0, none⟩) (Kd.R_types HO184.out BK185.out (by decide)) (fun _ hk => hk.2) (.int .i64 t177)) (fun _ hk => hk.2) (.int .i64 t178)) (fun _ hk => hk.2) (.slice Ao65 t179.length co65)) (fun _ hk => hk.2) (.slice Ao66 t182.length co66)) (fun _ h_ => h_.1)))); (case side4 => exact (Kd.R_reads' HO184.out).2.1); rintro e w67 ⟨rfl, hb⟩; refine ⟨_, rfl, ?_⟩; have n0_ := Aside0.mk (Kd.R_below (by (with_reducible repeat (first | apply Kd.R_alloc | apply Kd.R_drewN | apply Kd.R_drew)); exact (Kd.R_mono (Kd.R_far (p := ⟨gb185, 3, none⟩) (Kd.R_far (p := ⟨gb185, 2, none⟩) (Kd.R_far (p := ⟨gb185, 1, none⟩) (Kd.R_far (p := ⟨gb185, 0, none⟩) (Kd.R_types HO172.out BK185.out (by decide)) (fun _ hk => hk.2) (.int .i64 t177)) (fun _ hk => hk.2) (.int .i64 t178)) (fun _ hk => hk.2) (.slice Ao65 t179.length co65)) (fun _ hk => hk.2) (.slice Ao66 t182.length co66)) (fun _ h_ => h_.1))) hb); have n1_ := Aside0.mk (Kd.R_below (by (with_reducible repeat (first | apply Kd.R_alloc | apply Kd.R_drewN | apply Kd.R_drew)); exact (Kd.R_mono (Kd.R_far (p := ⟨gb185, 3, none⟩) (Kd.R_far (p := ⟨gb185, 2, none⟩) (Kd.R_far (p := ⟨gb185, 1, none⟩) (Kd.R_far (p := ⟨gb185, 0, none⟩) (Kd.R_types HO175.out BK185.out (by decide)) (fun _ hk => hk.2) (.int .i64 t177)) (fun _ hk => hk.2) (.int .i64 t178)) (fun _ hk => hk.2) (.slice Ao65 t179.length co65)) (fun _ hk => hk.2) (.slice Ao66 t182.length co66)) (fun _ h_ => h_.1))) hb); have n2_ := Aside0.mk (Kd.R_below (by (with_reducible repeat (first | apply Kd.R_alloc | apply Kd.R_drewN | apply Kd.R_drew)); exact (Kd.R_mono (Kd.R_far (p := ⟨gb185, 3, none⟩) (Kd.R_far (p := ⟨gb185, 2, none⟩) (Kd.R_far (p := ⟨gb185, 1, none⟩) (Kd.R_far (p := ⟨gb185, 0, none⟩) (Kd.R_types HO181.out BK185.out (by decide)) (fun _ hk => hk.2) (.int .i64 t177)) (fun _ hk => hk.2) (.int .i64 t178)) (fun _ hk => hk.2) (.slice Ao65 t179.length co65)) (fun _ hk => hk.2) (.slice Ao66 t182.length co66)) (fun _ h_ => h_.1))) hb); have n3_ := Aside0.mk (Kd.R_below (by (with_reducible repeat (first | apply Kd.R_alloc | apply Kd.R_drewN | apply Kd.R_drew)); exact (Kd.R_mono (Kd.R_far (p := ⟨gb185, 3, none⟩) (Kd.R_far (p := ⟨gb185, 2, none⟩) (Kd.R_far (p := ⟨gb185, 1, none⟩) (Kd.R_far (p := ⟨gb185, 0, none⟩) (Kd.R_types HO184.out BK185.out (by decide)) (fun _ hk => hk.2) (.int .i64 t177)) (fun _ hk => hk.2) (.int .i64 t178)) (fun _ hk => hk.2) (.slice Ao65 t179.length co65)) (fun _ hk => hk.2) (.slice Ao66 t182.length co66)) (fun _ h_ => h_.1))) hb); have n4_ := Aside0.mk (blk_below (g := gb166) (o := .cells #[.int .i64 a0_0, .int .i64 a0_1, .slice A0_2 l0_2.length c0_2, .slice A0_3 l0_3.length c0_3] 32 (0, 0)) (by (with_reducible repeat (first | refine blk_drewN ?_ _ | refine blk_drew ?_ | refine blk_alloc ?_ _)); refine blk_far ?_ NB166_185.out _; (with_reducible repeat (first | refine blk_drewN ?_ _ | refine blk_drew ?_ | refine blk_alloc ?_ _)); refine blk_far ?_ NB166_185.out _; (with_reducible repeat (first | refine blk_drewN ?_ _ | refine blk_drew ?_ | refine blk_alloc ?_ _)); refine blk_far ?_ NB166_185.out _; (with_reducible repeat (first | refine blk_drewN ?_ _ | refine blk_drew ?_ | refine blk_alloc ?_ _)); refine blk_far ?_ NB166_185.out _; (with_reducible repeat (first | refine blk_drewN ?_ _ | refine blk_drew ?_ | refine blk_alloc ?_ _)); exact BK166.out) hb); have n5_ := Aside0.mk (blk_below (g := gb185) (o := .cells #[.int .i64 t177, .int .i64 t178, .slice Ao65 t179.length co65, .slice Ao66 t182.length co66] 24 (0, 0)) (by (with_reducible repeat (first | refine blk_drewN ?_ _ | refine blk_drew ?_ | refine blk_alloc ?_ _)); refine blk_put (cs := #[.int .i64 t177, .int .i64 t178, .slice Ao65 t179.length co65, .slice none 0 0]) ?_ 3 _ rfl; (with_reducible repeat (first | refine blk_drewN ?_ _ | refine blk_drew ?_ | refine blk_alloc ?_ _)); refine blk_put (cs := #[.int .i64 t177, .int .i64 t178, .slice none 0 0, .slice none 0 0]) ?_ 2 _ rfl; (with_reducible repeat (first | refine blk_drewN ?_ _ | refine blk_drew ?_ | refine blk_alloc ?_ _)); refine blk_put (cs := #[.int .i64 t177, .int .i64 0, .slice none 0 0, .slice none 0 0]) ?_ 1 _ rfl; (with_reducible repeat (first | refine blk_drewN ?_ _ | refine blk_drew ?_ | refine blk_alloc ?_ _)); refine blk_put (cs := #[.int .i64 0, .int .i64 0, .slice none 0 0, .slice none 0 0]) ?_ 0 _ rfl; (with_reducible repeat (first | refine blk_drewN ?_ _ | refine blk_drew ?_ | refine blk_alloc ?_ _)); exact BK185.out) hb); have n6_ := Aside0.mk (below_step (by repeat (first | (with_reducible first | exact HB.out | apply below_alloc | apply pw_below_drewN | apply below_drew1 | refine below_set ?_ GE166.out | refine below_set ?_ GE185.out) | exact HB.out)) hb); clear HO172; clear HO175; clear HO181; clear HO184; clear BK166; clear BK185; clear HB; have HO172 := n0_; have HO175 := n1_; have HO181 := n2_; have HO184 := n3_; have BK166 := n4_; have BK185 := n5_; have HB := n6_; clear n0_ n1_ n2_ n3_ n4_ n5_ n6_; (try clear hb); (try clear hb2); (try clear hk); (try clear hi)))
        have n0_ := Aside0.mk (Kd.R_drew HO172.out)
        have n1_ := Aside0.mk (Kd.R_drew HO175.out)
        have n2_ := Aside0.mk (Kd.R_drew HO181.out)
        have n3_ := Aside0.mk (Kd.R_drew HO184.out)
        have n4_ := Aside0.mk (blk_drew BK166.out)
        have n5_ := Aside0.mk (blk_drew BK185.out)
        have n6_ := Aside0.mk (below_drew1 HB.out)
        clear HO172
        clear HO175
        clear HO181
        clear HO184
        clear BK166
        clear BK185
        clear HB
        have HO172 := n0_
        have HO175 := n1_
        have HO181 := n2_
        have HO184 := n3_
        have BK166 := n4_
        have BK185 := n5_
        have HB := n6_
        clear n0_ n1_ n2_ n3_ n4_ n5_ n6_
        refine start_ (n := 5) (S := fun w' => w'.cell? ⟨gb185, 0, none⟩ = some (.int .i64 t177) ∧ w'.cell? ⟨gb185, 1, none⟩ = some (.int .i64 t178) ∧ w'.cell? ⟨gb185, 2, none⟩ = some (.slice Ao65 t179.length co65) ∧ w'.cell? ⟨gb185, 3, none⟩ = some (.slice Ao66 t182.length co66) ∧ w'.cell? ⟨gb166, 0, none⟩ = some (.int .i64 a0_0) ∧ w'.cell? ⟨gb166, 1, none⟩ = some (.int .i64 a0_1) ∧ w'.cell? ⟨gb166, 2, none⟩ = some (.slice A0_2 l0_2.length c0_2) ∧ w'.cell? ⟨gb166, 3, none⟩ = some (.slice A0_3 l0_3.length c0_3)) (ds := []) #[false, false, false, false, false] (by kernel_rfl) rfl rfl ⟨(blk_cell BK185.out 0).trans rfl, (blk_cell BK185.out 1).trans rfl, (blk_cell BK185.out 2).trans rfl, (blk_cell BK185.out 3).trans rfl, (blk_cell BK166.out 0).trans rfl, (blk_cell BK166.out 1).trans rfl, (blk_cell BK166.out 2).trans rfl, (blk_cell BK166.out 3).trans rfl⟩ (fun hHeld => ?_)
        generalize w67.drew = w68 at HO172 HO175 HO181 HO184 BK166 BK185 HB hHeld ⊢
        refine take_ (i := 0) (N := some 22) (v := ?_) (a' := ?_) #[true, false, false, false, false] rfl rfl (by kernel_rfl) (fun _ _ _ h => h) (Or.inl ⟨by rfl, ?_⟩) hHeld ?_ ?_
        rotate_left
        · rintro w' ⟨s0, s1, s2, s3, s4, s5, s6, s7⟩
          go_simp
          with_reducible rfl
        rotate_left
        · simp only [Act.put, List.setIfInBounds_toArray, List.set_cons_zero, List.set_cons_succ, i64_w, i32_w]
          rfl
        refine take_ (i := 1) (N := some 23) (v := ?_) (a' := ?_) #[true, true, false, false, false] rfl rfl (by kernel_rfl) (fun _ _ _ h => h) (Or.inl ⟨by rfl, ?_⟩) hHeld ?_ ?_
        rotate_left
        · rintro w' ⟨s0, s1, s2, s3, s4, s5, s6, s7⟩
          go_simp
          with_reducible rfl
        rotate_left
        · simp only [Act.put, List.setIfInBounds_toArray, List.set_cons_zero, List.set_cons_succ, i64_w, i32_w]
          rfl
        refine one_ (i := 2) (N := some 24) #[true, true, true, false, false] rfl rfl (by kernel_rfl) (by decide) (fun K hK => ?_)
        refine goes_ Try.func14 (by kernel_rfl) rfl #[.agg #[.int .i64 a0_0, .int .i64 a0_1, .slice A0_2 l0_2.length c0_2, .slice A0_3 l0_3.length c0_3]] (by rfl) rfl rfl (by (try simp only [List.map_toArray, List.map_cons, List.map_nil]); first | done | rfl | (simp only [List.length_drop, List.length_take]; rfl)) ?_
        with_reducible refine (laws_toSegmented.calls k a0_0 a0_1 _ _ l0_2 _ _ l0_3 t187 t188 t189 t192 _ ?side1 ?side2 ?side3 ?side4 A28.out).mono ?_
        (case side1 => repeat (first | exact (Kd.C_below HR0_2.out HB.out) | (with_reducible refine Kd.C_alloc ?_ _) | (with_reducible refine Kd.C_drewN ?_ _) | (with_reducible refine Kd.C_drew ?_)))
        (case side2 => exact HC0_2.out)
        (case side3 => repeat (first | exact (Kd.C_below HR0_3.out HB.out) | (with_reducible refine Kd.C_alloc ?_ _) | (with_reducible refine Kd.C_drewN ?_ _) | (with_reducible refine Kd.C_drew ?_)))
        (case side4 => exact HC0_3.out)
        rintro e w69 ⟨v190, v193, rfl, ho0, ho1, hb⟩
        refine ⟨_, rfl, ?_⟩
        have n0_ := Aside0.mk (Kd.R_mono (Kd.R_told (Kd.R_told (Kd.R_old (by (with_reducible repeat (first | apply Kd.R_alloc | apply Kd.R_drewN | apply Kd.R_drew)); exact HO172.out) hb) (Kd.R_base ho0)) (Kd.R_base ho1)) (fun _ h_ => h_.1))
        have n1_ := Aside0.mk (Kd.R_mono (Kd.R_told (Kd.R_told (Kd.R_old (by (with_reducible repeat (first | apply Kd.R_alloc | apply Kd.R_drewN | apply Kd.R_drew)); exact HO175.out) hb) (Kd.R_base ho0)) (Kd.R_base ho1)) (fun _ h_ => h_.1))
        have n2_ := Aside0.mk (Kd.R_mono (Kd.R_told (Kd.R_told (Kd.R_old (by (with_reducible repeat (first | apply Kd.R_alloc | apply Kd.R_drewN | apply Kd.R_drew)); exact HO181.out) hb) (Kd.R_base ho0)) (Kd.R_base ho1)) (fun _ h_ => h_.1))
        have n3_ := Aside0.mk (Kd.R_mono (Kd.R_told (Kd.R_told (Kd.R_old (by (with_reducible repeat (first | apply Kd.R_alloc | apply Kd.R_drewN | apply Kd.R_drew)); exact HO184.out) hb) (Kd.R_base ho0)) (Kd.R_base ho1)) (fun _ h_ => h_.1))
        have n4_ := Aside0.mk (Kd.R_lower (Kd.R_new' (Kd.R_new' (Kd.R_new' (Kd.R_new' ho0 (Kd.R_lt (by (with_reducible repeat (first | apply Kd.R_alloc | apply Kd.R_drewN | apply Kd.R_drew)); exact HO172.out))) (Kd.R_lt (by (with_reducible repeat (first | apply Kd.R_alloc | apply Kd.R_drewN | apply Kd.R_drew)); exact HO175.out))) (Kd.R_lt (by (with_reducible repeat (first | apply Kd.R_alloc | apply Kd.R_drewN | apply Kd.R_drew)); exact HO181.out))) (Kd.R_lt (by (with_reducible repeat (first | apply Kd.R_alloc | apply Kd.R_drewN | apply Kd.R_drew)); exact HO184.out))) (below_size (by repeat (first | (with_reducible first | exact HB.out | apply below_alloc | apply pw_below_drewN | apply below_drew1 | refine below_set ?_ GE166.out | refine below_set ?_ GE185.out) | exact HB.out))))
        have n5_ := Aside0.mk (Kd.R_lower (Kd.R_new' (Kd.R_new' (Kd.R_new' (Kd.R_new' ho1 (Kd.R_lt (by (with_reducible repeat (first | apply Kd.R_alloc | apply Kd.R_drewN | apply Kd.R_drew)); exact HO172.out))) (Kd.R_lt (by (with_reducible repeat (first | apply Kd.R_alloc | apply Kd.R_drewN | apply Kd.R_drew)); exact HO175.out))) (Kd.R_lt (by (with_reducible repeat (first | apply Kd.R_alloc | apply Kd.R_drewN | apply Kd.R_drew)); exact HO181.out))) (Kd.R_lt (by (with_reducible repeat (first | apply Kd.R_alloc | apply Kd.R_drewN | apply Kd.R_drew)); exact HO184.out))) (below_size (by repeat (first | (with_reducible first | exact HB.out | apply below_alloc | apply pw_below_drewN | apply below_drew1 | refine below_set ?_ GE166.out | refine below_set ?_ GE185.out) | exact HB.out))))
        have n6_ := Aside0.mk (blk_below (g := gb166) (o := .cells #[.int .i64 a0_0, .int .i64 a0_1, .slice A0_2 l0_2.length c0_2, .slice A0_3 l0_3.length c0_3] 32 (0, 0)) (by (with_reducible repeat (first | refine blk_drewN ?_ _ | refine blk_drew ?_ | refine blk_alloc ?_ _)); exact BK166.out) hb)
        have n7_ := Aside0.mk (blk_below (g := gb185) (o := .cells #[.int .i64 t177, .int .i64 t178, .slice Ao65 t179.length co65, .slice Ao66 t182.length co66] 24 (0, 0)) (by (with_reducible repeat (first | refine blk_drewN ?_ _ | refine blk_drew ?_ | refine blk_alloc ?_ _)); exact BK185.out) hb)
        have n8_ := Aside0.mk (below_step (by repeat (first | (with_reducible first | exact HB.out | apply below_alloc | apply pw_below_drewN | apply below_drew1 | refine below_set ?_ GE166.out | refine below_set ?_ GE185.out) | exact HB.out)) hb)
        clear HO172
        clear HO175
        clear HO181
        clear HO184
        clear BK166
        clear BK185
        clear HB
        have HO172 := n0_
        have HO175 := n1_
        have HO181 := n2_
        have HO184 := n3_
        have HO191 := n4_
        have HO194 := n5_
        have BK166 := n6_
        have BK185 := n7_
        have HB := n8_
        clear n0_ n1_ n2_ n3_ n4_ n5_ n6_ n7_ n8_
        (try clear hb)
        (try clear hb2)
        (try clear hk)
        (try clear hi)
        (try clear ho0)
        (try clear ho1)
        obtain ⟨Ao70, co70, eo70⟩ := Kd.R_slice HO191.out
        (first | subst eo70 | (injection eo70 with f1_ f2_ f3_; have f4_ := f1_.symm; have f5_ := f3_.symm; clear f1_ f2_ f3_; subst f4_; subst f5_))
        obtain ⟨Ao71, co71, eo71⟩ := Kd.R_slice HO194.out
        (first | subst eo71 | (injection eo71 with f1_ f2_ f3_; have f4_ := f1_.symm; have f5_ := f3_.symm; clear f1_ f2_ f3_; subst f4_; subst f5_))
        refine hK.out _ _ ⟨(blk_cell BK185.out 0).trans rfl, (blk_cell BK185.out 1).trans rfl, (blk_cell BK185.out 2).trans rfl, (blk_cell BK185.out 3).trans rfl, (blk_cell BK166.out 0).trans rfl, (blk_cell BK166.out 1).trans rfl, (blk_cell BK166.out 2).trans rfl, (blk_cell BK166.out 3).trans rfl⟩ (fun hHeld => ?_)
        clear hK K
        refine norm_ (a' := ?_) ?_ ?_
        rotate_left
        · show Act.put _ (some 24) _ = _
          simp only [Act.put, List.setIfInBounds_toArray, List.set_cons_zero, List.set_cons_succ, i64_w, i32_w]
          rfl
        refine one_ (i := 3) (N := some 25) #[true, true, true, true, false] rfl rfl (by kernel_rfl) (by decide) (fun K hK => ?_)
        refine goes_ Try.func9 (by kernel_rfl) rfl #[.agg #[.int .i64 t177, .int .i64 t178, .slice Ao65 t179.length co65, .slice Ao66 t182.length co66], .agg #[.int .i64 t187, .int .i64 t188, .slice Ao70 t189.length co70, .slice Ao71 t192.length co71]] (by rfl) rfl rfl (by (try simp only [List.map_toArray, List.map_cons, List.map_nil]); first | done | rfl | (simp only [List.length_drop, List.length_take]; rfl)) ?_
        with_reducible refine (laws_eqSegmented.calls k t177 t178 _ _ t179 _ _ t182 t187 t188 _ _ t189 _ _ t192 false _ ?side1 ?side2 ?side3 ?side4 ?side5 ?side6 ?side7 ?side8 A29.out).mono ?_
        (case side1 => repeat (first | exact (Kd.R_reads' HO181.out).2.2 | (with_reducible refine Kd.C_alloc ?_ _) | (with_reducible refine Kd.C_drewN ?_ _) | (with_reducible refine Kd.C_drew ?_)))
        (case side2 => exact (Kd.R_reads' HO181.out).2.1)
        (case side3 => repeat (first | exact (Kd.R_reads' HO184.out).2.2 | (with_reducible refine Kd.C_alloc ?_ _) | (with_reducible refine Kd.C_drewN ?_ _) | (with_reducible refine Kd.C_drew ?_)))
        (case side4 => exact (Kd.R_reads' HO184.out).2.1)
        (case side5 => repeat (first | exact (Kd.R_reads' HO191.out).2.2 | (with_reducible refine Kd.C_alloc ?_ _) | (with_reducible refine Kd.C_drewN ?_ _) | (with_reducible refine Kd.C_drew ?_)))
        (case side6 => exact (Kd.R_reads' HO191.out).2.1)
        (case side7 => repeat (first | exact (Kd.R_reads' HO194.out).2.2 | (with_reducible refine Kd.C_alloc ?_ _) | (with_reducible refine Kd.C_drewN ?_ _) | (with_reducible refine Kd.C_drew ?_)))
        (case side8 => exact (Kd.R_reads' HO194.out).2.1)
        rintro e w72 ⟨rfl, hb⟩
        refine ⟨_, rfl, ?_⟩
        have n0_ := Aside0.mk (Kd.R_below (by (with_reducible repeat (first | apply Kd.R_alloc | apply Kd.R_drewN | apply Kd.R_drew)); exact HO172.out) hb)
        have n1_ := Aside0.mk (Kd.R_below (by (with_reducible repeat (first | apply Kd.R_alloc | apply Kd.R_drewN | apply Kd.R_drew)); exact HO175.out) hb)
        have n2_ := Aside0.mk (Kd.R_below (by (with_reducible repeat (first | apply Kd.R_alloc | apply Kd.R_drewN | apply Kd.R_drew)); exact HO181.out) hb)
        have n3_ := Aside0.mk (Kd.R_below (by (with_reducible repeat (first | apply Kd.R_alloc | apply Kd.R_drewN | apply Kd.R_drew)); exact HO184.out) hb)
        have n4_ := Aside0.mk (Kd.R_below (by (with_reducible repeat (first | apply Kd.R_alloc | apply Kd.R_drewN | apply Kd.R_drew)); exact HO191.out) hb)
        have n5_ := Aside0.mk (Kd.R_below (by (with_reducible repeat (first | apply Kd.R_alloc | apply Kd.R_drewN | apply Kd.R_drew)); exact HO194.out) hb)
        have n6_ := Aside0.mk (blk_below (g := gb166) (o := .cells #[.int .i64 a0_0, .int .i64 a0_1, .slice A0_2 l0_2.length c0_2, .slice A0_3 l0_3.length c0_3] 32 (0, 0)) (by (with_reducible repeat (first | refine blk_drewN ?_ _ | refine blk_drew ?_ | refine blk_alloc ?_ _)); exact BK166.out) hb)
        have n7_ := Aside0.mk (blk_below (g := gb185) (o := .cells #[.int .i64 t177, .int .i64 t178, .slice Ao65 t179.length co65, .slice Ao66 t182.length co66] 24 (0, 0)) (by (with_reducible repeat (first | refine blk_drewN ?_ _ | refine blk_drew ?_ | refine blk_alloc ?_ _)); exact BK185.out) hb)
        have n8_ := Aside0.mk (below_step (by repeat (first | (with_reducible first | exact HB.out | apply below_alloc | apply pw_below_drewN | apply below_drew1 | refine below_set ?_ GE166.out | refine below_set ?_ GE185.out) | exact HB.out)) hb)
        clear HO172
        clear HO175
        clear HO181
        clear HO184
        clear HO191
        clear HO194
        clear BK166
        clear BK185
        clear HB
        have HO172 := n0_
        have HO175 := n1_
        have HO181 := n2_
        have HO184 := n3_
        have HO191 := n4_
        have HO194 := n5_
        have BK166 := n6_
        have BK185 := n7_
        have HB := n8_
        clear n0_ n1_ n2_ n3_ n4_ n5_ n6_ n7_ n8_
        (try clear hb)
        (try clear hb2)
        (try clear hk)
        (try clear hi)
        refine hK.out _ _ ⟨(blk_cell BK185.out 0).trans rfl, (blk_cell BK185.out 1).trans rfl, (blk_cell BK185.out 2).trans rfl, (blk_cell BK185.out 3).trans rfl, (blk_cell BK166.out 0).trans rfl, (blk_cell BK166.out 1).trans rfl, (blk_cell BK166.out 2).trans rfl, (blk_cell BK166.out 3).trans rfl⟩ (fun hHeld => ?_)
        clear hK K
        refine norm_ (a' := ?_) ?_ ?_
        rotate_left
        · show Act.put _ (some 25) _ = _
          simp only [Act.put, List.setIfInBounds_toArray, List.set_cons_zero, List.set_cons_succ, i64_w, i32_w]
          rfl
        refine pure_ (i := 4) (N := some 26) (v := ?_) (a' := ?_) #[true, true, true, true, true] rfl rfl (by kernel_rfl) (fun _ _ _ h => h) (Or.inl ⟨by rfl, ?_⟩) ?_ ?_
        rotate_left
        · intro w'
          go_simp
          with_reducible rfl
        rotate_left
        · simp only [Act.put, List.setIfInBounds_toArray, List.set_cons_zero, List.set_cons_succ, i64_w, i32_w]
          rfl
        refine done_ (by kernel_rfl) ?_
        try go_wp2
        go_ret
        exact ⟨by first | rfl | (simp [errW_none, errW_some] <;> rfl) | (simp [*, errW_none, errW_some] <;> rfl), by repeat (first | (with_reducible first | exact HB.out | apply below_alloc | apply pw_below_drewN | apply below_drew1 | refine below_set ?_ GE166.out | refine below_set ?_ GE185.out) | exact HB.out)⟩

/-- THE ONE PURE STATEMENT of laws_FnExactGoodSegmented: yours. -/
def laws_FnExactGoodSegmented.Pure : Prop := ∀ (a0_0 : Int) (a0_1 : Int) (l0_2 : List (S63)) (l0_3 : List (S63)), (Lit.int .i64 a0_0).wf = true → (Lit.int .i64 a0_1).wf = true → l0_2.length ≤ maxLen → (∀ x ∈ l0_2, x.f0.size ≤ maxLen ∧ x.f1.size ≤ maxLen) → l0_3.length ≤ maxLen → (∀ x ∈ l0_3, x.f0.size ≤ maxLen ∧ x.f1.size ≤ maxLen) → ∃ k, laws_FnExactGoodSegmented.f k a0_0 a0_1 l0_2 l0_3 = some true
theorem laws_FnExactGoodSegmented.walk (P : laws_FnExactGoodSegmented.Pure) (a0_0 : Int) (a0_1 : Int) (A0_2 : Option Addr) (c0_2 : Nat) (l0_2 : List (S63)) (A0_3 : Option Addr) (c0_3 : Nat) (l0_3 : List (S63)) (w : World) (w0_0 : (Lit.int .i64 a0_0).wf = true) (w0_1 : (Lit.int .i64 a0_1).wf = true) (wr0_2 : Kd.C k63 w A0_2 l0_2.length l0_2) (wc0_2 : l0_2.length ≤ c0_2) (wm0_2 : l0_2.length ≤ maxLen) (ww0_2 : ∀ x ∈ l0_2, x.f0.size ≤ maxLen ∧ x.f1.size ≤ maxLen) (wr0_3 : Kd.C k63 w A0_3 l0_3.length l0_3) (wc0_3 : l0_3.length ≤ c0_3) (wm0_3 : l0_3.length ≤ maxLen) (ww0_3 : ∀ x ∈ l0_3, x.f0.size ≤ maxLen ∧ x.f1.size ≤ maxLen) :
    Calls Try.prog 4 #[.agg #[.int .i64 a0_0, .int .i64 a0_1, .slice A0_2 l0_2.length c0_2, .slice A0_3 l0_3.length c0_3]] w fun e w' => e = .returned (.bool true) ∧ Below w.heap.size w w' := by
  obtain ⟨k, h⟩ := P a0_0 a0_1 l0_2 l0_3 w0_0 w0_1 wm0_2 ww0_2 wm0_3 ww0_3
  refine (laws_FnExactGoodSegmented.calls k a0_0 a0_1 _ _ l0_2 _ _ l0_3 true w wr0_2 wc0_2 wr0_3 wc0_3 h).mono ?_
  rintro e w' ⟨rfl, hd⟩
  exact ⟨rfl, hd⟩

end Go.Proofs.Ytgdlnbdbilgboaa.PFnExactGoodSegmented
