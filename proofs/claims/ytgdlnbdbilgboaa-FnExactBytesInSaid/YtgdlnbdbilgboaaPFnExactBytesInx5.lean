-- Written by a program of this project (xprint.py) out of the translation; Lean checks it.
import Derived.Test.YtgdlnbdbilgboaaPFnExactBytesInx0
import Derived.Test.YtgdlnbdbilgboaaPFnExactBytesInx4
namespace Go.Proofs.Ytgdlnbdbilgboaa.PFnExactBytesIn
open Go.RowKit Go.Proofs.YtgdlnbdbilgboaaW.PrintWords Go.Proofs.YtgdlnbdbilgboaaW.PrintLast Go.Proofs.YtgdlnbdbilgboaaW.PrintMore
attribute [local go_sem] max2_int min2_int max_two min_two max_three min_three max_four min_four   -- for this text's walks alone
set_option linter.unusedVariables false
set_option linter.unusedSimpArgs false

/-- the first place, counted from n, at which p holds; -1 if there is none -/
def idxO {α : Type} (p : α → Option Bool) : List α → Int → Option Int
  | [], _ => some (-1)
  | x :: xs, n => (p x).bind fun b => if b = true then some n else idxO p xs (n + 1)
theorem idxO_at {α : Type} (p : α → Option Bool) (l : List α) (n : Nat) (h : n < l.length) : idxO p (l.drop n) (n : Int) = (p l[n]).bind fun b => if b = true then some (n : Int) else idxO p (l.drop (n + 1)) ((n + 1 : Nat) : Int) := by
  rw [List.drop_eq_getElem_cons h]; rfl
theorem idxO_mono {α : Type} (p q : α → Option Bool) (h : ∀ x, LeO (p x) (q x)) (l : List α) : ∀ n, LeO (idxO p l n) (idxO q l n) := by
  induction l with
  | nil => intro n; exact LeO.refl _
  | cons x xs ih => intro n; unfold idxO; exact LeO.bind (h x) (fun b => LeO.ite (LeO.refl _) (ih _))
set_option maxHeartbeats 4000000 in
/-- slices.IndexFunc: the first place at which the predicate holds -/
theorem xIndexFunc_T49 (p : S49 → Option Bool) (g : Nat) (lb : Array Value) (eg : ∀ args w, (callFunc g args).run Try.prog w = .ok (.enter g args) w) (A0 : Option Addr) (c0 : Nat) (l0 : List S49) (i : Int) (w : World)
    (hr0 : Kd.C k49 w A0 l0.length l0) (hc0 : l0.length ≤ c0) (hbig : l0.length < 9223372036854775807)
    (hp : ∀ (W : World) (x : S49) (b : Bool), Below w.heap.size w W → p x = some b → Calls Try.prog g (#[.agg #[.string x.f0, .string x.f1]] ++ lb) W fun e w' => e = .returned (.bool b) ∧ Below w.heap.size w w')
    (h : idxO p l0 0 = some i) :
    Calls Try.prog 49 #[.slice A0 l0.length c0, .func (.func g) #[] lb] w fun e w' => e = .returned (.int .i64 i) ∧ Below w.heap.size w w' := by
  have HR0 := Aside0.mk hr0
  have HC0 := Aside0.mk hc0
  have HP := Aside0.mk hp
  have HI := Aside0.mk h
  clear hr0 hc0 hp h
  go_enter Try.func49, Try.ntmps49
  go_wp2
  go_loopg [5, 8] l0.length (fun gg _ s8 wr => ∃ kk : Nat, kk ≤ l0.length ∧ l0.length - kk ≤ gg ∧ s8 = .int .i64 kk ∧ Aside0 (Below w.heap.size w wr) ∧ Aside0 (idxO p (l0.drop kk) (kk : Int) = some i))
  case atStart => exact ⟨0, Nat.zero_le _, by omega, rfl, ⟨Below.refl _ w⟩, HI⟩
  case round =>
    obtain ⟨kk, hkk, hg, rfl, BW, A⟩ := hrel
    clear HI
    by_cases hlt : kk < l0.length
    · have hltz : (kk : Int) < (l0.length : Int) := by omega
      have H := A.out
      clear A
      rw [idxO_at p l0 kk hlt] at H
      obtain ⟨b, hb, H⟩ := Option.bind_eq_some_iff.mp H
      have hcall := HP.out wr l0[kk] b BW.out hb
      have hrd : rd_T49 l0 (kk : Int) = l0[kk] := by unfold rd_T49; simp [List.getD_eq_getElem?_getD, hlt]
      obtain ⟨ad, he, hy0, hy1⟩ := at_T49 (Kd.C_below HR0.out BW.out) (kk : Int) (by omega) hltz
      cases he
      have hx0 : wr.cell? (ad.add (kk * 2)) = some (.string (l0[kk].f0)) := by rw [← hrd]; exact hy0
      have hx1 : wr.cell? ⟨(ad.add (kk * 2)).block, (ad.add (kk * 2)).off + 1, none⟩ = some (.string (l0[kk].f1)) := by rw [← hrd]; exact hy1
      clear hy0 hy1
      generalize l0[kk] = x at *
      cases b with
      | true =>
        obtain rfl : (kk : Int) = i := Option.some.inj H
        clear H hb
        go_wp2_with (go_at_fn g; refine hcall.mono ?_; rintro e w' ⟨rfl, hb'⟩)
        go_ret
        exact ⟨rfl, hb'⟩
      | false =>
        have H' := Aside0.mk H
        clear H hb
        go_wp2_with (go_at_fn g; refine hcall.mono ?_; rintro e w' ⟨rfl, hb'⟩)
        go_roundg (l0.length - (kk + 1))
        case measure => omega
        case rel => exact ⟨kk + 1, by omega, by omega, by go_num, ⟨hb'⟩, ⟨by have z := H'.out; rw [if_neg (by decide)] at z; exact z⟩⟩
    · have hltz : ¬ (kk : Int) < (l0.length : Int) := by omega
      have H := A.out
      rw [List.drop_of_length_le (by omega)] at H
      obtain rfl : (-1 : Int) = i := Option.some.inj H
      clear H A
      go_wp2
      go_ret
      exact ⟨rfl, BW.out⟩
set_option maxHeartbeats 4000000 in
theorem xContainsFunc_T49 (p : S49 → Option Bool) (g : Nat) (lb : Array Value) (eg : ∀ args w, (callFunc g args).run Try.prog w = .ok (.enter g args) w) (A0 : Option Addr) (c0 : Nat) (l0 : List S49) (i : Int) (w : World)
    (hr0 : Kd.C k49 w A0 l0.length l0) (hc0 : l0.length ≤ c0) (hbig : l0.length < 9223372036854775807)
    (hp : ∀ (W : World) (x : S49) (b : Bool), Below w.heap.size w W → p x = some b → Calls Try.prog g (#[.agg #[.string x.f0, .string x.f1]] ++ lb) W fun e w' => e = .returned (.bool b) ∧ Below w.heap.size w w')
    (h : idxO p l0 0 = some i) :
    Calls Try.prog 45 #[.slice A0 l0.length c0, .func (.func g) #[] lb] w fun e w' => e = .returned (.bool (decide (i ≥ 0))) ∧ Below w.heap.size w w' := by
  have hcall := xIndexFunc_T49 p g lb eg A0 c0 l0 i w hr0 hc0 hbig hp h
  clear hr0 hc0 hbig hp h
  go_enter Try.func45, Try.ntmps45
  go_wp2_with (go_at_call 49; refine hcall.mono ?_; rintro e w' ⟨rfl, hb'⟩)
  go_ret
  exact ⟨rfl, hb'⟩
/-! ### xAll_T49_impl_isEntry: function 33, with function 34 -/
def xAll_T49_impl_isEntry.z (x : S49) : Option Bool := (impl_isEntry.f x.f0 x.f1).bind fun b => some (!b)
def xAll_T49_impl_isEntry.f (l0 : List S49) : Option (Bool) := if l0.length < 9223372036854775807 then ((idxO (xAll_T49_impl_isEntry.z) l0 0).bind fun i => some (!decide (i ≥ 0))) else none
set_option maxHeartbeats 8000000 in
set_option maxRecDepth 100000 in
theorem xAll_T49_impl_isEntry.calls (A0 : Option Addr) (c0 : Nat) (l0 : List S49) (r : Bool) (w : World) (hr0 : Kd.C k49 w A0 l0.length l0) (hc0 : l0.length ≤ c0) (h : xAll_T49_impl_isEntry.f l0 = some r) :
    Calls Try.prog 33 #[.slice A0 l0.length c0, .func (.func 34) #[] #[]] w fun e w' => e = .returned (.bool r) ∧ Below w.heap.size w w' := by
  have hbig : l0.length < 9223372036854775807 := by
    by_cases c : l0.length < 9223372036854775807
    · exact c
    · unfold xAll_T49_impl_isEntry.f at h; rw [if_neg c] at h; cases h
  have h1 : ((idxO (xAll_T49_impl_isEntry.z) l0 0).bind fun i => some (!decide (i ≥ 0))) = some r := by unfold xAll_T49_impl_isEntry.f at h; rw [if_pos hbig] at h; exact h
  clear h
  obtain ⟨i, hi1, hi2⟩ := Option.bind_eq_some_iff.mp h1
  clear h1
  obtain rfl := Option.some.inj hi2
  clear hi2
  have eg : ∀ args w, (callFunc 46 args).run Try.prog w = .ok (.enter 46 args) w := enters_of Try.func46 (by kernel_rfl) rfl
  have hb1 : Below w.heap.size w (w.alloc (.cells #[.func (.func 34) #[] #[]] 54)) := (Below.refl _ w).alloc (Nat.le_refl _) _
  have hcall := xContainsFunc_T49 (xAll_T49_impl_isEntry.z) 46 #[.pointer (some ⟨w.heap.size, 0, none⟩)] eg A0 c0 l0 i (w.alloc (.cells #[.func (.func 34) #[] #[]] 54)) (Kd.C_below hr0 hb1) hc0 hbig
    (by
      intro W x b hb hz
      have hcell : W.cell? ⟨w.heap.size, 0, none⟩ = some (.func (.func 34) #[] #[]) := (hb.cell (p := ⟨w.heap.size, 0, none⟩) (by simp)).trans (by simp)
      obtain ⟨b2, hq, hb2⟩ := Option.bind_eq_some_iff.mp hz
      obtain rfl : (!b2) = b := Option.some.inj hb2
      have hq' := Aside0.mk hq
      have hb' := Aside0.mk hb
      clear hb hz hb2 hq
      show Calls Try.prog 46 #[.agg #[.string x.f0, .string x.f1], .pointer (some ⟨w.heap.size, 0, none⟩)] W _
      have hsz : w.heap.size < W.heap.size := by have z := hb'.out.size; simp at z; omega
      go_enter Try.func46, Try.ntmps46
      go_wp2_with (go_at_call 34; refine (impl_isEntry.calls x.f0 x.f1 b2 _ hq'.out).mono ?_; rintro e w' ⟨rfl, hb2⟩)
      go_ret
      exact ⟨rfl, below_step (by repeat (first | (with_reducible first | exact hb'.out | apply below_alloc | apply pw_below_drewN | apply below_drew1) | exact hb'.out)) hb2⟩)
    hi1
  have hb1' := Aside0.mk hb1
  clear hr0 hc0 hbig hi1 hb1 eg
  go_enter Try.func33, Try.ntmps33
  go_wp2_with (go_at_call 45; refine hcall.mono ?_; rintro e w' ⟨rfl, hb'⟩)
  go_ret
  exact ⟨rfl, below_then hb1'.out (by simp) hb'⟩
/-! ### impl_GoodSegmented: function 15 -/
def xin (s : ByteArray) (acc : List ByteArray) : Bool := acc.any fun t => decide (t.data.toList = s.data.toList)
/-- the names of a list's entries, one after the other, are all unlike, and unlike those of acc -/
def xapart : List ByteArray → List S49 → Bool
  | _, [] => true
  | acc, x :: xs => if xin x.f0 acc = true then false else xapart (acc ++ [x.f0]) xs
def impl_GoodSegmented.f (k : Nat) (a0 a1 : Int) (l0 l1 : List S49) : Option Bool :=
  (impl_isRoom.f a0).bind fun b1 => if b1 = true then ((impl_isRoom.f a1).bind fun b2 => if b2 = true then ((impl_fits.f k l0 a0).bind fun b3 => if b3 = true then ((impl_fits.f k l1 a1).bind fun b4 => if b4 = true then
    ((xAll_T49_impl_isEntry.f l0).bind fun b5 => if b5 = true then ((xAll_T49_impl_isEntry.f l1).bind fun b6 => if b6 = true then
      (if l0.length + l1.length < 1000 then (if ∀ x ∈ l0 ++ l1, x.f0.size ≤ 1000 then some (xapart [] (l0 ++ l1)) else none) else none)
    else some false) else some false) else some false) else some false) else some false) else some false
theorem impl_GoodSegmented.mono : ∀ a0 a1 l0 l1 k, LeO (impl_GoodSegmented.f k a0 a1 l0 l1) (impl_GoodSegmented.f (k + 1) a0 a1 l0 l1) := by
  intro a0 a1 l0 l1 k
  unfold impl_GoodSegmented.f
  refine LeO.bind (LeO.refl _) (fun _ => LeO.ite (LeO.bind (LeO.refl _) (fun _ => LeO.ite (LeO.bind (impl_fits.mono _ _ _) (fun _ => LeO.ite (LeO.bind (impl_fits.mono _ _ _) (fun _ => LeO.ite (LeO.refl _) (LeO.refl _))) (LeO.refl _))) (LeO.refl _))) (LeO.refl _))
/-! a set of texts, as the map of the call's own -/
def xset (acc : List ByteArray) : DataW Unit := Go.Maps.setOf (.lit (.bool true)) (acc.map fun s => Lit.string s.data.toList)
theorem xset_snoc (acc : List ByteArray) (s : ByteArray) : xset (acc ++ [s]) = (xset acc).put (.string s.data.toList) (.lit (.bool true)) := by
  unfold xset; rw [List.map_append, List.map_cons, List.map_nil, Go.Maps.setOf_snoc]
theorem xset_at (k : Lit) (z : DataW Unit) (acc : List Lit) : ∀ m : DataW Unit, Go.Maps.IsMap m → (∀ x ∈ acc, WideAt.IsKeyLit x) →
    (k ∈ acc → (acc.foldl (fun m x => m.put x (.lit (.bool true))) m).atKey k z = .lit (.bool true)) ∧ (¬ k ∈ acc → (acc.foldl (fun m x => m.put x (.lit (.bool true))) m).atKey k z = m.atKey k z) := by
  induction acc with
  | nil => intro m _ _; exact ⟨fun h => by simp at h, fun _ => rfl⟩
  | cons x xs ih =>
    intro m hm hk
    obtain ⟨i1, i2⟩ := ih (m.put x (.lit (.bool true))) (hm.put _ _) (fun y hy => hk y (List.mem_cons_of_mem _ hy))
    refine ⟨fun h => ?_, fun h => ?_⟩
    · rw [List.foldl_cons]
      refine Classical.byCases i1 fun h1 => ?_
      rw [i2 h1]
      rcases List.mem_cons.mp h with h2 | h2
      · subst h2; exact Go.Maps.atKey_put_same hm (hk k List.mem_cons_self) _ _
      · exact absurd h2 h1
    · rw [List.foldl_cons, i2 (fun h1 => h (List.mem_cons_of_mem _ h1))]
      exact Go.Maps.atKey_put_other (fun h1 => h (by rw [h1]; exact List.mem_cons_self)) _ _
theorem xset_get (acc : List ByteArray) (s : ByteArray) : (xset acc).atKey (.string s.data.toList) (.lit (.bool false)) = .lit (.bool (xin s acc)) := by
  unfold xset Go.Maps.setOf
  obtain ⟨i1, i2⟩ := xset_at (.string s.data.toList) (.lit (.bool false)) (acc.map fun s => Lit.string s.data.toList) (.map []) Go.Maps.isMap_empty (fun x hx => by obtain ⟨y, _, rfl⟩ := List.mem_map.mp hx; trivial)
  cases h : xin s acc with
  | true =>
    obtain ⟨t, ht, e⟩ := List.any_eq_true.mp h
    exact i1 (List.mem_map.mpr ⟨t, ht, by rw [of_decide_eq_true e]⟩)
  | false =>
    rw [i2 (fun hm => by
      obtain ⟨t, ht, e⟩ := List.mem_map.mp hm
      have e2 : t.data.toList = s.data.toList := by injection e
      have z : xin s acc = true := List.any_eq_true.mpr ⟨t, ht, decide_eq_true e2⟩
      rw [h] at z; cases z)]
    rfl
theorem xlookup_set {P : Program} (w : World) {ops : Array Oper} {rest : List Oper} {o : Oper} {a : Act} {Q : Exit → Act → World → Prop}
    (hg : o.guard = none) (m x : Operand) (t : TypeId) (hop : o.op = Op.lookup t m x false)
    (k e : TypeId) (K : Go.Maps.Keyed P k) (hk : P.underlying k = some .string) (ht : P.underlying t = some (.map k e)) (he : P.underlying e = some .bool) (hz : (zeroValue e).run P w = .ok (.bool false) w) (b n : Nat) (acc : List ByteArray)
    (hm : a.eval m = .map (some b)) (hown : w.ownsMap P k (plainElem P e) b n (xset acc)) (s : ByteArray) (hx : a.eval x = .string s) (hs : s.size ≤ maxLen)
    (hK : wpList P ops Q rest (a.put o.dst (.bool (xin s acc))) w) :
    wpList P ops Q (o :: rest) a w := by
  refine wpList_plain hg fun K' hK' => ?_
  obtain ⟨v, ps, hrun, hv⟩ := hown.lookup K ht hz (plainElem_bool he false) (WideMaps.keyOf_string_mk hk hs)
  rw [xset_get] at hv
  have hvb : v = .bool (xin s acc) := by
    unfold plainElem at hv
    rw [he] at hv
    cases v <;> simp at hv
    rw [hv.1]
  subst hvb
  unfold Oper.wp
  simp [execOp, hop, hm, hx, hrun, Result.andThen]
  exact hK' _ _ hK
theorem xzeroB (w : World) : (zeroValue 4).run Try.prog w = .ok (.bool false) w := by kernel_rfl
theorem xseg_cells {w w' : World} {a b c d : Value} {T : Nat} (h : Below (w.heap.size + 1) (w.alloc (.cells #[a, b, c, d] T)) w') :
    w'.cell? ⟨w.heap.size, 0, none⟩ = some a ∧ w'.cell? ⟨w.heap.size, 1, none⟩ = some b ∧ w'.cell? ⟨w.heap.size, 2, none⟩ = some c ∧ w'.cell? ⟨w.heap.size, 3, none⟩ = some d :=
  ⟨(h.cell (p := ⟨w.heap.size, 0, none⟩) (Nat.lt_succ_self _)).trans (by simp), (h.cell (p := ⟨w.heap.size, 1, none⟩) (Nat.lt_succ_self _)).trans (by simp), (h.cell (p := ⟨w.heap.size, 2, none⟩) (Nat.lt_succ_self _)).trans (by simp), (h.cell (p := ⟨w.heap.size, 3, none⟩) (Nat.lt_succ_self _)).trans (by simp)⟩
theorem xseg_below {w w' : World} {o : Obj} (h : Below (w.heap.size + 1) (w.alloc o) w') : Below w.heap.size w w' := (below_alloc (Below.refl _ w) o).trans (h.mono (Nat.le_succ _))
set_option maxHeartbeats 16000000 in
set_option maxRecDepth 100000 in
theorem impl_GoodSegmented.calls (k : Nat) (a0 a1 : Int) (A0 : Option Addr) (c0 : Nat) (l0 : List S49) (A1 : Option Addr) (c1 : Nat) (l1 : List S49) (r : Bool) (w : World) (hr0 : Kd.C k49 w A0 l0.length l0) (hc0 : l0.length ≤ c0) (hr1 : Kd.C k49 w A1 l1.length l1) (hc1 : l1.length ≤ c1) (h : impl_GoodSegmented.f k a0 a1 l0 l1 = some r) :
    Calls Try.prog 15 #[.agg #[.int .i64 a0, .int .i64 a1, .slice A0 l0.length c0, .slice A1 l1.length c1]] w fun e w' => e = .returned (.bool r) ∧ Below w.heap.size w w' := by
  have hu24 := Try.underlying24
  have hu49 := Try.underlying49
  have HR0 := Aside0.mk hr0
  have HC0 := Aside0.mk hc0
  have HR1 := Aside0.mk hr1
  have HC1 := Aside0.mk hc1
  clear hr0 hc0 hr1 hc1
  unfold impl_GoodSegmented.f at h
  obtain ⟨b1, hb, h⟩ := Option.bind_eq_some_iff.mp h
  have H1 := Aside0.mk hb
  clear hb
  cases b1 with
  | false =>
    rw [if_neg (by decide)] at h
    obtain rfl := Option.some.inj h
    clear h
    go_enter Try.func15, Try.ntmps15
    go_wp2_with (first
      | (go_at_call 24; with_reducible refine (impl_isRoom.calls a0 _ _ H1.out).mono ?_; rintro e w' ⟨rfl, ⟨nd1, rfl⟩⟩))
    go_ret
    exact ⟨rfl, (by repeat (first | exact Below.refl _ _ | exact HB4.out | exact HB3.out | exact HB2.out | exact HB1.out | apply below_drew1 | apply pw_below_drewN | apply below_alloc))⟩
  | true =>
    rw [if_pos rfl] at h
    obtain ⟨b2, hb, h⟩ := Option.bind_eq_some_iff.mp h
    have H2 := Aside0.mk hb
    clear hb
    cases b2 with
    | false =>
      rw [if_neg (by decide)] at h
      obtain rfl := Option.some.inj h
      clear h
      go_enter Try.func15, Try.ntmps15
      go_wp2_with (first
        | (go_at_call 24; with_reducible refine (impl_isRoom.calls a0 _ _ H1.out).mono ?_; rintro e w' ⟨rfl, ⟨nd1, rfl⟩⟩)
        | (go_at_call 24; with_reducible refine (impl_isRoom.calls a1 _ _ H2.out).mono ?_; rintro e w' ⟨rfl, ⟨nd2, rfl⟩⟩))
      go_ret
      exact ⟨rfl, (by repeat (first | exact Below.refl _ _ | exact HB4.out | exact HB3.out | exact HB2.out | exact HB1.out | apply below_drew1 | apply pw_below_drewN | apply below_alloc))⟩
    | true =>
      rw [if_pos rfl] at h
      obtain ⟨b3, hb, h⟩ := Option.bind_eq_some_iff.mp h
      have H3 := Aside0.mk hb
      clear hb
      cases b3 with
      | false =>
        rw [if_neg (by decide)] at h
        obtain rfl := Option.some.inj h
        clear h
        go_enter Try.func15, Try.ntmps15
        go_wp2_with (first
          | (go_at_call 24; with_reducible refine (impl_isRoom.calls a0 _ _ H1.out).mono ?_; rintro e w' ⟨rfl, ⟨nd1, rfl⟩⟩)
          | (go_at_call 24; with_reducible refine (impl_isRoom.calls a1 _ _ H2.out).mono ?_; rintro e w' ⟨rfl, ⟨nd2, rfl⟩⟩)
          | (go_at_call 32; with_reducible refine (impl_fits.calls k A0 c0 l0 a0 _ _ ?s1 ?s2 H3.out).mono ?_; (case s1 => exact Kd.C_below HR0.out (by repeat (first | exact Below.refl _ _ | apply below_drew1 | apply pw_below_drewN | apply below_alloc))); (case s2 => exact HC0.out); rintro e w1 ⟨rfl, hb1⟩; have HX1 : Aside0 (Below (w.heap.size + 1) (w.alloc (.cells #[.int .i64 a0, .int .i64 a1, .slice A0 l0.length c0, .slice A1 l1.length c1] 24)) w1) := ⟨below_then (by repeat (first | exact Below.refl _ _ | apply below_drew1 | apply pw_below_drewN)) (by simp) hb1⟩; obtain ⟨hq10, hq11, hq12, hq13⟩ := xseg_cells HX1.out; have HB1 := Aside0.mk (xseg_below HX1.out); clear hb1))
        go_ret
        exact ⟨rfl, (by repeat (first | exact Below.refl _ _ | exact HB4.out | exact HB3.out | exact HB2.out | exact HB1.out | apply below_drew1 | apply pw_below_drewN | apply below_alloc))⟩
      | true =>
        rw [if_pos rfl] at h
        obtain ⟨b4, hb, h⟩ := Option.bind_eq_some_iff.mp h
        have H4 := Aside0.mk hb
        clear hb
        cases b4 with
        | false =>
          rw [if_neg (by decide)] at h
          obtain rfl := Option.some.inj h
          clear h
          go_enter Try.func15, Try.ntmps15
          go_wp2_with (first
            | (go_at_call 24; with_reducible refine (impl_isRoom.calls a0 _ _ H1.out).mono ?_; rintro e w' ⟨rfl, ⟨nd1, rfl⟩⟩)
            | (go_at_call 24; with_reducible refine (impl_isRoom.calls a1 _ _ H2.out).mono ?_; rintro e w' ⟨rfl, ⟨nd2, rfl⟩⟩)
            | (go_at_call 32; with_reducible refine (impl_fits.calls k A0 c0 l0 a0 _ _ ?s1 ?s2 H3.out).mono ?_; (case s1 => exact Kd.C_below HR0.out (by repeat (first | exact Below.refl _ _ | apply below_drew1 | apply pw_below_drewN | apply below_alloc))); (case s2 => exact HC0.out); rintro e w1 ⟨rfl, hb1⟩; have HX1 : Aside0 (Below (w.heap.size + 1) (w.alloc (.cells #[.int .i64 a0, .int .i64 a1, .slice A0 l0.length c0, .slice A1 l1.length c1] 24)) w1) := ⟨below_then (by repeat (first | exact Below.refl _ _ | apply below_drew1 | apply pw_below_drewN)) (by simp) hb1⟩; obtain ⟨hq10, hq11, hq12, hq13⟩ := xseg_cells HX1.out; have HB1 := Aside0.mk (xseg_below HX1.out); clear hb1)
            | (go_at_call 32; with_reducible refine (impl_fits.calls k A1 c1 l1 a1 _ _ ?s1 ?s2 H4.out).mono ?_; (case s1 => exact Kd.C_below HR1.out (by repeat (first | exact Below.refl _ _ | apply below_drew1 | apply pw_below_drewN | apply below_alloc | exact HB1.out))); (case s2 => exact HC1.out); rintro e w2 ⟨rfl, hb2⟩; have HX2 : Aside0 (Below (w.heap.size + 1) (w.alloc (.cells #[.int .i64 a0, .int .i64 a1, .slice A0 l0.length c0, .slice A1 l1.length c1] 24)) w2) := ⟨below_then (by repeat (first | exact Below.refl _ _ | apply below_drew1 | apply pw_below_drewN | exact HX1.out)) (by have z := HX1.out.size; simp at z ⊢; omega) hb2⟩; obtain ⟨hq20, hq21, hq22, hq23⟩ := xseg_cells HX2.out; have HB2 := Aside0.mk (xseg_below HX2.out); clear hb2))
          go_ret
          exact ⟨rfl, (by repeat (first | exact Below.refl _ _ | exact HB4.out | exact HB3.out | exact HB2.out | exact HB1.out | apply below_drew1 | apply pw_below_drewN | apply below_alloc))⟩
        | true =>
          rw [if_pos rfl] at h
          obtain ⟨b5, hb, h⟩ := Option.bind_eq_some_iff.mp h
          have H5 := Aside0.mk hb
          clear hb
          cases b5 with
          | false =>
            rw [if_neg (by decide)] at h
            obtain rfl := Option.some.inj h
            clear h
            go_enter Try.func15, Try.ntmps15
            go_wp2_with (first
              | (go_at_call 24; with_reducible refine (impl_isRoom.calls a0 _ _ H1.out).mono ?_; rintro e w' ⟨rfl, ⟨nd1, rfl⟩⟩)
              | (go_at_call 24; with_reducible refine (impl_isRoom.calls a1 _ _ H2.out).mono ?_; rintro e w' ⟨rfl, ⟨nd2, rfl⟩⟩)
              | (go_at_call 32; with_reducible refine (impl_fits.calls k A0 c0 l0 a0 _ _ ?s1 ?s2 H3.out).mono ?_; (case s1 => exact Kd.C_below HR0.out (by repeat (first | exact Below.refl _ _ | apply below_drew1 | apply pw_below_drewN | apply below_alloc))); (case s2 => exact HC0.out); rintro e w1 ⟨rfl, hb1⟩; have HX1 : Aside0 (Below (w.heap.size + 1) (w.alloc (.cells #[.int .i64 a0, .int .i64 a1, .slice A0 l0.length c0, .slice A1 l1.length c1] 24)) w1) := ⟨below_then (by repeat (first | exact Below.refl _ _ | apply below_drew1 | apply pw_below_drewN)) (by simp) hb1⟩; obtain ⟨hq10, hq11, hq12, hq13⟩ := xseg_cells HX1.out; have HB1 := Aside0.mk (xseg_below HX1.out); clear hb1)
              | (go_at_call 32; with_reducible refine (impl_fits.calls k A1 c1 l1 a1 _ _ ?s1 ?s2 H4.out).mono ?_; (case s1 => exact Kd.C_below HR1.out (by repeat (first | exact Below.refl _ _ | apply below_drew1 | apply pw_below_drewN | apply below_alloc | exact HB1.out))); (case s2 => exact HC1.out); rintro e w2 ⟨rfl, hb2⟩; have HX2 : Aside0 (Below (w.heap.size + 1) (w.alloc (.cells #[.int .i64 a0, .int .i64 a1, .slice A0 l0.length c0, .slice A1 l1.length c1] 24)) w2) := ⟨below_then (by repeat (first | exact Below.refl _ _ | apply below_drew1 | apply pw_below_drewN | exact HX1.out)) (by have z := HX1.out.size; simp at z ⊢; omega) hb2⟩; obtain ⟨hq20, hq21, hq22, hq23⟩ := xseg_cells HX2.out; have HB2 := Aside0.mk (xseg_below HX2.out); clear hb2)
              | (go_at_call 33; with_reducible refine (xAll_T49_impl_isEntry.calls A0 c0 l0 _ _ ?s1 ?s2 H5.out).mono ?_; (case s1 => exact Kd.C_below HR0.out (by repeat (first | exact Below.refl _ _ | apply below_drew1 | apply pw_below_drewN | apply below_alloc | exact HB2.out))); (case s2 => exact HC0.out); rintro e w3 ⟨rfl, hb3⟩; have HX3 : Aside0 (Below (w.heap.size + 1) (w.alloc (.cells #[.int .i64 a0, .int .i64 a1, .slice A0 l0.length c0, .slice A1 l1.length c1] 24)) w3) := ⟨below_then (by repeat (first | exact Below.refl _ _ | apply below_drew1 | apply pw_below_drewN | exact HX2.out)) (by have z := HX2.out.size; simp at z ⊢; omega) hb3⟩; obtain ⟨hq30, hq31, hq32, hq33⟩ := xseg_cells HX3.out; have HB3 := Aside0.mk (xseg_below HX3.out); clear hb3))
            go_ret
            exact ⟨rfl, (by repeat (first | exact Below.refl _ _ | exact HB4.out | exact HB3.out | exact HB2.out | exact HB1.out | apply below_drew1 | apply pw_below_drewN | apply below_alloc))⟩
          | true =>
            rw [if_pos rfl] at h
            obtain ⟨b6, hb, h⟩ := Option.bind_eq_some_iff.mp h
            have H6 := Aside0.mk hb
            clear hb
            cases b6 with
            | false =>
              rw [if_neg (by decide)] at h
              obtain rfl := Option.some.inj h
              clear h
              go_enter Try.func15, Try.ntmps15
              go_wp2_with (first
                | (go_at_call 24; with_reducible refine (impl_isRoom.calls a0 _ _ H1.out).mono ?_; rintro e w' ⟨rfl, ⟨nd1, rfl⟩⟩)
                | (go_at_call 24; with_reducible refine (impl_isRoom.calls a1 _ _ H2.out).mono ?_; rintro e w' ⟨rfl, ⟨nd2, rfl⟩⟩)
                | (go_at_call 32; with_reducible refine (impl_fits.calls k A0 c0 l0 a0 _ _ ?s1 ?s2 H3.out).mono ?_; (case s1 => exact Kd.C_below HR0.out (by repeat (first | exact Below.refl _ _ | apply below_drew1 | apply pw_below_drewN | apply below_alloc))); (case s2 => exact HC0.out); rintro e w1 ⟨rfl, hb1⟩; have HX1 : Aside0 (Below (w.heap.size + 1) (w.alloc (.cells #[.int .i64 a0, .int .i64 a1, .slice A0 l0.length c0, .slice A1 l1.length c1] 24)) w1) := ⟨below_then (by repeat (first | exact Below.refl _ _ | apply below_drew1 | apply pw_below_drewN)) (by simp) hb1⟩; obtain ⟨hq10, hq11, hq12, hq13⟩ := xseg_cells HX1.out; have HB1 := Aside0.mk (xseg_below HX1.out); clear hb1)
                | (go_at_call 32; with_reducible refine (impl_fits.calls k A1 c1 l1 a1 _ _ ?s1 ?s2 H4.out).mono ?_; (case s1 => exact Kd.C_below HR1.out (by repeat (first | exact Below.refl _ _ | apply below_drew1 | apply pw_below_drewN | apply below_alloc | exact HB1.out))); (case s2 => exact HC1.out); rintro e w2 ⟨rfl, hb2⟩; have HX2 : Aside0 (Below (w.heap.size + 1) (w.alloc (.cells #[.int .i64 a0, .int .i64 a1, .slice A0 l0.length c0, .slice A1 l1.length c1] 24)) w2) := ⟨below_then (by repeat (first | exact Below.refl _ _ | apply below_drew1 | apply pw_below_drewN | exact HX1.out)) (by have z := HX1.out.size; simp at z ⊢; omega) hb2⟩; obtain ⟨hq20, hq21, hq22, hq23⟩ := xseg_cells HX2.out; have HB2 := Aside0.mk (xseg_below HX2.out); clear hb2)
                | (go_at_call 33; with_reducible refine (xAll_T49_impl_isEntry.calls A0 c0 l0 _ _ ?s1 ?s2 H5.out).mono ?_; (case s1 => exact Kd.C_below HR0.out (by repeat (first | exact Below.refl _ _ | apply below_drew1 | apply pw_below_drewN | apply below_alloc | exact HB2.out))); (case s2 => exact HC0.out); rintro e w3 ⟨rfl, hb3⟩; have HX3 : Aside0 (Below (w.heap.size + 1) (w.alloc (.cells #[.int .i64 a0, .int .i64 a1, .slice A0 l0.length c0, .slice A1 l1.length c1] 24)) w3) := ⟨below_then (by repeat (first | exact Below.refl _ _ | apply below_drew1 | apply pw_below_drewN | exact HX2.out)) (by have z := HX2.out.size; simp at z ⊢; omega) hb3⟩; obtain ⟨hq30, hq31, hq32, hq33⟩ := xseg_cells HX3.out; have HB3 := Aside0.mk (xseg_below HX3.out); clear hb3)
                | (go_at_call 33; with_reducible refine (xAll_T49_impl_isEntry.calls A1 c1 l1 _ _ ?s1 ?s2 H6.out).mono ?_; (case s1 => exact Kd.C_below HR1.out (by repeat (first | exact Below.refl _ _ | apply below_drew1 | apply pw_below_drewN | apply below_alloc | exact HB3.out))); (case s2 => exact HC1.out); rintro e w4 ⟨rfl, hb4⟩; have HX4 : Aside0 (Below (w.heap.size + 1) (w.alloc (.cells #[.int .i64 a0, .int .i64 a1, .slice A0 l0.length c0, .slice A1 l1.length c1] 24)) w4) := ⟨below_then (by repeat (first | exact Below.refl _ _ | apply below_drew1 | apply pw_below_drewN | exact HX3.out)) (by have z := HX3.out.size; simp at z ⊢; omega) hb4⟩; obtain ⟨hq40, hq41, hq42, hq43⟩ := xseg_cells HX4.out; have HB4 := Aside0.mk (xseg_below HX4.out); have hlt4 : w.heap.size < w4.heap.size := (by have z := HX4.out.size; simp at z; omega); have hne4 : w.heap.size ≠ w4.heap.size := Nat.ne_of_lt hlt4; clear hb4))
              go_ret
              exact ⟨rfl, (by repeat (first | exact Below.refl _ _ | exact HB4.out | exact HB3.out | exact HB2.out | exact HB1.out | apply below_drew1 | apply pw_below_drewN | apply below_alloc))⟩
            | true =>
              rw [if_pos rfl] at h
              by_cases hlen : l0.length + l1.length < 1000
              · rw [if_pos hlen] at h
                by_cases hsz : ∀ x ∈ l0 ++ l1, x.f0.size ≤ 1000
                · rw [if_pos hsz] at h
                  obtain ⟨y, hy⟩ : ∃ y, y = l0 ++ l1 := ⟨_, rfl⟩
                  have HY := Aside0.mk hy
                  have HLEN := Aside0.mk hlen
                  rw [← hy] at h hsz
                  have hyl : y.length < 1000 := by rw [hy, List.length_append]; exact hlen
                  have HYL := Aside0.mk hyl
                  have HSZ := Aside0.mk hsz
                  have HH := Aside0.mk h
                  clear hy hlen hsz h hyl
                  have hmm := @run_makeMap Try.prog
                  go_enter Try.func15, Try.ntmps15
                  go_wp2_with (first
                    | (go_at_call 24; with_reducible refine (impl_isRoom.calls a0 _ _ H1.out).mono ?_; rintro e w' ⟨rfl, ⟨nd1, rfl⟩⟩)
                    | (go_at_call 24; with_reducible refine (impl_isRoom.calls a1 _ _ H2.out).mono ?_; rintro e w' ⟨rfl, ⟨nd2, rfl⟩⟩)
                    | (go_at_call 32; with_reducible refine (impl_fits.calls k A0 c0 l0 a0 _ _ ?s1 ?s2 H3.out).mono ?_; (case s1 => exact Kd.C_below HR0.out (by repeat (first | exact Below.refl _ _ | apply below_drew1 | apply pw_below_drewN | apply below_alloc))); (case s2 => exact HC0.out); rintro e w1 ⟨rfl, hb1⟩; have HX1 : Aside0 (Below (w.heap.size + 1) (w.alloc (.cells #[.int .i64 a0, .int .i64 a1, .slice A0 l0.length c0, .slice A1 l1.length c1] 24)) w1) := ⟨below_then (by repeat (first | exact Below.refl _ _ | apply below_drew1 | apply pw_below_drewN)) (by simp) hb1⟩; obtain ⟨hq10, hq11, hq12, hq13⟩ := xseg_cells HX1.out; have HB1 := Aside0.mk (xseg_below HX1.out); clear hb1)
                    | (go_at_call 32; with_reducible refine (impl_fits.calls k A1 c1 l1 a1 _ _ ?s1 ?s2 H4.out).mono ?_; (case s1 => exact Kd.C_below HR1.out (by repeat (first | exact Below.refl _ _ | apply below_drew1 | apply pw_below_drewN | apply below_alloc | exact HB1.out))); (case s2 => exact HC1.out); rintro e w2 ⟨rfl, hb2⟩; have HX2 : Aside0 (Below (w.heap.size + 1) (w.alloc (.cells #[.int .i64 a0, .int .i64 a1, .slice A0 l0.length c0, .slice A1 l1.length c1] 24)) w2) := ⟨below_then (by repeat (first | exact Below.refl _ _ | apply below_drew1 | apply pw_below_drewN | exact HX1.out)) (by have z := HX1.out.size; simp at z ⊢; omega) hb2⟩; obtain ⟨hq20, hq21, hq22, hq23⟩ := xseg_cells HX2.out; have HB2 := Aside0.mk (xseg_below HX2.out); clear hb2)
                    | (go_at_call 33; with_reducible refine (xAll_T49_impl_isEntry.calls A0 c0 l0 _ _ ?s1 ?s2 H5.out).mono ?_; (case s1 => exact Kd.C_below HR0.out (by repeat (first | exact Below.refl _ _ | apply below_drew1 | apply pw_below_drewN | apply below_alloc | exact HB2.out))); (case s2 => exact HC0.out); rintro e w3 ⟨rfl, hb3⟩; have HX3 : Aside0 (Below (w.heap.size + 1) (w.alloc (.cells #[.int .i64 a0, .int .i64 a1, .slice A0 l0.length c0, .slice A1 l1.length c1] 24)) w3) := ⟨below_then (by repeat (first | exact Below.refl _ _ | apply below_drew1 | apply pw_below_drewN | exact HX2.out)) (by have z := HX2.out.size; simp at z ⊢; omega) hb3⟩; obtain ⟨hq30, hq31, hq32, hq33⟩ := xseg_cells HX3.out; have HB3 := Aside0.mk (xseg_below HX3.out); clear hb3)
                    | (go_at_call 33; with_reducible refine (xAll_T49_impl_isEntry.calls A1 c1 l1 _ _ ?s1 ?s2 H6.out).mono ?_; (case s1 => exact Kd.C_below HR1.out (by repeat (first | exact Below.refl _ _ | apply below_drew1 | apply pw_below_drewN | apply below_alloc | exact HB3.out))); (case s2 => exact HC1.out); rintro e w4 ⟨rfl, hb4⟩; have HX4 : Aside0 (Below (w.heap.size + 1) (w.alloc (.cells #[.int .i64 a0, .int .i64 a1, .slice A0 l0.length c0, .slice A1 l1.length c1] 24)) w4) := ⟨below_then (by repeat (first | exact Below.refl _ _ | apply below_drew1 | apply pw_below_drewN | exact HX3.out)) (by have z := HX3.out.size; simp at z ⊢; omega) hb4⟩; obtain ⟨hq40, hq41, hq42, hq43⟩ := xseg_cells HX4.out; have HB4 := Aside0.mk (xseg_below HX4.out); have hlt4 : w.heap.size < w4.heap.size := (by have z := HX4.out.size; simp at z; omega); have hne4 : w.heap.size ≠ w4.heap.size := Nat.ne_of_lt hlt4; clear hb4)
                    | (go_at_call 35; refine (xConcat2_T49 _ ⟨w4.heap.size + 1, 0, none⟩ 2 A0 A1 c0 c1 l0 l1 (by simp) (by simp [Addr.add]) (by simp [Addr.add]) (Kd.C_alloc (Kd.C_alloc (Kd.C_below HR0.out HB4.out) _) _) (Kd.C_alloc (Kd.C_alloc (Kd.C_below HR1.out HB4.out) _) _) (by have := HLEN.out; omega)).mono ?_; rintro e w5 ⟨v5, rfl, ho, hb5⟩; rw [← HY.out] at ho; obtain ⟨A5, c5, e5⟩ := Kd.R_slice ho; subst e5; have HO5 := Aside0.mk ho; have HB5 := Aside0.mk hb5; clear ho hb5))
                  have hwm : w5.ownsMap (H := Unit) Try.prog 9 (plainElem Try.prog 4) w4.heap.size 0 (xset []) := by
                    have z := (World.ownsMap_made (H := Unit) w4 Try.prog 9 (plainElem Try.prog 4)).alloc (.cells #[.slice A0 l0.length c0, .slice A1 l1.length c1] 22)
                    exact z.kept (row := none) (grown_of_below HB5.out none) (by simp)
                  have hb5w : Below w.heap.size w w5 := by
                    have z := HB5.out
                    have z2 := HX4.out.size
                    simp at z z2
                    exact ((below_alloc (below_alloc HB4.out _) _).trans (HB5.out.mono (by simp; omega)))
                  have HO6 : Aside0 (Kd.R k49 49 w5 (w4.heap.size + 2) (fun k => True ∧ k ≠ w4.heap.size) (.slice A5 y.length c5) y) := ⟨by
                    refine Kd.R_lower (Kd.R_mono (Kd.R_bound HO5.out) (fun k hk => ⟨trivial, ?_⟩)) (by simp)
                    have z := hk.2.1
                    simp at z
                    omega⟩
                  have HM := Aside0.mk hwm
                  have HW := Aside0.mk hb5w
                  clear hwm hb5w
                  go_loopg [52] y.length (fun gg s52 wr => ∃ kk : Nat, kk ≤ y.length ∧ y.length - kk ≤ gg ∧ s52 = .int .i64 kk ∧ Aside0 (Below w.heap.size w wr) ∧ Aside0 (w4.heap.size + 2 ≤ wr.heap.size) ∧ Aside0 (Kd.R k49 49 wr (w4.heap.size + 2) (fun k => True ∧ k ≠ w4.heap.size) (.slice A5 y.length c5) y) ∧ Aside0 (wr.ownsMap (H := Unit) Try.prog 9 (plainElem Try.prog 4) w4.heap.size kk (xset ((y.take kk).map S49.f0))) ∧ Aside0 (xapart ((y.take kk).map S49.f0) (y.drop kk) = r))
                  case atStart => exact ⟨0, Nat.zero_le _, by omega, rfl, HW, ⟨by have z := HB5.out.size; simp at z; omega⟩, HO6, HM, ⟨Option.some.inj HH.out⟩⟩
                  case round =>
                    obtain ⟨kk, hkk, hgk, rfl, HBW, HSW, HOW, HMW, HRW⟩ := hrel
                    clear HM HW HO6 HH HB5 HO5
                    by_cases hlt : kk < y.length
                    · have hltz : (kk : Int) < (y.length : Int) := by omega
                      obtain ⟨ad, he, hy0, hy1⟩ := at_T49 (Kd.R_reads' HOW.out).2.2 (kk : Int) (by omega) hltz
                      cases he
                      have hrd : rd_T49 y (kk : Int) = y[kk] := by unfold rd_T49; simp [List.getD_eq_getElem?_getD, hlt]
                      rw [hrd, Int.toNat_natCast] at hy0 hy1
                      have hks := HSZ.out y[kk] (List.getElem_mem hlt)
                      have HKS := Aside0.mk (Nat.le_trans hks (show 1000 ≤ maxLen by decide))
                      have hst : (y.take (kk + 1)).map S49.f0 = (y.take kk).map S49.f0 ++ [y[kk].f0] := by rw [List.take_succ_eq_append_getElem hlt, List.map_append]; rfl
                      have hdr : y.drop kk = y[kk] :: y.drop (kk + 1) := List.drop_eq_getElem_cons hlt
                      have HRX := HRW.out
                      rw [hdr] at HRX
                      unfold xapart at HRX
                      have HRX := Aside0.mk HRX
                      have HST := Aside0.mk hst
                      clear hrd hks hst hdr HRW
                      generalize y[kk] = xx at *
                      have HMA := Aside0.mk (show (wr.alloc (.cells #[.string xx.f0, .string xx.f1] 49)).ownsMap (H := Unit) Try.prog 9 (plainElem Try.prog 4) w4.heap.size kk (xset ((y.take kk).map S49.f0)) from HMW.out.alloc _)
                      have hkm : kk < maxLen := Nat.lt_of_lt_of_le (Nat.lt_trans hlt HYL.out) (by decide)
                      cases hin : xin xx.f0 ((y.take kk).map S49.f0) with
                      | true =>
                        obtain rfl : false = r := by have z := HRX.out; rw [if_pos hin] at z; exact z
                        go_wp2_with (at_lookup; refine xlookup_set _ rfl _ _ 55 rfl 9 4 (Go.Maps.string_keyed Try.underlying9) Try.underlying9 Try.underlying55 Try.underlying4 (xzeroB _) w4.heap.size kk ((y.take kk).map S49.f0) rfl HMA.out xx.f0 rfl HKS.out ?_; rw [hin])
                        refine bodyPost_ret (v := .bool false) (results_tmp (fn := Try.f15) (t := 2) rfl _ _ _) rfl ?_
                        exact ⟨rfl, (by repeat (first | exact HBW.out | apply below_drew1 | apply pw_below_drewN | apply below_alloc))⟩
                      | false =>
                        have HRF : Aside0 (xapart ((y.take (kk + 1)).map S49.f0) (y.drop (kk + 1)) = r) := ⟨by have z := HRX.out; rw [if_neg (by rw [hin]; decide)] at z; rw [HST.out]; exact z⟩
                        go_wp2_with (first
                          | (at_lookup; refine xlookup_set _ rfl _ _ 55 rfl 9 4 (Go.Maps.string_keyed Try.underlying9) Try.underlying9 Try.underlying55 Try.underlying4 (xzeroB _) w4.heap.size kk ((y.take kk).map S49.f0) rfl HMA.out xx.f0 rfl HKS.out ?_; rw [hin])
                          | (at_mapUpdate; refine wpList_mapUpdate_own _ rfl _ _ _ 55 rfl 9 4 (Go.Maps.string_keyed Try.underlying9) Try.underlying55 _ w4.heap.size kk _ rfl HMA.out hkm _ _ _ rfl rfl (WideMaps.keyOf_string_mk Try.underlying9 HKS.out) _ [] (plainElem_bool Try.underlying4 true) ?_; intro w6 hown6 hgrow6; have HM6 := Aside0.mk hown6; have HG6 := Aside0.mk hgrow6; clear hown6 hgrow6))
                        have hw : wrap64 ((kk : Int) + 1) = ((kk + 1 : Nat) : Int) := by have hyl := HYL.out; unfold wrap64; omega
                        go_roundg (y.length - (kk + 1))
                        case measure => omega
                        case rel =>
                          refine ⟨kk + 1, by omega, by omega, by first | (rw [hw]; done) | (simp [hw]; done) | go_num, ⟨?_⟩, ⟨?_⟩, ⟨?_⟩, ⟨?_⟩, HRF⟩
                          · exact (below_alloc HBW.out _).grown HG6.out (by have z := HBW.out.size; simp; omega) (fun k hk => by cases hk; have z := HX4.out.size; simp at z; omega)
                          · have z := HG6.out.size; have z2 := HSW.out; simp at z; omega
                          · exact Kd.R_grown (Kd.R_alloc HOW.out _) HG6.out (fun k hk e => by cases e; exact hk.2 rfl)
                          · rw [HST.out, xset_snoc]; exact HM6.out
                    · have hlt2 : ¬ (kk : Int) < (y.length : Int) := by omega
                      obtain rfl : true = r := by have z := HRW.out; rw [List.drop_of_length_le (by omega)] at z; exact z
                      clear HRW
                      go_wp2
                      go_ret
                      exact ⟨rfl, (by repeat (first | exact HBW.out | apply below_drew1 | apply pw_below_drewN | apply below_alloc))⟩
                · rw [if_neg hsz] at h; cases h
              · rw [if_neg hlen] at h; cases h

/-! ### impl_BytesIn: function 17 -/
def impl_BytesIn.f (k : Nat) (a0_0 : Int) (a0_1 : Int) (l0_2 : List (S49)) (l0_3 : List (S49)) : Option (Int × Int × Bool) := (impl_GoodSegmented.f k a0_0 a0_1 l0_2 l0_3).bind fun t171 => (if t171 = true then ((impl_weight.f k l0_2).bind fun t172 => ((impl_weight.f k l0_3).bind fun t173 => (some (t172, t173, true)))) else (some (0, 0, false)))
theorem impl_BytesIn.mono : ∀ a0 a1 a2 a3 k, LeO (impl_BytesIn.f k a0 a1 a2 a3) (impl_BytesIn.f (k + 1) a0 a1 a2 a3) := by
  intro a0 a1 a2 a3 k
  unfold impl_BytesIn.f
  repeat' first
      | (with_reducible exact impl_GoodSegmented.mono _ _ _ _ _)
      | (with_reducible exact impl_weight.mono _ _)
      | (with_reducible exact LeO.refl _)
      | (with_reducible exact LeO.none _)
      | (with_reducible refine LeO.ite ?_ ?_)
      | (with_reducible refine LeO.bind ?_ (fun _ => ?_))
      | exact impl_GoodSegmented.mono _ _ _ _ _
      | exact impl_weight.mono _ _
      | exact LeO.none _
      | refine LeO.ite ?_ ?_
      | refine LeO.bind ?_ (fun _ => ?_)
def impl_BytesIn.T3 : Bool × List (List Nat × List Nat) := (true, [([], []), ([0], [0]), ([1], [1]), ([], []), ([3], [3]), ([4, 2], [4]), ([2, 5, 0, 1, 2], [2]), ([5, 6, 0, 1, 2, 3, 4, 5, 6], [5]), ([7, 0, 1, 2, 3, 4, 5, 6, 7], [])])
def impl_BytesIn.B3 : List Nat := [0, 1, 3, 0, 8, 31, 63, 127, 255]
theorem impl_BytesIn.tab3 : rtab .any (opsOf Try.f17 3) = impl_BytesIn.T3 := by kernel_rfl
theorem impl_BytesIn.bits3 : waitsOk impl_BytesIn.T3.2 impl_BytesIn.B3 = true := by kernel_rfl
set_option maxHeartbeats 8000000 in
set_option maxRecDepth 100000 in
theorem impl_BytesIn.calls (k : Nat) (a0_0 : Int) (a0_1 : Int) (A0_2 : Option Addr) (c0_2 : Nat) (l0_2 : List (S49)) (A0_3 : Option Addr) (c0_3 : Nat) (l0_3 : List (S49)) (r1 : Int) (r2 : Int) (r3 : Bool) (w : World) (hr0_2 : Kd.C k49 w A0_2 l0_2.length l0_2) (hc0_2 : l0_2.length ≤ c0_2) (hr0_3 : Kd.C k49 w A0_3 l0_3.length l0_3) (hc0_3 : l0_3.length ≤ c0_3) (h : impl_BytesIn.f k a0_0 a0_1 l0_2 l0_3 = some (r1, r2, r3)) :
    Calls Try.prog 17 #[.agg #[.int .i64 a0_0, .int .i64 a0_1, .slice A0_2 l0_2.length c0_2, .slice A0_3 l0_3.length c0_3]] w fun e w' => e = .returned (.tuple #[.int .i64 r1, .int .i64 r2, .bool r3]) ∧ Below w.heap.size w w' := by
  have hu24 := Try.underlying24
  have HR0_2 := Aside0.mk hr0_2
  have HC0_2 := Aside0.mk hc0_2
  clear hr0_2 hc0_2
  have HR0_3 := Aside0.mk hr0_3
  have HC0_3 := Aside0.mk hc0_3
  clear hr0_3 hc0_3
  have HB := Aside0.mk (Below.refl w.heap.size w)
  have H : ((impl_GoodSegmented.f k a0_0 a0_1 l0_2 l0_3).bind fun t171 => (if t171 = true then ((impl_weight.f k l0_2).bind fun t172 => ((impl_weight.f k l0_3).bind fun t173 => (some (t172, t173, true)))) else (some (0, 0, false)))) = some (r1, r2, r3) := h
  clear h
  replace H := Option.bind_eq_some_iff.mp H
  obtain ⟨t171, A20, H⟩ := H
  replace H : (if t171 = true then ((impl_weight.f k l0_2).bind fun t172 => ((impl_weight.f k l0_3).bind fun t173 => (some (t172, t173, true)))) else (some (0, 0, false))) = some (r1, r2, r3) := H
  have A2 := Aside0.mk A20
  clear A20
  by_cases c3 : t171 = true
  · subst c3
    have H1 : ((impl_weight.f k l0_2).bind fun t172 => ((impl_weight.f k l0_3).bind fun t173 => (some (t172, t173, true)))) = some (r1, r2, r3) := by rw [if_pos rfl] at H; exact H
    clear H
    have H := H1
    clear H1
    replace H := Option.bind_eq_some_iff.mp H
    obtain ⟨t172, A40, H⟩ := H
    replace H : ((impl_weight.f k l0_3).bind fun t173 => (some (t172, t173, true))) = some (r1, r2, r3) := H
    have A4 := Aside0.mk A40
    clear A40
    replace H := Option.bind_eq_some_iff.mp H
    obtain ⟨t173, A50, H⟩ := H
    replace H : (some (t172, t173, true)) = some (r1, r2, r3) := H
    have A5 := Aside0.mk A50
    clear A50
    simp only [Option.some.injEq, Prod.mk.injEq] at H
    obtain ⟨rfl, rfl, rfl⟩ := H
    go_enter Try.func17, Try.ntmps17
    try go_wp2_with (first | ((with_reducible refine gate_dst (N := 1) rfl ?_); refine box_event ?hg (N := 1) ?hd (cs := #[.int .i64 a0_0, .int .i64 a0_1, .slice A0_2 l0_2.length c0_2, .slice A0_3 l0_3.length c0_3]) (t := 24) ?hr ?_; (case hd => rfl); (case hg => rfl); (case hr => first | (go_simp; done) | (go_simp; rfl)); intro gb170 hg w6 hbox hb; have n0_ := Aside0.mk (below_step (by repeat (first | (with_reducible first | exact HB.out | apply below_alloc | apply pw_below_drewN | apply below_drew1) | exact HB.out)) hb); have n1_ := Aside0.mk (hbox); have n2_ := Aside0.mk ((by rw [hg]; exact (below_size (by repeat (first | (with_reducible first | exact HB.out | apply below_alloc | apply pw_below_drewN | apply below_drew1) | exact HB.out))) : w.heap.size ≤ gb170)); have n3_ := Aside0.mk ((by rw [hg]; exact (below_size (by repeat (first | (with_reducible first | exact HB.out | apply below_alloc | apply pw_below_drewN | apply below_drew1) | exact HB.out))) : w.heap.size ≤ gb170)); clear HB; have HB := n0_; have BK170 := n1_; have GW170 := n2_; have GE170 := n3_; clear n0_ n1_ n2_ n3_; clear hb hbox hg; have hcz7_0 : w6.cell? ⟨gb170, 0, none⟩ = some (.int .i64 a0_0) := (blk_cell BK170.out 0).trans rfl; have hcz7_1 : w6.cell? ⟨gb170, 1, none⟩ = some (.int .i64 a0_1) := (blk_cell BK170.out 1).trans rfl; have hcz7_2 : w6.cell? ⟨gb170, 2, none⟩ = some (.slice A0_2 l0_2.length c0_2) := (blk_cell BK170.out 2).trans rfl; have hcz7_3 : w6.cell? ⟨gb170, 3, none⟩ = some (.slice A0_3 l0_3.length c0_3) := (blk_cell BK170.out 3).trans rfl; have hfz7_0 := blk_frozen BK170.out 0; have hfz7_1 := blk_frozen BK170.out 1; have hfz7_2 := blk_frozen BK170.out 2; have hfz7_3 := blk_frozen BK170.out 3) | ((with_reducible refine gate_callee (f := 15) rfl ?_); refine goesL_ (some 6) rfl rfl Try.func15 (by kernel_rfl) rfl #[.agg #[.int .i64 a0_0, .int .i64 a0_1, .slice A0_2 l0_2.length c0_2, .slice A0_3 l0_3.length c0_3]] rfl (by (try simp only [List.map_toArray, List.map_cons, List.map_nil]); first | done | rfl | (simp only [List.length_drop, List.length_take]; rfl)) ?_; (with_reducible refine (impl_GoodSegmented.calls k a0_0 a0_1 _ _ l0_2 _ _ l0_3 true _ ?side1 ?side2 ?side3 ?side4 A2.out).mono ?_); (case side1 => repeat (first | exact (Kd.C_below HR0_2.out HB.out) | (with_reducible refine Kd.C_alloc ?_ _) | (with_reducible refine Kd.C_drewN ?_ _) | (with_reducible refine Kd.C_drew ?_))); (case side2 => exact HC0_2.out); (case side3 => repeat (first | exact (Kd.C_below HR0_3.out HB.out) | (with_reducible refine Kd.C_alloc ?_ _) | (with_reducible refine Kd.C_drewN ?_ _) | (with_reducible refine Kd.C_drew ?_))); (case side4 => exact HC0_3.out); rintro e w8 ⟨rfl, hb⟩; refine ⟨_, rfl, ?_⟩; have n0_ := Aside0.mk (blk_below (g := gb170) (o := .cells #[.int .i64 a0_0, .int .i64 a0_1, .slice A0_2 l0_2.length c0_2, .slice A0_3 l0_3.length c0_3] 24 (0, 0)) (by (with_reducible repeat (first | refine blk_drewN ?_ _ | refine blk_drew ?_ | refine blk_alloc ?_ _)); exact BK170.out) hb); have n1_ := Aside0.mk (below_step (by repeat (first | (with_reducible first | exact HB.out | apply below_alloc | apply pw_below_drewN | apply below_drew1 | refine below_set ?_ GE170.out) | exact HB.out)) hb); clear BK170; clear HB; have BK170 := n0_; have HB := n1_; clear n0_ n1_; (try clear hb); (try clear hb2); (try clear hk); (try clear hi)))
    have n0_ := Aside0.mk (blk_drew BK170.out)
    have n1_ := Aside0.mk (below_drew1 HB.out)
    clear BK170
    clear HB
    have BK170 := n0_
    have HB := n1_
    clear n0_ n1_
    refine start_ (n := 9) (S := fun w' => w'.cell? ⟨gb170, 0, none⟩ = some (.int .i64 a0_0) ∧ w'.cell? ⟨gb170, 1, none⟩ = some (.int .i64 a0_1) ∧ w'.cell? ⟨gb170, 2, none⟩ = some (.slice A0_2 l0_2.length c0_2) ∧ w'.cell? ⟨gb170, 3, none⟩ = some (.slice A0_3 l0_3.length c0_3)) (ds := []) #[false, false, false, false, false, false, false, false, false] (by kernel_rfl) rfl rfl ⟨(blk_cell BK170.out 0).trans rfl, (blk_cell BK170.out 1).trans rfl, (blk_cell BK170.out 2).trans rfl, (blk_cell BK170.out 3).trans rfl⟩ (fun hHeld => ?_); refine with_tabW impl_BytesIn.tab3 impl_BytesIn.bits3 (fun HT_ HW_ => ?_)
    generalize w8.drew = w9 at BK170 HB hHeld ⊢
    refine pure_ (i := 0) (N := some 8) (v := ?_) (a' := ?_) #[true, false, false, false, false, false, false, false, false] rfl rfl (any_of HT_.out (by kernel_rfl)) (fun _ _ _ h => h) (Or.inl ⟨by rfl, ?_⟩) ?_ ?_
    rotate_left
    · intro w'
      go_simp
      with_reducible rfl
    rotate_left
    · simp only [Act.put, List.setIfInBounds_toArray, List.set_cons_zero, List.set_cons_succ, i64_w, i32_w]
      rfl
    refine pure_ (i := 3) (N := some 11) (v := ?_) (a' := ?_) #[true, false, false, true, false, false, false, false, false] rfl rfl (any_of HT_.out (by kernel_rfl)) (fun _ _ _ h => h) (Or.inl ⟨by rfl, ?_⟩) ?_ ?_
    rotate_left
    · intro w'
      go_simp
      with_reducible rfl
    rotate_left
    · simp only [Act.put, List.setIfInBounds_toArray, List.set_cons_zero, List.set_cons_succ, i64_w, i32_w]
      rfl
    refine take_ (i := 1) (N := some 9) (v := ?_) (a' := ?_) #[true, true, false, true, false, false, false, false, false] rfl rfl (take_ofW HT_.out HW_.out (by kernel_rfl)) (fun _ _ _ h => h) (Or.inl ⟨by rfl, ?_⟩) hHeld ?_ ?_
    rotate_left
    · rintro w' ⟨s0, s1, s2, s3⟩
      go_simp
      with_reducible rfl
    rotate_left
    · simp only [Act.put, List.setIfInBounds_toArray, List.set_cons_zero, List.set_cons_succ, i64_w, i32_w]
      rfl
    refine take_ (i := 4) (N := some 12) (v := ?_) (a' := ?_) #[true, true, false, true, true, false, false, false, false] rfl rfl (take_ofW HT_.out HW_.out (by kernel_rfl)) (fun _ _ _ h => h) (Or.inl ⟨by rfl, ?_⟩) hHeld ?_ ?_
    rotate_left
    · rintro w' ⟨s0, s1, s2, s3⟩
      go_simp
      with_reducible rfl
    rotate_left
    · simp only [Act.put, List.setIfInBounds_toArray, List.set_cons_zero, List.set_cons_succ, i64_w, i32_w]
      rfl
    refine one_ (i := 2) (N := some 10) #[true, true, true, true, true, false, false, false, false] rfl rfl (one_of HT_.out (by kernel_rfl)) (by decide) (fun K hK => ?_)
    refine goes_ Try.func37 (by kernel_rfl) rfl #[.slice A0_2 l0_2.length c0_2] (by rfl) rfl rfl (by (try simp only [List.map_toArray, List.map_cons, List.map_nil]); first | done | rfl | (simp only [List.length_drop, List.length_take]; rfl)) ?_
    with_reducible refine (impl_weight.calls k _ _ l0_2 t172 _ ?side1 ?side2 A4.out).mono ?_
    (case side1 => repeat (first | exact (Kd.C_below HR0_2.out HB.out) | (with_reducible refine Kd.C_alloc ?_ _) | (with_reducible refine Kd.C_drewN ?_ _) | (with_reducible refine Kd.C_drew ?_)))
    (case side2 => exact HC0_2.out)
    rintro e w10 ⟨rfl, hb⟩
    refine ⟨_, rfl, ?_⟩
    have n0_ := Aside0.mk (blk_below (g := gb170) (o := .cells #[.int .i64 a0_0, .int .i64 a0_1, .slice A0_2 l0_2.length c0_2, .slice A0_3 l0_3.length c0_3] 24 (0, 0)) (by (with_reducible repeat (first | refine blk_drewN ?_ _ | refine blk_drew ?_ | refine blk_alloc ?_ _)); exact BK170.out) hb)
    have n1_ := Aside0.mk (below_step (by repeat (first | (with_reducible first | exact HB.out | apply below_alloc | apply pw_below_drewN | apply below_drew1 | refine below_set ?_ GE170.out) | exact HB.out)) hb)
    clear BK170
    clear HB
    have BK170 := n0_
    have HB := n1_
    clear n0_ n1_
    (try clear hb)
    (try clear hb2)
    (try clear hk)
    (try clear hi)
    refine hK.out _ _ ⟨(blk_cell BK170.out 0).trans rfl, (blk_cell BK170.out 1).trans rfl, (blk_cell BK170.out 2).trans rfl, (blk_cell BK170.out 3).trans rfl⟩ (fun hHeld => ?_)
    clear hK K
    refine norm_ (a' := ?_) ?_ ?_
    rotate_left
    · show Act.put _ (some 10) _ = _
      simp only [Act.put, List.setIfInBounds_toArray, List.set_cons_zero, List.set_cons_succ, i64_w, i32_w]
      rfl
    refine one_ (i := 5) (N := some 13) #[true, true, true, true, true, true, false, false, false] rfl rfl (one_of HT_.out (by kernel_rfl)) (by decide) (fun K hK => ?_)
    refine goes_ Try.func37 (by kernel_rfl) rfl #[.slice A0_3 l0_3.length c0_3] (by rfl) rfl rfl (by (try simp only [List.map_toArray, List.map_cons, List.map_nil]); first | done | rfl | (simp only [List.length_drop, List.length_take]; rfl)) ?_
    with_reducible refine (impl_weight.calls k _ _ l0_3 t173 _ ?side1 ?side2 A5.out).mono ?_
    (case side1 => repeat (first | exact (Kd.C_below HR0_3.out HB.out) | (with_reducible refine Kd.C_alloc ?_ _) | (with_reducible refine Kd.C_drewN ?_ _) | (with_reducible refine Kd.C_drew ?_)))
    (case side2 => exact HC0_3.out)
    rintro e w11 ⟨rfl, hb⟩
    refine ⟨_, rfl, ?_⟩
    have n0_ := Aside0.mk (blk_below (g := gb170) (o := .cells #[.int .i64 a0_0, .int .i64 a0_1, .slice A0_2 l0_2.length c0_2, .slice A0_3 l0_3.length c0_3] 24 (0, 0)) (by (with_reducible repeat (first | refine blk_drewN ?_ _ | refine blk_drew ?_ | refine blk_alloc ?_ _)); exact BK170.out) hb)
    have n1_ := Aside0.mk (below_step (by repeat (first | (with_reducible first | exact HB.out | apply below_alloc | apply pw_below_drewN | apply below_drew1 | refine below_set ?_ GE170.out) | exact HB.out)) hb)
    clear BK170
    clear HB
    have BK170 := n0_
    have HB := n1_
    clear n0_ n1_
    (try clear hb)
    (try clear hb2)
    (try clear hk)
    (try clear hi)
    refine hK.out _ _ ⟨(blk_cell BK170.out 0).trans rfl, (blk_cell BK170.out 1).trans rfl, (blk_cell BK170.out 2).trans rfl, (blk_cell BK170.out 3).trans rfl⟩ (fun hHeld => ?_)
    clear hK K
    refine norm_ (a' := ?_) ?_ ?_
    rotate_left
    · show Act.put _ (some 13) _ = _
      simp only [Act.put, List.setIfInBounds_toArray, List.set_cons_zero, List.set_cons_succ, i64_w, i32_w]
      rfl
    refine pure_ (i := 6) (N := some 2) (v := ?_) (a' := ?_) #[true, true, true, true, true, true, true, false, false] rfl rfl (any_of HT_.out (by kernel_rfl)) (fun _ _ _ h => h) (Or.inl ⟨by rfl, ?_⟩) ?_ ?_
    rotate_left
    · intro w'
      go_simp
      with_reducible rfl
    rotate_left
    · simp only [Act.put, List.setIfInBounds_toArray, List.set_cons_zero, List.set_cons_succ, i64_w, i32_w]
      rfl
    refine pure_ (i := 7) (N := some 3) (v := ?_) (a' := ?_) #[true, true, true, true, true, true, true, true, false] rfl rfl (any_of HT_.out (by kernel_rfl)) (fun _ _ _ h => h) (Or.inl ⟨by rfl, ?_⟩) ?_ ?_
    rotate_left
    · intro w'
      go_simp
      with_reducible rfl
    rotate_left
    · simp only [Act.put, List.setIfInBounds_toArray, List.set_cons_zero, List.set_cons_succ, i64_w, i32_w]
      rfl
    refine pure_ (i := 8) (N := some 4) (v := ?_) (a' := ?_) #[true, true, true, true, true, true, true, true, true] rfl rfl (any_of HT_.out (by kernel_rfl)) (fun _ _ _ h => h) (Or.inl ⟨by rfl, ?_⟩) ?_ ?_
    rotate_left
    · intro w'
      go_simp
      with_reducible rfl
    rotate_left
    · simp only [Act.put, List.setIfInBounds_toArray, List.set_cons_zero, List.set_cons_succ, i64_w, i32_w]
      rfl
    refine done_ (done_of HT_.out (by kernel_rfl)) ?_
    try go_wp2
    go_ret3
    exact ⟨by first | rfl | (simp [errW_none, errW_some] <;> rfl) | (simp [*, errW_none, errW_some] <;> rfl), by repeat (first | (with_reducible first | exact HB.out | apply below_alloc | apply pw_below_drewN | apply below_drew1 | refine below_set ?_ GE170.out) | exact HB.out)⟩
  · replace c3 := Bool.eq_false_iff.mpr c3
    subst c3
    have H1 : (some (0, 0, false)) = some (r1, r2, r3) := by rw [if_neg (show ¬ (false = true) by decide)] at H; exact H
    clear H
    have H := H1
    clear H1
    simp only [Option.some.injEq, Prod.mk.injEq] at H
    obtain ⟨rfl, rfl, rfl⟩ := H
    go_enter Try.func17, Try.ntmps17
    go_wp2_with (first | ((with_reducible refine gate_dst (N := 1) rfl ?_); refine box_event ?hg (N := 1) ?hd (cs := #[.int .i64 a0_0, .int .i64 a0_1, .slice A0_2 l0_2.length c0_2, .slice A0_3 l0_3.length c0_3]) (t := 24) ?hr ?_; (case hd => rfl); (case hg => rfl); (case hr => first | (go_simp; done) | (go_simp; rfl)); intro gb170 hg w12 hbox hb; have n0_ := Aside0.mk (below_step (by repeat (first | (with_reducible first | exact HB.out | apply below_alloc | apply pw_below_drewN | apply below_drew1) | exact HB.out)) hb); have n1_ := Aside0.mk (hbox); have n2_ := Aside0.mk ((by rw [hg]; exact (below_size (by repeat (first | (with_reducible first | exact HB.out | apply below_alloc | apply pw_below_drewN | apply below_drew1) | exact HB.out))) : w.heap.size ≤ gb170)); have n3_ := Aside0.mk ((by rw [hg]; exact (below_size (by repeat (first | (with_reducible first | exact HB.out | apply below_alloc | apply pw_below_drewN | apply below_drew1) | exact HB.out))) : w.heap.size ≤ gb170)); clear HB; have HB := n0_; have BK170 := n1_; have GW170 := n2_; have GE170 := n3_; clear n0_ n1_ n2_ n3_; clear hb hbox hg; have hcz13_0 : w12.cell? ⟨gb170, 0, none⟩ = some (.int .i64 a0_0) := (blk_cell BK170.out 0).trans rfl; have hcz13_1 : w12.cell? ⟨gb170, 1, none⟩ = some (.int .i64 a0_1) := (blk_cell BK170.out 1).trans rfl; have hcz13_2 : w12.cell? ⟨gb170, 2, none⟩ = some (.slice A0_2 l0_2.length c0_2) := (blk_cell BK170.out 2).trans rfl; have hcz13_3 : w12.cell? ⟨gb170, 3, none⟩ = some (.slice A0_3 l0_3.length c0_3) := (blk_cell BK170.out 3).trans rfl; have hfz13_0 := blk_frozen BK170.out 0; have hfz13_1 := blk_frozen BK170.out 1; have hfz13_2 := blk_frozen BK170.out 2; have hfz13_3 := blk_frozen BK170.out 3) | ((with_reducible refine gate_callee (f := 15) rfl ?_); refine goesL_ (some 6) rfl rfl Try.func15 (by kernel_rfl) rfl #[.agg #[.int .i64 a0_0, .int .i64 a0_1, .slice A0_2 l0_2.length c0_2, .slice A0_3 l0_3.length c0_3]] rfl (by (try simp only [List.map_toArray, List.map_cons, List.map_nil]); first | done | rfl | (simp only [List.length_drop, List.length_take]; rfl)) ?_; (with_reducible refine (impl_GoodSegmented.calls k a0_0 a0_1 _ _ l0_2 _ _ l0_3 false _ ?side1 ?side2 ?side3 ?side4 A2.out).mono ?_); (case side1 => repeat (first | exact (Kd.C_below HR0_2.out HB.out) | (with_reducible refine Kd.C_alloc ?_ _) | (with_reducible refine Kd.C_drewN ?_ _) | (with_reducible refine Kd.C_drew ?_))); (case side2 => exact HC0_2.out); (case side3 => repeat (first | exact (Kd.C_below HR0_3.out HB.out) | (with_reducible refine Kd.C_alloc ?_ _) | (with_reducible refine Kd.C_drewN ?_ _) | (with_reducible refine Kd.C_drew ?_))); (case side4 => exact HC0_3.out); rintro e w14 ⟨rfl, hb⟩; refine ⟨_, rfl, ?_⟩; have n0_ := Aside0.mk (blk_below (g := gb170) (o := .cells #[.int .i64 a0_0, .int .i64 a0_1, .slice A0_2 l0_2.length c0_2, .slice A0_3 l0_3.length c0_3] 24 (0, 0)) (by (with_reducible repeat (first | refine blk_drewN ?_ _ | refine blk_drew ?_ | refine blk_alloc ?_ _)); exact BK170.out) hb); have n1_ := Aside0.mk (below_step (by repeat (first | (with_reducible first | exact HB.out | apply below_alloc | apply pw_below_drewN | apply below_drew1 | refine below_set ?_ GE170.out) | exact HB.out)) hb); clear BK170; clear HB; have BK170 := n0_; have HB := n1_; clear n0_ n1_; (try clear hb); (try clear hb2); (try clear hk); (try clear hi)))
    go_ret3
    exact ⟨by first | rfl | (simp [errW_none, errW_some] <;> rfl) | (simp [*, errW_none, errW_some] <;> rfl), by repeat (first | (with_reducible first | exact HB.out | apply below_alloc | apply pw_below_drewN | apply below_drew1 | refine below_set ?_ GE170.out) | exact HB.out)⟩

end Go.Proofs.Ytgdlnbdbilgboaa.PFnExactBytesIn
