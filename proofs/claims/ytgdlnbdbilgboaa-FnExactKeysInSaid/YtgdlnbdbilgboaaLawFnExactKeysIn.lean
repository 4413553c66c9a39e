-- Written by a program of this project (xprint.py) out of the translation; Lean checks it.
import Derived.Test.YtgdlnbdbilgboaaRows
import Derived.Test.YtgdlnbdbilgboaaPFnExactKeysInx6
import Derived.Test.YtgdlnbdbilgboaaPureFnExactKeysIn
import Derived.WalkKit
import Derived.ProofKit
import Derived.OpenShut
import Derived.ShutString
import Derived.ChangeOld
import Derived.Below
import Derived.SizedLaws
import Derived.Lib.SmallJoins
import Derived.Test.YtgdlnbdbilgboaaWSized
import Derived.Deep.SlicePairs
namespace Go.Proofs.Ytgdlnbdbilgboaa.PFnExactKeysIn
open Go.RowKit Go.ChangeShapes Go.WideShapes Go.Proofs.YtgdlnbdbilgboaaW.PrintWords Go.Proofs.YtgdlnbdbilgboaaW.PrintLast Go.Proofs.YtgdlnbdbilgboaaW.PrintMore
theorem open_pairs_of {H : Type} {enc : TypeId × Value → H} {P : Program} {w : World} {base : Nat} {spare : Nat → Bool} {held : Bool} {t e : TypeId} {f0 f1 : Field} {fuel : Nat} {cs : List Value} {x : DataW H × List MemPlace} {β0 β1 : Type} [Inhabited β0] [Inhabited β1]
    (enc0 : β0 → Value) (enc1 : β1 → Value) (ok0 : β0 → Prop) (ok1 : β1 → Prop)
    (h0 : ∀ n V x, DataW.trod enc P w base spare held n f0.type [V] = some x → ∃ b, V = enc0 b ∧ ok0 b) (h1 : ∀ n V x, DataW.trod enc P w base spare held n f1.type [V] = some x → ∃ b, V = enc1 b ∧ ok1 b)
    (ht : P.underlying t = some (.slice e)) (he : P.underlying e = some (.struct #[f0, f1])) (ce : P.cellsOf e = 2) (o0 : f0.offset = 0) (o1 : f1.offset = 1) (c0 : P.cellsOf f0.type = 1) (c1 : P.cellsOf f1.type = 1)
    (h : DataW.trod enc P w base spare held fuel t cs = some x) :
    ∃ (A : Option Addr) (c : Nat) (l : List (β0 × β1)), cs = [.slice A l.length c] ∧ l.length ≤ c ∧ l.length ≤ maxLen ∧ (∀ x ∈ l, ok0 x.1 ∧ ok1 x.2) ∧
      (0 < l.length → ∃ ad, A = some ad ∧ ∀ j p, l[j]? = some p → w.cell? (ad.add (j * 2)) = some (enc0 p.1) ∧ w.cell? (ad.add (j * 2 + 1)) = some (enc1 p.2)) := by
  rcases Go.Deep.open_slice_pairs ht he ce o0 o1 c0 c1 h with ⟨rfl, _⟩ | ⟨a, len, cap, m, n, V0, V1, D0, D1, P0, P1, rfl, _, hl, hm, hmm, _, hx⟩
  · exact ⟨none, 0, [], rfl, Nat.le_refl _, Nat.zero_le _, fun x hx => by simp at hx, fun hn => by simp at hn⟩
  · have hlm : len ≤ m := by rw [hmm]; split <;> omega
    obtain ⟨f, hf⟩ := Go.Deep.choose_lt (α := β0 × β1) (n := len) (p := fun i b => V0 i = enc0 b.1 ∧ V1 i = enc1 b.2 ∧ ok0 b.1 ∧ ok1 b.2) (fun i hi => by
      obtain ⟨_, _, g0, g1⟩ := hx i (by omega)
      obtain ⟨b0, e0, k0⟩ := h0 _ _ _ g0
      obtain ⟨b1, e1, k1⟩ := h1 _ _ _ g1
      exact ⟨(b0, b1), e0, e1, k0, k1⟩)
    refine ⟨some a, cap, (List.range len).map f, by simp, by simpa using hl, by simp; omega, fun x hx' => ?_, fun _ => ⟨a, rfl, fun j p hj => ?_⟩⟩
    · obtain ⟨i, hi, rfl⟩ := List.mem_map.mp hx'
      exact (hf i (List.mem_range.mp hi)).2.2
    · have hj2 : j < len := by
        have z := (List.getElem?_eq_some_iff.mp hj).1
        simpa using z
      obtain ⟨g0, g1, _, _⟩ := hx j (by omega)
      obtain ⟨e0, e1, _, _⟩ := hf j hj2
      obtain rfl : f j = p := by simpa [List.getElem?_map, List.getElem?_range hj2] using hj
      rw [e0] at g0
      rw [e1] at g1
      exact ⟨g0, g1⟩
theorem open_T63_30 {H : Type} {enc : TypeId × Value → H} {W : World} {base : Nat} {spare : Nat → Bool} {held : Bool} {fuel : Nat} {cs : List Value} {x : DataW H × List MemPlace} (h : DataW.trod enc Try.prog W base spare held fuel 30 cs = some x) :
    ∃ (A : Option Addr) (c : Nat) (l : List S63), cs = [.slice A l.length c] ∧ l.length ≤ c ∧ l.length ≤ maxLen ∧ (∀ x ∈ l, x.f0.size ≤ maxLen ∧ x.f1.size ≤ maxLen) ∧ Kd.C k63 W A l.length l := by
  obtain ⟨A, c, l, e1, e2, e3, e4, e5⟩ := open_pairs_of (fun x => .string x) (fun x => .string x) (fun x => x.size ≤ maxLen) (fun x => x.size ≤ maxLen) (fun n V x hx => by obtain ⟨b, e, _, w⟩ := DataW.trod_string Try.underlying9 hx; exact ⟨b, (List.cons.inj e).1, w⟩) (fun n V x hx => by obtain ⟨b, e, _, w⟩ := DataW.trod_string Try.underlying9 hx; exact ⟨b, (List.cons.inj e).1, w⟩) Try.underlying30 Try.underlying63 (by kernel_rfl) rfl rfl (by kernel_rfl) (by kernel_rfl) h
  refine ⟨A, c, l.map (fun p => (⟨p.1, p.2⟩ : S63)), by rw [List.length_map]; exact e1, by rw [List.length_map]; exact e2, by rw [List.length_map]; exact e3, fun x hx => ?_, rfl, by rw [List.length_map]; exact Nat.le_trans e3 (by decide), fun hn => ?_⟩
  · obtain ⟨p, hp, rfl⟩ := List.mem_map.mp hx
    exact e4 p hp
  · rw [List.length_map] at hn
    obtain ⟨ad, e, hc⟩ := e5 hn
    refine ⟨ad, e, fun j p hj => ?_⟩
    obtain ⟨q, hq, rfl⟩ : ∃ q, l[j]? = some q ∧ (⟨q.1, q.2⟩ : S63) = p := by simpa [List.getElem?_map] using hj
    obtain ⟨g0, g1⟩ := hc j q hq
    refine ⟨_, rfl, k63_mk W _, fun i u hu => ?_⟩
    match i, hu with
    | 0, hu => cases hu; exact g0
    | 1, hu => cases hu; exact g1
    | i + 2, hu => simp at hu
end Go.Proofs.Ytgdlnbdbilgboaa.PFnExactKeysIn
namespace Go.Proofs.Ytgdlnbdbilgboaa.fnExactKeysIn
open Go.ChangeShapes Go.WideShapes Go.ChangeAt Go.RowKit
open Go.ChangeMaps (open_string shut_string)
set_option linter.unusedVariables false
theorem own : ownKnob Try.prog.godebug = none := by kernel_rfl
theorem laidOut : laidOutB Try.prog = true := by kernel_rfl
def IsRow (k : IntKind) (w : World) (a : Option Addr) (len cap : Nat) (zs : List Int) : Prop :=
  (a = none ∧ len = 0 ∧ cap = 0 ∧ zs = []) ∨
  ∃ x, a = some x ∧ len ≤ cap ∧ cap ≤ maxLen ∧ zs.length = cap ∧ (∀ i, i < zs.length → w.cell? (x.add i) = some (.int k (zs.getD i 0))) ∧ ∀ n ∈ zs, (Lit.int k n).wf = true
set_option maxRecDepth 100000 in
theorem lifted (os : Os) (started : os.Started) (H : Type) (enc : TypeId × Value → H) :
    ReturnsInHanded {} Try.checked os 6 .any (Rows.fnExactKeysInSpec.pre6 enc Try.prog Try.f6 Rows.fnExactKeysInRow.domain false) (Rows.fnExactKeysInSpec.post enc Try.prog Try.f6 false true false false) := by
  refine returnsInHanded_of_change_sized (C := Try.checked) own started (by kernel_rfl) Try.func6
    (ChangeSpec.witness6 (enc := enc) (C := Try.checked) false ⟨#[], #[.agg #[.int .i64 0, .int .i64 0, .slice none 0 0, .slice none 0 0]], []⟩ 8 (by kernel_rfl) (by kernel_rfl) (by kernel_rfl) (by kernel_rfl)) ?_
  intro W base args ds gs before hval0 hW hcnd hsz0 _
  have hsz : (DataW.weightsEach Try.prog (Try.f6.params.toList ++ Rows.fnExactKeysInSpec.plain.varTypes Try.prog) (ds ++ gs)).all (· ≤ reachBytes) = true := hsz0
  have hval : ∀ (j : Nat) t v, Try.f6.params[j]? = some t → args[j]? = some v → Value.okWide Try.prog W .any base t v := hval0
  have hW' := hW
  obtain ⟨p, q, hA0, hV, rfl, hfz, hnd⟩ := hW
  have hA : DataW.TrodAll enc Try.prog W 0 (fun _ => true) true Try.f6.params.toList args.toList ds p := hA0
  rw [Try.params6] at hA hval hsz
  obtain ⟨v0, vs0, d0, ds0, p0, q0, hargs, rfl, rfl, h0, r0⟩ := trodAll_cons hA
  obtain ⟨rfl, rfl, rfl⟩ := trodAll_nil r0
  obtain rfl : args = #[v0] := by cases args; simp_all
  obtain ⟨rfl, rfl⟩ := trodVars_none hV
  have k0 := h0
  have lt0 : ∀ x ∈ p0, x.block < W.heap.size := by obtain ⟨m, hm⟩ := k0; exact DataW.trod_lt m _ _ _ hm
  obtain ⟨u0_0, u0_1, u0_2, u0_3, y0_0, y0_1, y0_2, y0_3, n0, rfl, hd0, hp0, t0_0, t0_1, t0_2, t0_3⟩ := Go.Joins.open_agg4 Try.underlying32 (by kernel_rfl) (by kernel_rfl) (hval 0 32 v0 rfl rfl) h0
  obtain ⟨a0_0, e0_0, _, w0_0⟩ := DataW.trod_int Try.underlying3 t0_0
  obtain rfl := (List.cons.inj e0_0).1
  obtain ⟨a0_1, e0_1, _, w0_1⟩ := DataW.trod_int Try.underlying3 t0_1
  obtain rfl := (List.cons.inj e0_1).1
  obtain ⟨A0_2, c0_2, l0_2, ec0_2, wc0_2, wm0_2, ww0_2, wr0_2⟩ := PFnExactKeysIn.open_T63_30 t0_2
  obtain rfl := (List.cons.inj ec0_2).1
  obtain ⟨A0_3, c0_3, l0_3, ec0_3, wc0_3, wm0_3, ww0_3, wr0_3⟩ := PFnExactKeysIn.open_T63_30 t0_3
  obtain rfl := (List.cons.inj ec0_3).1
  clear hA0 hval0 hsz0 hsz
  refine (PFnExactKeysIn.laws_FnExactKeysIn.walk Pure.FnExactKeysIn a0_0 a0_1 _ _ l0_2 _ _ l0_3 W w0_0 w0_1 wr0_2 wc0_2 wm0_2 ww0_2 wr0_3 wc0_3 wm0_3 ww0_3).mono fun e W' ⟨he, bel⟩ => ?_
  subst he
  exact ⟨_, rfl, _, _, _, [], _, [], hW', trodAll_mk1 (shut_bool Try.underlying4 _), (trodAll_cons_mk (Below.trod laidOut (by kernel_rfl) (of_decide_eq_true (by kernel_rfl)) k0 bel lt0) trodAll_mk0), rfl, bel.frame _, fun h => by cases h⟩
theorem over : Rows.fnExactKeysInRow.holds Try.pinned (OpenSpec.ofChange Rows.fnExactKeysInSpec) :=
  OpenClaim.holds_of_wide 6 Try.f6 rfl rfl rfl rfl rfl rfl rfl ⟨rfl, rfl, rfl, rfl, rfl⟩ rfl rfl rfl rfl rfl (by kernel_rfl) Try.func6 (by kernel_rfl)
    (of_decide_eq_true (by kernel_rfl)) (by unfold Func.isWrapper; first | (rw [if_pos (by decide +kernel)]; kernel_rfl) | (rw [if_neg (by decide +kernel)]; exact ⟨rfl, rfl⟩))
    (fun os started H enc _ => lifted os started H enc)
theorem proved : Rows.FnExactKeysInSaid := over
#print axioms proved
end Go.Proofs.Ytgdlnbdbilgboaa.fnExactKeysIn
namespace Go.Proofs.Ytgdlnbdbilgboaa
/-- The row, under a short name, for the claim. -/
theorem fnExactKeysIn_holds : Rows.FnExactKeysInSaid := fnExactKeysIn.proved
end Go.Proofs.Ytgdlnbdbilgboaa
