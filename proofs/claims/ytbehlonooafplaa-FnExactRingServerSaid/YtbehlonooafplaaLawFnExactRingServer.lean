-- Written by a program of this project (xprint.py) out of the translation; Lean checks it.
import Derived.Test.YtbehlonooafplaaRows
import Derived.Test.YtbehlonooafplaaPFnExactRingServerx5
import Derived.Test.YtbehlonooafplaaPureFnExactRingServer
import Derived.WalkKit
import Derived.ProofKit
import Derived.OpenShut
import Derived.ShutString
import Derived.ChangeOld
import Derived.Below
import Derived.SizedLaws
import Derived.Lib.SmallJoins
import Derived.Test.YtbehlonooafplaaWSized
import Derived.Deep.SlicePairs
namespace Go.Proofs.Ytbehlonooafplaa.PFnExactRingServer
open Go.RowKit Go.ChangeShapes Go.WideShapes Go.Proofs.YtbehlonooafplaaW.PrintWords Go.Proofs.YtbehlonooafplaaW.PrintLast Go.Proofs.YtbehlonooafplaaW.PrintMore
theorem open_pairs_of {H : Type} {enc : TypeId × Value → H} {P : Program} {w : World} {base : Nat} {spare : Nat → Bool} {held : Bool} {t e : TypeId} {f0 f1 : Field} {fuel : Nat} {cs : List Value} {x : DataW H × List MemPlace} {β0 β1 : Type} [Inhabited β0] [Inhabited β1]
    (enc0 : β0 → Value) (enc1 : β1 → Value) (ok0 : β0 → Prop) (ok1 : β1 → Prop)
    (h0 : ∀ n V x, DataW.trod enc P w base spare held n f0.type [V] = some x → ∃ b, V = enc0 b ∧ ok0 b) (h1 : ∀ n V x, DataW.trod enc P w base spare held n f1.type [V] = some x → ∃ b, V = enc1 b ∧ ok1 b)
    (ht : P.underlying t = some (.slice e)) (he : P.underlying e = some (.struct #[f0, f1])) (ce : P.cellsOf e = 2) (o0 : f0.offset = 0) (o1 : f1.offset = 1) (c0 : P.cellsOf f0.type = 1) (c1 : P.cellsOf f1.type = 1)
    (h : DataW.trod enc P w base spare held fuel t cs = some x) :
    ∃ (A : Option Addr) (c : Nat) (l : List (β0 × β1)), cs = [.slice A l.length c] ∧ l.length ≤ c ∧ l.length ≤ maxLen ∧ (∀ x ∈ l, ok0 x.1 ∧ ok1 x.2) ∧
      (0 < l.length → ∃ ad, A = some ad ∧ ∀ j p, l[j]? = some p → w.cell? (ad.add (j * 2)) = some (enc0 p.1) ∧ w.cell? (ad.add (j * 2 + 1)) = some (enc1 p.2)) := by
  rcases Go.Deep.open_slice_pairs ht he ce o0 o1 c0 c1 h with ⟨rfl, _⟩ | ⟨a, len, cap, m, n, V0, V1, D0, D1, P0, P1, rfl, _, hl, hm, hmm, _, hx⟩
  · exact ⟨none, 0, [], rfl, Nat.le_refl _, Nat.zero_le _, fun x hx => by simp at hx, fun hn => by simp at hn⟩
  · have hlm : len ≤ m := by rw [hmm]; split <;> omega
    obtain ⟨f, hf⟩ := Go.Deep.choose_lt (α := β0 × β1) (n := len) (p := fun i b => V0 i = enc0 b.1 ∧ V1 i = enc1 b.2 ∧ ok0 b.1 ∧ ok1 b.2) (fun i hi => by
      obtain ⟨_, _, g0, g1⟩ := hx i (by omega)
      obtain ⟨b0, e0, k0⟩ := h0 _ _ _ g0
      obtain ⟨b1, e1, k1⟩ := h1 _ _ _ g1
      exact ⟨(b0, b1), e0, e1, k0, k1⟩)
    refine ⟨some a, cap, (List.range len).map f, by simp, by simpa using hl, by simp; omega, fun x hx' => ?_, fun _ => ⟨a, rfl, fun j p hj => ?_⟩⟩
    · obtain ⟨i, hi, rfl⟩ := List.mem_map.mp hx'
      exact (hf i (List.mem_range.mp hi)).2.2
    · have hj2 : j < len := by
        have z := (List.getElem?_eq_some_iff.mp hj).1
        simpa using z
      obtain ⟨g0, g1, _, _⟩ := hx j (by omega)
      obtain ⟨e0, e1, _, _⟩ := hf j hj2
      obtain rfl : f j = p := by simpa [List.getElem?_map, List.getElem?_range hj2] using hj
      rw [e0] at g0
      rw [e1] at g1
      exact ⟨g0, g1⟩
theorem open_T40_25 {H : Type} {enc : TypeId × Value → H} {W : World} {base : Nat} {spare : Nat → Bool} {held : Bool} {fuel : Nat} {cs : List Value} {x : DataW H × List MemPlace} (h : DataW.trod enc Try.prog W base spare held fuel 25 cs = some x) :
    ∃ (A : Option Addr) (c : Nat) (l : List S40), cs = [.slice A l.length c] ∧ l.length ≤ c ∧ l.length ≤ maxLen ∧ (∀ x ∈ l, (Lit.int .u32 x.f0).wf = true ∧ (Lit.int .i64 x.f1).wf = true) ∧ Kd.C k40 W A l.length l := by
  obtain ⟨A, c, l, e1, e2, e3, e4, e5⟩ := open_pairs_of (fun x => .int .u32 x) (fun x => .int .i64 x) (fun x => (Lit.int .u32 x).wf = true) (fun x => (Lit.int .i64 x).wf = true) (fun n V x hx => by obtain ⟨b, e, _, w⟩ := DataW.trod_int Try.underlying22 hx; exact ⟨b, (List.cons.inj e).1, w⟩) (fun n V x hx => by obtain ⟨b, e, _, w⟩ := DataW.trod_int Try.underlying3 hx; exact ⟨b, (List.cons.inj e).1, w⟩) Try.underlying25 Try.underlying40 (by kernel_rfl) rfl rfl (by kernel_rfl) (by kernel_rfl) h
  refine ⟨A, c, l.map (fun p => (⟨p.1, p.2⟩ : S40)), by rw [List.length_map]; exact e1, by rw [List.length_map]; exact e2, by rw [List.length_map]; exact e3, fun x hx => ?_, rfl, by rw [List.length_map]; exact Nat.le_trans e3 (by decide), fun hn => ?_⟩
  · obtain ⟨p, hp, rfl⟩ := List.mem_map.mp hx
    exact e4 p hp
  · rw [List.length_map] at hn
    obtain ⟨ad, e, hc⟩ := e5 hn
    refine ⟨ad, e, fun j p hj => ?_⟩
    obtain ⟨q, hq, rfl⟩ : ∃ q, l[j]? = some q ∧ (⟨q.1, q.2⟩ : S40) = p := by simpa [List.getElem?_map] using hj
    obtain ⟨g0, g1⟩ := hc j q hq
    refine ⟨_, rfl, k40_mk W _, fun i u hu => ?_⟩
    match i, hu with
    | 0, hu => cases hu; exact g0
    | 1, hu => cases hu; exact g1
    | i + 2, hu => simp at hu
end Go.Proofs.Ytbehlonooafplaa.PFnExactRingServer
namespace Go.Proofs.Ytbehlonooafplaa.fnExactRingServer
open Go.ChangeShapes Go.WideShapes Go.ChangeAt Go.RowKit
open Go.ChangeMaps (open_string shut_string)
set_option linter.unusedVariables false
theorem own : ownKnob Try.prog.godebug = none := by kernel_rfl
theorem laidOut : laidOutB Try.prog = true := by kernel_rfl
def IsRow (k : IntKind) (w : World) (a : Option Addr) (len cap : Nat) (zs : List Int) : Prop :=
  (a = none ∧ len = 0 ∧ cap = 0 ∧ zs = []) ∨
  ∃ x, a = some x ∧ len ≤ cap ∧ cap ≤ maxLen ∧ zs.length = cap ∧ (∀ i, i < zs.length → w.cell? (x.add i) = some (.int k (zs.getD i 0))) ∧ ∀ n ∈ zs, (Lit.int k n).wf = true
set_option maxRecDepth 100000 in
theorem lifted (os : Os) (started : os.Started) (H : Type) (enc : TypeId × Value → H) :
    ReturnsInHanded {} Try.checked os 4 .any (Rows.fnExactRingServerSpec.pre6 enc Try.prog Try.f4 Rows.fnExactRingServerRow.domain false) (Rows.fnExactRingServerSpec.post enc Try.prog Try.f4 false true false false) := by
  refine returnsInHanded_of_change_sized (C := Try.checked) own started (by kernel_rfl) Try.func4
    (ChangeSpec.witness6 (enc := enc) (C := Try.checked) false ⟨#[], #[.slice none 0 0, .string ByteArray.empty], []⟩ 8 (by kernel_rfl) (by kernel_rfl) (by kernel_rfl) (by kernel_rfl)) ?_
  intro W base args ds gs before hval0 hW hcnd hsz0 _
  have hsz : (DataW.weightsEach Try.prog (Try.f4.params.toList ++ Rows.fnExactRingServerSpec.plain.varTypes Try.prog) (ds ++ gs)).all (· ≤ reachBytes) = true := hsz0
  have hval : ∀ (j : Nat) t v, Try.f4.params[j]? = some t → args[j]? = some v → Value.okWide Try.prog W .any base t v := hval0
  have hW' := hW
  obtain ⟨p, q, hA0, hV, rfl, hfz, hnd⟩ := hW
  have hA : DataW.TrodAll enc Try.prog W 0 (fun _ => true) true Try.f4.params.toList args.toList ds p := hA0
  rw [Try.params4] at hA hval hsz
  obtain ⟨v0, vs0, d0, ds0, p0, q0, hargs, rfl, rfl, h0, r0⟩ := trodAll_cons hA
  obtain ⟨v1, vs1, d1, ds1, p1, q1, rfl, rfl, rfl, h1, r1⟩ := trodAll_cons r0
  obtain ⟨rfl, rfl, rfl⟩ := trodAll_nil r1
  obtain rfl : args = #[v0, v1] := by cases args; simp_all
  obtain ⟨rfl, rfl⟩ := trodVars_none hV
  obtain ⟨aa0, ll0, cc0, rfl⟩ := okWide_slice Try.underlying25 (hval 0 25 v0 rfl rfl)
  have k0 := h0
  have lt0 : ∀ x ∈ p0, x.block < W.heap.size := by obtain ⟨m, hm⟩ := k0; exact DataW.trod_lt m _ _ _ hm
  obtain ⟨fu0, hf0⟩ := h0
  obtain ⟨A0, c0, l0, ec0, wc0, wm0, ww0, wr0⟩ := PFnExactRingServer.open_T40_25 hf0
  simp [Value.cells] at ec0
  obtain ⟨rfl, rfl, rfl⟩ := ec0
  obtain ⟨a1, rfl, rfl, rfl, y1⟩ := open_string Try.underlying9 (hval 1 9 v1 rfl rfl) h1
  have w1 : a1.size ≤ 140737488351232 := by
    have z := sized_string hsz (j := 1) (t := 9) rfl rfl
    rw [Array.length_toList] at z
    exact z
  clear hA0 hval0 hsz0 hsz
  refine (PFnExactRingServer.laws_FnExactRingServer.walk Pure.FnExactRingServer _ _ l0 a1 W wr0 wc0 wm0 ww0 w1).mono fun e W' ⟨he, bel⟩ => ?_
  subst he
  exact ⟨_, rfl, _, _, _, [], _, [], hW', trodAll_mk1 (shut_bool Try.underlying4 _), (trodAll_cons_mk (Below.trod laidOut (by kernel_rfl) (of_decide_eq_true (by kernel_rfl)) k0 bel lt0) (trodAll_cons_mk (shut_string Try.underlying9 y1) trodAll_mk0)), rfl, bel.frame _, fun h => by cases h⟩
theorem over : Rows.fnExactRingServerRow.holds Try.pinned (OpenSpec.ofChange Rows.fnExactRingServerSpec) :=
  OpenClaim.holds_of_wide 4 Try.f4 rfl rfl rfl rfl rfl rfl rfl ⟨rfl, rfl, rfl, rfl, rfl⟩ rfl rfl rfl rfl rfl (by kernel_rfl) Try.func4 (by kernel_rfl)
    (of_decide_eq_true (by kernel_rfl)) (by unfold Func.isWrapper; first | (rw [if_pos (by decide +kernel)]; kernel_rfl) | (rw [if_neg (by decide +kernel)]; exact ⟨rfl, rfl⟩))
    (fun os started H enc _ => lifted os started H enc)
theorem proved : Rows.FnExactRingServerSaid := over
#print axioms proved
end Go.Proofs.Ytbehlonooafplaa.fnExactRingServer
namespace Go.Proofs.Ytbehlonooafplaa
/-- The row, under a short name, for the claim. -/
theorem fnExactRingServer_holds : Rows.FnExactRingServerSaid := fnExactRingServer.proved
end Go.Proofs.Ytbehlonooafplaa
