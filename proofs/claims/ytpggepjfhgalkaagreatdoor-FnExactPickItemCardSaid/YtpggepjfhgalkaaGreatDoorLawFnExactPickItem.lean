-- Written by a program of this project (xprint.py) out of the translation; Lean checks it.
import Derived.Test.YtpggepjfhgalkaaGreatDoorRows
import Derived.Test.YtpggepjfhgalkaaGreatDoorPFnExactPickItemx23
import Derived.Test.YtpggepjfhgalkaaGreatDoorPureFnExactPickItem
import Derived.Test.YtpggepjfhgalkaaGreatDoorCards
import Derived.Test.YtpggepjfhgalkaaGreatDoorTie
import Derived.Deep.DeepHandedRow
import Derived.Lib.LaidTab
import Derived.Stop.LaidErr
import Derived.MakeChecks
import Derived.Shelf.Vars
import Derived.WalkKit
import Derived.ProofKit
import Derived.OpenShut
import Derived.ShutString
import Derived.ChangeOld
import Derived.Below
import Derived.SizedLaws
import Derived.Lib.SmallJoins
import Derived.Test.YtpggepjfhgalkaaGreatDoorVFnExactPickItem1
import Derived.Deep.SlicePairs
namespace Go.Proofs.YtpggepjfhgalkaaGreatDoor.PFnExactPickItem
open Go.RowKit Go.ChangeShapes Go.WideShapes
theorem arrl8 {α : Type} {cs : List α} (h : cs.length = 8) : ∃ c0 c1 c2 c3 c4 c5 c6 c7, cs = [c0, c1, c2, c3, c4, c5, c6, c7] := by
  match cs, h with
  | [c0, c1, c2, c3, c4, c5, c6, c7], _ => exact ⟨c0, c1, c2, c3, c4, c5, c6, c7, rfl⟩
theorem open_any {H : Type} {enc : TypeId × Value → H} {P : Program} {w : World} {base : Nat} {spare : Nat → Bool} {held : Bool} {r : Reach} {b0 : Nat} {t : TypeId} {fs : Array Field} {v : Value} {d : DataW H} {p : List MemPlace} (hs : P.underlying t = some (.struct fs)) (hv : Value.okWide P w r b0 t v) (h : DataW.Trod enc P w base spare held t v d p) :
    ∃ cs : Array Value, v = .agg cs ∧ cs.size = P.cellsOf t ∧ ∃ n x, DataW.trod enc P w base spare held n t cs.toList = some x := by
  obtain ⟨cs, rfl, hz⟩ := okWide_struct hs hv
  obtain ⟨n, hf⟩ := h
  exact ⟨cs, rfl, hz, n, _, hf⟩
theorem open_field {H : Type} {enc : TypeId × Value → H} {P : Program} {w : World} {base : Nat} {spare : Nat → Bool} {held : Bool} {t : TypeId} {fs : Array Field} {fuel : Nat} {cs : List Value} {x : DataW H × List MemPlace} (hs : P.underlying t = some (.struct fs)) (h : DataW.trod enc P w base spare held fuel t cs = some x) (i : Nat) (f : Field) (o c : Nat) (hf : fs[i]? = some f) (ho : f.offset = o) (hc : P.cellsOf f.type = c) :
    ∃ n y, DataW.trod enc P w base spare held n f.type ((cs.drop o).take c) = some y := by
  obtain ⟨xs, n, _, _, _, hl, hx⟩ := DataW.trod_struct hs h
  have hi : i < xs.length := by
    have z := (Array.getElem?_eq_some_iff.mp hf).1
    omega
  refine ⟨n, xs[i], ?_⟩
  subst ho hc
  rw [hx i f hf]
  exact List.getElem?_eq_getElem hi
end Go.Proofs.YtpggepjfhgalkaaGreatDoor.PFnExactPickItem
namespace Go.Proofs.YtpggepjfhgalkaaGreatDoor.PFnExactPickItem
open Go.RowKit Go.ChangeShapes Go.WideShapes Go.Proofs.YtpggepjfhgalkaaGreatDoorW.PrintWords Go.Proofs.YtpggepjfhgalkaaGreatDoorW.PrintLast Go.Proofs.YtpggepjfhgalkaaGreatDoorW.PrintMore
theorem open_pairs_of {H : Type} {enc : TypeId × Value → H} {P : Program} {w : World} {base : Nat} {spare : Nat → Bool} {held : Bool} {t e : TypeId} {f0 f1 : Field} {fuel : Nat} {cs : List Value} {x : DataW H × List MemPlace} {β0 β1 : Type} [Inhabited β0] [Inhabited β1]
    (enc0 : β0 → Value) (enc1 : β1 → Value) (ok0 : β0 → Prop) (ok1 : β1 → Prop)
    (h0 : ∀ n V x, DataW.trod enc P w base spare held n f0.type [V] = some x → ∃ b, V = enc0 b ∧ ok0 b) (h1 : ∀ n V x, DataW.trod enc P w base spare held n f1.type [V] = some x → ∃ b, V = enc1 b ∧ ok1 b)
    (ht : P.underlying t = some (.slice e)) (he : P.underlying e = some (.struct #[f0, f1])) (ce : P.cellsOf e = 2) (o0 : f0.offset = 0) (o1 : f1.offset = 1) (c0 : P.cellsOf f0.type = 1) (c1 : P.cellsOf f1.type = 1)
    (h : DataW.trod enc P w base spare held fuel t cs = some x) :
    ∃ (A : Option Addr) (c : Nat) (l : List (β0 × β1)), cs = [.slice A l.length c] ∧ l.length ≤ c ∧ l.length ≤ maxLen ∧ (∀ x ∈ l, ok0 x.1 ∧ ok1 x.2) ∧
      (0 < l.length → ∃ ad, A = some ad ∧ ∀ j p, l[j]? = some p → w.cell? (ad.add (j * 2)) = some (enc0 p.1) ∧ w.cell? (ad.add (j * 2 + 1)) = some (enc1 p.2)) := by
  rcases Go.Deep.open_slice_pairs ht he ce o0 o1 c0 c1 h with ⟨rfl, _⟩ | ⟨a, len, cap, m, n, V0, V1, D0, D1, P0, P1, rfl, _, hl, hm, hmm, _, hx⟩
  · exact ⟨none, 0, [], rfl, Nat.le_refl _, Nat.zero_le _, fun x hx => by simp at hx, fun hn => by simp at hn⟩
  · have hlm : len ≤ m := by rw [hmm]; split <;> omega
    obtain ⟨f, hf⟩ := Go.Deep.choose_lt (α := β0 × β1) (n := len) (p := fun i b => V0 i = enc0 b.1 ∧ V1 i = enc1 b.2 ∧ ok0 b.1 ∧ ok1 b.2) (fun i hi => by
      obtain ⟨_, _, g0, g1⟩ := hx i (by omega)
      obtain ⟨b0, e0, k0⟩ := h0 _ _ _ g0
      obtain ⟨b1, e1, k1⟩ := h1 _ _ _ g1
      exact ⟨(b0, b1), e0, e1, k0, k1⟩)
    refine ⟨some a, cap, (List.range len).map f, by simp, by simpa using hl, by simp; omega, fun x hx' => ?_, fun _ => ⟨a, rfl, fun j p hj => ?_⟩⟩
    · obtain ⟨i, hi, rfl⟩ := List.mem_map.mp hx'
      exact (hf i (List.mem_range.mp hi)).2.2
    · have hj2 : j < len := by
        have z := (List.getElem?_eq_some_iff.mp hj).1
        simpa using z
      obtain ⟨g0, g1, _, _⟩ := hx j (by omega)
      obtain ⟨e0, e1, _, _⟩ := hf j hj2
      obtain rfl : f j = p := by simpa [List.getElem?_map, List.getElem?_range hj2] using hj
      rw [e0] at g0
      rw [e1] at g1
      exact ⟨g0, g1⟩
theorem open_rows_of {H : Type} {enc : TypeId × Value → H} {P : Program} {w : World} {base : Nat} {spare : Nat → Bool} {held : Bool} {t e : TypeId} {fuel : Nat} {cs : List Value} {x : DataW H × List MemPlace} {α : Type} [Inhabited α] (kd : Kd α) (N : Nat) (ok : α → Prop) (hN : kd.sz = N)
    (hel : ∀ (n : Nat) (cs' : List Value) (y : DataW H × List MemPlace), cs'.length = N → DataW.trod enc P w base spare held n e cs' = some y → ∃ a, kd.K w a cs' ∧ ok a)
    (ht : P.underlying t = some (.slice e)) (ce : P.cellsOf e = N) (h : DataW.trod enc P w base spare held fuel t cs = some x) :
    ∃ (A : Option Addr) (c : Nat) (l : List α), cs = [.slice A l.length c] ∧ l.length ≤ c ∧ l.length ≤ maxLen ∧ (∀ x ∈ l, ok x) ∧ Kd.C kd w A l.length l := by
  have hmx : maxLen = 9223372036854775807 := by decide
  rcases Go.Deep.open_slice ht h with ⟨rfl, _⟩ | ⟨a, len, cap, m, n, D, Pl, rfl, hb, hl, hm, hmm, _, hx⟩
  · exact ⟨none, 0, [], rfl, Nat.le_refl _, Nat.zero_le _, fun x hx => absurd hx List.not_mem_nil, rfl, Nat.zero_le _, fun hn => absurd hn (Nat.lt_irrefl _)⟩
  · have hlm : len ≤ m := by rw [hmm]; split <;> omega
    obtain ⟨f, hf⟩ := Go.Deep.choose_lt (α := α) (n := len) (p := fun i b => (∃ cs' : List Value, cs'.length = N ∧ kd.K w b cs' ∧ ∀ j, j < N → w.cell? ((a.add (i * N)).add j) = cs'[j]?) ∧ ok b) (fun i hi => by
      obtain ⟨cs', h1, h2⟩ := hx i (by omega)
      rw [ce] at h1
      obtain ⟨_, hlen, hcell⟩ := World.cells?_some h1
      obtain ⟨b, hk, hok⟩ := hel _ _ _ hlen h2
      exact ⟨b, ⟨cs', hlen, hk, hcell⟩, hok⟩)
    refine ⟨some a, cap, (List.range len).map f, by simp, by simpa using hl, by simp; omega, fun x hx' => ?_, rfl, by simp; omega, fun _ => ⟨a, rfl, fun j p hj => ?_⟩⟩
    · obtain ⟨i, hi, rfl⟩ := List.mem_map.mp hx'
      exact (hf i (List.mem_range.mp hi)).2
    · have hj2 : j < len := by
        have z := (List.getElem?_eq_some_iff.mp hj).1
        simpa using z
      obtain rfl : f j = p := by simpa [List.getElem?_map, List.getElem?_range hj2] using hj
      obtain ⟨⟨cs', hlen, hk, hcell⟩, _⟩ := hf j hj2
      refine ⟨cs', by rw [hN]; exact hlen, hk, fun i u hu => ?_⟩
      have hi : i < N := by
        have z := (List.getElem?_eq_some_iff.mp hu).1
        omega
      have z := hcell i hi
      rw [Go.Deep.add_add, hu] at z
      rw [hN]
      exact z
theorem open_T97_24 {H : Type} {enc : TypeId × Value → H} {W : World} {base : Nat} {spare : Nat → Bool} {held : Bool} {fuel : Nat} {cs : List Value} {x : DataW H × List MemPlace} (h : DataW.trod enc Tryz.prog W base spare held fuel 24 cs = some x) :
    ∃ (A : Option Addr) (c : Nat) (l : List S97), cs = [.slice A l.length c] ∧ l.length ≤ c ∧ l.length ≤ maxLen ∧ (∀ x ∈ l, x.f0.size ≤ maxLen ∧ x.f1.size ≤ maxLen) ∧ Kd.C k97 W A l.length l := by
  obtain ⟨A, c, l, e1, e2, e3, e4, e5⟩ := open_pairs_of (fun x => .string x) (fun x => .string x) (fun x => x.size ≤ maxLen) (fun x => x.size ≤ maxLen) (fun n V x hx => by obtain ⟨b, e, _, w⟩ := DataW.trod_string Tryz.underlying9 hx; exact ⟨b, (List.cons.inj e).1, w⟩) (fun n V x hx => by obtain ⟨b, e, _, w⟩ := DataW.trod_string Tryz.underlying9 hx; exact ⟨b, (List.cons.inj e).1, w⟩) Tryz.underlying24 Tryz.underlying97 (by kernel_rfl) rfl rfl (by kernel_rfl) (by kernel_rfl) h
  refine ⟨A, c, l.map (fun p => (⟨p.1, p.2⟩ : S97)), by rw [List.length_map]; exact e1, by rw [List.length_map]; exact e2, by rw [List.length_map]; exact e3, fun x hx => ?_, rfl, by rw [List.length_map]; exact Nat.le_trans e3 (by decide), fun hn => ?_⟩
  · obtain ⟨p, hp, rfl⟩ := List.mem_map.mp hx
    exact e4 p hp
  · rw [List.length_map] at hn
    obtain ⟨ad, e, hc⟩ := e5 hn
    refine ⟨ad, e, fun j p hj => ?_⟩
    obtain ⟨q, hq, rfl⟩ : ∃ q, l[j]? = some q ∧ (⟨q.1, q.2⟩ : S97) = p := by simpa [List.getElem?_map] using hj
    obtain ⟨g0, g1⟩ := hc j q hq
    refine ⟨_, rfl, k97_mk W _, fun i u hu => ?_⟩
    match i, hu with
    | 0, hu => cases hu; exact g0
    | 1, hu => cases hu; exact g1
    | i + 2, hu => simp at hu
theorem open_T64_39 {H : Type} {enc : TypeId × Value → H} {W : World} {base : Nat} {spare : Nat → Bool} {held : Bool} {fuel : Nat} {cs : List Value} {x : DataW H × List MemPlace} (h : DataW.trod enc Tryz.prog W base spare held fuel 39 cs = some x) :
    ∃ (A : Option Addr) (c : Nat) (l : List S64), cs = [.slice A l.length c] ∧ l.length ≤ c ∧ l.length ≤ maxLen ∧ (∀ x ∈ l, x.f0.size ≤ maxLen ∧ x.f1.length ≤ maxLen ∧ (∀ y ∈ x.f1, y.f0.size ≤ maxLen ∧ y.f1.size ≤ maxLen) ∧ (Lit.int .i64 x.f2.f0.f0).wf = true ∧ x.f2.f0.f1.size ≤ maxLen ∧ x.f2.f0.f2.length ≤ maxLen ∧ (∀ y ∈ x.f2.f0.f2, y.f0.size ≤ maxLen ∧ y.f1.size ≤ maxLen) ∧ x.f2.f0.f3.size ≤ maxLen ∧ (Lit.int .i64 x.f2.f1).wf = true ∧ (Lit.int .i64 x.f2.f2).wf = true) ∧ Kd.C k64 W A l.length l := by
  haveI : Inhabited S64 := ⟨z64⟩
  refine open_rows_of k64 8 (fun x => x.f0.size ≤ maxLen ∧ x.f1.length ≤ maxLen ∧ (∀ y ∈ x.f1, y.f0.size ≤ maxLen ∧ y.f1.size ≤ maxLen) ∧ (Lit.int .i64 x.f2.f0.f0).wf = true ∧ x.f2.f0.f1.size ≤ maxLen ∧ x.f2.f0.f2.length ≤ maxLen ∧ (∀ y ∈ x.f2.f0.f2, y.f0.size ≤ maxLen ∧ y.f1.size ≤ maxLen) ∧ x.f2.f0.f3.size ≤ maxLen ∧ (Lit.int .i64 x.f2.f1).wf = true ∧ (Lit.int .i64 x.f2.f2).wf = true) rfl (fun n cs' y hl hy => ?_) Tryz.underlying39 (by kernel_rfl) h
  obtain ⟨u0_0, u0_1, u0_2, u0_3, u0_4, u0_5, u0_6, u0_7, rfl⟩ := arrl8 hl
  obtain ⟨nq0_0, yq0_0, tq0_0⟩ := PFnExactPickItem.open_field Tryz.underlying64 hy 0 _ 0 1 rfl rfl (by kernel_rfl)
  replace tq0_0 : DataW.trod enc Tryz.prog W base spare held nq0_0 9 [u0_0] = some yq0_0 := tq0_0
  have t0_0 := tq0_0
  obtain ⟨nq0_1, yq0_1, tq0_1⟩ := PFnExactPickItem.open_field Tryz.underlying64 hy 1 _ 1 1 rfl rfl (by kernel_rfl)
  replace tq0_1 : DataW.trod enc Tryz.prog W base spare held nq0_1 24 [u0_1] = some yq0_1 := tq0_1
  have t0_1 := tq0_1
  obtain ⟨nq0_2, yq0_2, tq0_2⟩ := PFnExactPickItem.open_field Tryz.underlying64 hy 2 _ 2 6 rfl rfl (by kernel_rfl)
  replace tq0_2 : DataW.trod enc Tryz.prog W base spare held nq0_2 62 [u0_2, u0_3, u0_4, u0_5, u0_6, u0_7] = some yq0_2 := tq0_2
  obtain ⟨nq0_2_0, yq0_2_0, tq0_2_0⟩ := PFnExactPickItem.open_field Tryz.underlying62 tq0_2 0 _ 0 4 rfl rfl (by kernel_rfl)
  replace tq0_2_0 : DataW.trod enc Tryz.prog W base spare held nq0_2_0 48 [u0_2, u0_3, u0_4, u0_5] = some yq0_2_0 := tq0_2_0
  obtain ⟨nq0_2_0_0, yq0_2_0_0, tq0_2_0_0⟩ := PFnExactPickItem.open_field Tryz.underlying48 tq0_2_0 0 _ 0 1 rfl rfl (by kernel_rfl)
  replace tq0_2_0_0 : DataW.trod enc Tryz.prog W base spare held nq0_2_0_0 3 [u0_2] = some yq0_2_0_0 := tq0_2_0_0
  have t0_2 := tq0_2_0_0
  obtain ⟨nq0_2_0_1, yq0_2_0_1, tq0_2_0_1⟩ := PFnExactPickItem.open_field Tryz.underlying48 tq0_2_0 1 _ 1 1 rfl rfl (by kernel_rfl)
  replace tq0_2_0_1 : DataW.trod enc Tryz.prog W base spare held nq0_2_0_1 9 [u0_3] = some yq0_2_0_1 := tq0_2_0_1
  have t0_3 := tq0_2_0_1
  obtain ⟨nq0_2_0_2, yq0_2_0_2, tq0_2_0_2⟩ := PFnExactPickItem.open_field Tryz.underlying48 tq0_2_0 2 _ 2 1 rfl rfl (by kernel_rfl)
  replace tq0_2_0_2 : DataW.trod enc Tryz.prog W base spare held nq0_2_0_2 24 [u0_4] = some yq0_2_0_2 := tq0_2_0_2
  have t0_4 := tq0_2_0_2
  obtain ⟨nq0_2_0_3, yq0_2_0_3, tq0_2_0_3⟩ := PFnExactPickItem.open_field Tryz.underlying48 tq0_2_0 3 _ 3 1 rfl rfl (by kernel_rfl)
  replace tq0_2_0_3 : DataW.trod enc Tryz.prog W base spare held nq0_2_0_3 9 [u0_5] = some yq0_2_0_3 := tq0_2_0_3
  have t0_5 := tq0_2_0_3
  obtain ⟨nq0_2_1, yq0_2_1, tq0_2_1⟩ := PFnExactPickItem.open_field Tryz.underlying62 tq0_2 1 _ 4 1 rfl rfl (by kernel_rfl)
  replace tq0_2_1 : DataW.trod enc Tryz.prog W base spare held nq0_2_1 3 [u0_6] = some yq0_2_1 := tq0_2_1
  have t0_6 := tq0_2_1
  obtain ⟨nq0_2_2, yq0_2_2, tq0_2_2⟩ := PFnExactPickItem.open_field Tryz.underlying62 tq0_2 2 _ 5 1 rfl rfl (by kernel_rfl)
  replace tq0_2_2 : DataW.trod enc Tryz.prog W base spare held nq0_2_2 3 [u0_7] = some yq0_2_2 := tq0_2_2
  have t0_7 := tq0_2_2
  obtain ⟨a0_0, e0_0, _, w0_0⟩ := DataW.trod_string Tryz.underlying9 t0_0
  obtain rfl := (List.cons.inj e0_0).1
  obtain ⟨A0_1, c0_1, l0_1, ec0_1, wc0_1, wm0_1, ww0_1, wr0_1⟩ := open_T97_24 t0_1
  obtain rfl := (List.cons.inj ec0_1).1
  obtain ⟨a0_2, e0_2, _, w0_2⟩ := DataW.trod_int Tryz.underlying3 t0_2
  obtain rfl := (List.cons.inj e0_2).1
  obtain ⟨a0_3, e0_3, _, w0_3⟩ := DataW.trod_string Tryz.underlying9 t0_3
  obtain rfl := (List.cons.inj e0_3).1
  obtain ⟨A0_4, c0_4, l0_4, ec0_4, wc0_4, wm0_4, ww0_4, wr0_4⟩ := open_T97_24 t0_4
  obtain rfl := (List.cons.inj ec0_4).1
  obtain ⟨a0_5, e0_5, _, w0_5⟩ := DataW.trod_string Tryz.underlying9 t0_5
  obtain rfl := (List.cons.inj e0_5).1
  obtain ⟨a0_6, e0_6, _, w0_6⟩ := DataW.trod_int Tryz.underlying3 t0_6
  obtain rfl := (List.cons.inj e0_6).1
  obtain ⟨a0_7, e0_7, _, w0_7⟩ := DataW.trod_int Tryz.underlying3 t0_7
  obtain rfl := (List.cons.inj e0_7).1
  exact ⟨(⟨a0_0, l0_1, ⟨⟨a0_2, a0_3, l0_4, a0_5⟩, a0_6, a0_7⟩⟩ : S64), k64_mk W _ wc0_1 wr0_1 wc0_4 wr0_4, w0_0, wm0_1, ww0_1, w0_2, w0_3, wm0_4, ww0_4, w0_5, w0_6, w0_7⟩
end Go.Proofs.YtpggepjfhgalkaaGreatDoor.PFnExactPickItem
namespace Go.Proofs.YtpggepjfhgalkaaGreatDoor.fnExactPickItem
open Go.ChangeShapes Go.WideShapes Go.ChangeAt Go.RowKit
open Go.ChangeMaps (open_string shut_string)
set_option linter.unusedVariables false
theorem own : ownKnob Tryz.prog.godebug = none := by kernel_rfl
theorem laidOut : laidOutB Tryz.prog = true := by kernel_rfl
def IsRow (k : IntKind) (w : World) (a : Option Addr) (len cap : Nat) (zs : List Int) : Prop :=
  (a = none ∧ len = 0 ∧ cap = 0 ∧ zs = []) ∨
  ∃ x, a = some x ∧ len ≤ cap ∧ cap ≤ maxLen ∧ zs.length = cap ∧ (∀ i, i < zs.length → w.cell? (x.add i) = some (.int k (zs.getD i 0))) ∧ ∀ n ∈ zs, (Lit.int k n).wf = true
set_option maxRecDepth 100000 in
theorem contract (H : Type) (enc : TypeId × Value → H) (W : World) (base : Nat) (args : Array Value) (ds gs : List (DataW H)) (before : List MemPlace)
    (hval0 : ∀ (j : Nat) t v, Tryz.f4.params[j]? = some t → args[j]? = some v → Value.okWide Tryz.prog W .any base t v)
    (hW : DataW.Whole enc Tryz.prog Tryz.f4.params.toList Rows.fnExactPickItemSpec.vars false W args.toList ds gs before)
    (hsz0 : (DataW.weightsEach Tryz.prog (Tryz.f4.params.toList ++ Rows.fnExactPickItemSpec.plain.varTypes Tryz.prog) (ds ++ gs)).all (· ≤ reachBytes) = true) (hL : laidMetH Tryz.prog Rows.fnExactPickItemRow.laid W) (hS : W.ShapedOpen Tryz.prog) :
    Calls Tryz.prog 4 args W fun e W' => ∃ v, e = .returned v ∧ Rows.fnExactPickItemSpec.post enc Tryz.prog Tryz.f4 false true false false W args v W' := by
  have hsz : (DataW.weightsEach Tryz.prog (Tryz.f4.params.toList ++ Rows.fnExactPickItemSpec.plain.varTypes Tryz.prog) (ds ++ gs)).all (· ≤ reachBytes) = true := hsz0
  have hval : ∀ (j : Nat) t v, Tryz.f4.params[j]? = some t → args[j]? = some v → Value.okWide Tryz.prog W .any base t v := hval0
  have hW' := hW
  obtain ⟨p, q, hA0, hV, rfl, hfz, hnd⟩ := hW
  have hA : DataW.TrodAll enc Tryz.prog W 0 (fun _ => true) true Tryz.f4.params.toList args.toList ds p := hA0
  rw [Tryz.params4] at hA hval hsz
  obtain ⟨v0, vs0, d0, ds0, p0, q0, hargs, rfl, rfl, h0, r0⟩ := trodAll_cons hA
  obtain ⟨v1, vs1, d1, ds1, p1, q1, rfl, rfl, rfl, h1, r1⟩ := trodAll_cons r0
  obtain ⟨v2, vs2, d2, ds2, p2, q2, rfl, rfl, rfl, h2, r2⟩ := trodAll_cons r1
  obtain ⟨rfl, rfl, rfl⟩ := trodAll_nil r2
  obtain rfl : args = #[v0, v1, v2] := by cases args; simp_all
  obtain ⟨rfl, rfl⟩ := trodVars_none hV
  obtain ⟨aa0, ll0, cc0, rfl⟩ := okWide_slice Tryz.underlying39 (hval 0 39 v0 rfl rfl)
  have k0 := h0
  have lt0 : ∀ x ∈ p0, x.block < W.heap.size := by obtain ⟨m, hm⟩ := k0; exact DataW.trod_lt m _ _ _ hm
  obtain ⟨fu0, hf0⟩ := h0
  obtain ⟨A0, c0, l0, ec0, wc0, wm0, ww0, wr0⟩ := PFnExactPickItem.open_T64_39 hf0
  simp [Value.cells] at ec0
  obtain ⟨rfl, rfl, rfl⟩ := ec0
  obtain ⟨a1, rfl, rfl, rfl, y1⟩ := open_string Tryz.underlying9 (hval 1 9 v1 rfl rfl) h1
  have w1 : a1.size ≤ 140737488351232 := by
    have z := sized_string hsz (j := 1) (t := 9) rfl rfl
    rw [Array.length_toList] at z
    exact z
  have k2 := h2
  have lt2 : ∀ x ∈ p2, x.block < W.heap.size := by obtain ⟨m, hm⟩ := k2; exact DataW.trod_lt m _ _ _ hm
  obtain ⟨u2_0, u2_1, u2_2, u2_3, y2_0, y2_1, y2_2, y2_3, n2, rfl, hd2, hp2, t2_0, t2_1, t2_2, t2_3⟩ := Go.Joins.open_agg4 Tryz.underlying26 (by kernel_rfl) (by kernel_rfl) (hval 2 26 v2 rfl rfl) h2
  obtain ⟨a2_0, e2_0, _, w2_0⟩ := DataW.trod_string Tryz.underlying9 t2_0
  obtain rfl := (List.cons.inj e2_0).1
  obtain ⟨a2_1, e2_1, _, w2_1⟩ := DataW.trod_string Tryz.underlying9 t2_1
  obtain rfl := (List.cons.inj e2_1).1
  obtain ⟨A2_2, c2_2, l2_2, ec2_2, wc2_2, wm2_2, ww2_2, wr2_2⟩ := PFnExactPickItem.open_T97_24 t2_2
  obtain rfl := (List.cons.inj ec2_2).1
  obtain ⟨a2_3, e2_3, _, w2_3⟩ := DataW.trod_string Tryz.underlying9 t2_3
  obtain rfl := (List.cons.inj e2_3).1
  clear hA0 hval0 hsz0 hsz
  have hT : PFnExactPickItem.TabOk W := by
    have u0 : laidMet Tryz.prog Rows.fnExactPickItemRow.laid W := (MakeChecks.laidMetH_plain Tryz.prog Rows.fnExactPickItemRow.laid W (by kernel_rfl)) ▸ hL
    have u1 := laidMet.tail u0
    have u2 := laidMet.tail u1
    have u3 := laidMet.tail u2
    have u4 := laidMet.tail u3
    have u5 := laidMet.tail u4
    have tt := Lib.tabIs_of_head (P := Tryz.prog) (W := W) (name := "internal/strconv.uint64pow10") (k := .u64) (zs := [1, 10, 100, 1000, 10000, 100000, 1000000, 10000000, 100000000, 1000000000, 10000000000, 100000000000, 1000000000000, 10000000000000, 100000000000000, 1000000000000000, 10000000000000000, 100000000000000000, 1000000000000000000, 10000000000000000000]) (g := 1) (t := 221) (e := 184) (n := 20) (by kernel_rfl) (by kernel_rfl) (by kernel_rfl) (by kernel_rfl) (by kernel_rfl) (by kernel_rfl) u2
    have star_ : "*" ++ "errors.errorString" = "*errors.errorString" := by decide
    have row_ : ∀ u, Tryz.prog.typeName? 3 u = some "*errors.errorString" → u = 235 := fun u h => typeName_ptr_named (nm := "errors.errorString") (by rw [star_]; kernel_rfl) (by kernel_rfl) (by decide) u (by rw [star_]; exact h)
    obtain ⟨a4, s4, v4, _, _, _⟩ := laid_sentinel u5 (g := 4) (by kernel_rfl) (by kernel_rfl) Tryz.underlying147 row_ Tryz.underlying235 Tryz.underlying237 rfl rfl Tryz.underlying9 (by kernel_rfl) (by kernel_rfl)
    have o4 : PFnExactPickItem.IfOk W 4 := ⟨_, World.var?_cell (by kernel_rfl) v4 0, .inr ⟨_, _, rfl⟩⟩
    obtain ⟨a5, s5, v5, _, _, _⟩ := laid_sentinel u4 (g := 5) (by kernel_rfl) (by kernel_rfl) Tryz.underlying147 row_ Tryz.underlying235 Tryz.underlying237 rfl rfl Tryz.underlying9 (by kernel_rfl) (by kernel_rfl)
    have o5 : PFnExactPickItem.IfOk W 5 := ⟨_, World.var?_cell (by kernel_rfl) v5 0, .inr ⟨_, _, rfl⟩⟩
    exact ⟨cell_of_shapedOpen_int (P := Tryz.prog) (g := 0) (t := 3) (zero := #[.int .i64 0]) hS (of_decide_eq_true (by kernel_rfl)) (by kernel_rfl) rfl (by kernel_rfl) (by kernel_rfl) Tryz.underlying3, (show [1, 10, 100, 1000, 10000, 100000, 1000000, 10000000, 100000000, 1000000000, 10000000000, 100000000000, 1000000000000, 10000000000000, 100000000000000, 1000000000000000, 10000000000000000, 100000000000000000, 1000000000000000000, 10000000000000000000] = Lib.pow10Tab from by decide) ▸ tt, o4, o5⟩
  refine (PFnExactPickItem.laws_FnExactPickItem.walk Pure.FnExactPickItem _ _ l0 a1 a2_0 a2_1 _ _ l2_2 a2_3 W wr0 wc0 wm0 ww0 w1 w2_0 w2_1 wr2_2 wc2_2 wm2_2 ww2_2 w2_3 hT).mono fun e W' ⟨he, bel⟩ => ?_
  subst he
  exact ⟨_, rfl, _, _, _, [], _, [], hW', trodAll_mk1 (shut_bool Tryz.underlying4 _), (trodAll_cons_mk (Below.trod laidOut (by kernel_rfl) (of_decide_eq_true (by kernel_rfl)) k0 bel lt0) (trodAll_cons_mk (shut_string Tryz.underlying9 y1) (trodAll_cons_mk (Below.trod laidOut (by kernel_rfl) (of_decide_eq_true (by kernel_rfl)) k2 bel lt2) trodAll_mk0))), rfl, bel.frame _, fun h => by cases h⟩
noncomputable def low : Nat := (World.holding Tryz.prog default ⟨#[], #[], []⟩).heap.size
noncomputable def laidWorld (os : Os) : World :=
  { World.holding Tryz.prog os ⟨#[.cells #[.string ⟨#[118, 97, 108, 117, 101, 32, 111, 117, 116, 32, 111, 102, 32, 114, 97, 110, 103, 101]⟩] 237, .cells #[.string ⟨#[105, 110, 118, 97, 108, 105, 100, 32, 115, 121, 110, 116, 97, 120]⟩] 237], #[], []⟩ with heap := ((((((((World.holding Tryz.prog os ⟨#[.cells #[.string ⟨#[118, 97, 108, 117, 101, 32, 111, 117, 116, 32, 111, 102, 32, 114, 97, 110, 103, 101]⟩] 237, .cells #[.string ⟨#[105, 110, 118, 97, 108, 105, 100, 32, 115, 121, 110, 116, 97, 120]⟩] 237], #[], []⟩).heap.modify 6 fun
      | .cells _ t frozen => .cells #[.int .u8 0, .int .u8 1, .int .u8 28, .int .u8 2, .int .u8 29, .int .u8 14, .int .u8 24, .int .u8 3, .int .u8 30, .int .u8 22, .int .u8 20, .int .u8 15, .int .u8 25, .int .u8 17, .int .u8 4, .int .u8 8, .int .u8 31, .int .u8 27, .int .u8 13, .int .u8 23, .int .u8 21, .int .u8 19, .int .u8 16, .int .u8 7, .int .u8 26, .int .u8 12, .int .u8 18, .int .u8 6, .int .u8 11, .int .u8 5, .int .u8 10, .int .u8 9] t frozen
      | o => o).modify 7 fun
      | .cells _ t frozen => .cells #[.int .u8 0, .int .u8 1, .int .u8 56, .int .u8 2, .int .u8 57, .int .u8 49, .int .u8 28, .int .u8 3, .int .u8 61, .int .u8 58, .int .u8 42, .int .u8 50, .int .u8 38, .int .u8 29, .int .u8 17, .int .u8 4, .int .u8 62, .int .u8 47, .int .u8 59, .int .u8 36, .int .u8 45, .int .u8 43, .int .u8 51, .int .u8 22, .int .u8 53, .int .u8 39, .int .u8 33, .int .u8 30, .int .u8 24, .int .u8 18, .int .u8 12, .int .u8 5, .int .u8 63, .int .u8 55, .int .u8 48, .int .u8 27, .int .u8 60, .int .u8 41, .int .u8 37, .int .u8 16, .int .u8 46, .int .u8 35, .int .u8 44, .int .u8 21, .int .u8 52, .int .u8 32, .int .u8 23, .int .u8 11, .int .u8 54, .int .u8 26, .int .u8 40, .int .u8 15, .int .u8 34, .int .u8 20, .int .u8 31, .int .u8 10, .int .u8 25, .int .u8 14, .int .u8 19, .int .u8 9, .int .u8 13, .int .u8 8, .int .u8 7, .int .u8 6] t frozen
      | o => o).modify 1 fun
      | .cells _ t frozen => .cells #[.int .u64 1, .int .u64 10, .int .u64 100, .int .u64 1000, .int .u64 10000, .int .u64 100000, .int .u64 1000000, .int .u64 10000000, .int .u64 100000000, .int .u64 1000000000, .int .u64 10000000000, .int .u64 100000000000, .int .u64 1000000000000, .int .u64 10000000000000, .int .u64 100000000000000, .int .u64 1000000000000000, .int .u64 10000000000000000, .int .u64 100000000000000000, .int .u64 1000000000000000000, .int .u64 10000000000000000000] t frozen
      | o => o).modify 3 fun
      | .cells _ t frozen => .cells #[.int .u8 128, .int .u8 191, .int .u8 160, .int .u8 191, .int .u8 128, .int .u8 159, .int .u8 144, .int .u8 191, .int .u8 128, .int .u8 143, .int .u8 0, .int .u8 0, .int .u8 0, .int .u8 0, .int .u8 0, .int .u8 0, .int .u8 0, .int .u8 0, .int .u8 0, .int .u8 0, .int .u8 0, .int .u8 0, .int .u8 0, .int .u8 0, .int .u8 0, .int .u8 0, .int .u8 0, .int .u8 0, .int .u8 0, .int .u8 0, .int .u8 0, .int .u8 0] t frozen
      | o => o).modify 5 fun
      | .cells _ t frozen => .cells #[.iface 235 (.pointer (some ⟨low + 0, 0, none⟩))] t frozen
      | o => o).modify 4 fun
      | .cells _ t frozen => .cells #[.iface 235 (.pointer (some ⟨low + 1, 0, none⟩))] t frozen
      | o => o).modify 2 fun
      | .cells _ t frozen => .cells ((Go.Pinned.utf8FirstZ.map fun (n : Nat) => Value.int .u8 (n : Int)).toArray) t frozen
      | o => o) }
set_option maxRecDepth 100000 in
theorem laid_met (os : Os) : laidMet Tryz.prog Rows.fnExactPickItemRow.laid ((laidWorld os).forCall (fun _ _ => 0) ⟨#[], #[.slice none 0 0, .string ByteArray.empty, .agg #[.string ByteArray.empty, .string ByteArray.empty, .slice none 0 0, .string ByteArray.empty]], []⟩).memory :=
  laidMet_of_run' 8 (by kernel_rfl) (by kernel_rfl)
theorem reads (os : Os) {H : Type} (enc : TypeId × Value → H) : ∃ places, DataW.whole enc Tryz.prog ((laidWorld os).forCall (fun _ _ => 0) ⟨#[], #[.slice none 0 0, .string ByteArray.empty, .agg #[.string ByteArray.empty, .string ByteArray.empty, .slice none 0 0, .string ByteArray.empty]], []⟩).memory Tryz.f4.params.toList Rows.fnExactPickItemSpec.vars false #[Value.slice none 0 0, .string ByteArray.empty, .agg #[.string ByteArray.empty, .string ByteArray.empty, .slice none 0 0, .string ByteArray.empty]].toList 8 = some ([.nil, .lit (.string []), .agg [.lit (.string []), .lit (.string []), .nil, .lit (.string [])]], [], places) :=
  ⟨[], by kernel_rfl⟩
set_option maxRecDepth 100000 in
theorem lifted (os : Os) (started : os.Started) (H : Type) (enc : TypeId × Value → H) (F : Stop.Interp) :
    ReturnsInHanded {} Tryz.checked os 4 .any ((OpenSpec.ofChange Rows.fnExactPickItemSpec).preRow enc Tryz.prog Tryz.f4 Rows.fnExactPickItemRow.domain false Rows.fnExactPickItemRow.laid) (((OpenSpec.ofChange Rows.fnExactPickItemSpec).at F).post enc Tryz.prog Tryz.f4 false true false false) := by
  obtain ⟨places, hx⟩ := reads os enc
  refine returnsInHanded_of_row (C := Tryz.checked) (s := OpenSpec.ofChange Rows.fnExactPickItemSpec) own started (by kernel_rfl) Tryz.func4
    (witness_row_at (enc := enc) (C := Tryz.checked) false (laidWorld os) #[.slice none 0 0, .string ByteArray.empty, .agg #[.string ByteArray.empty, .string ByteArray.empty, .slice none 0 0, .string ByteArray.empty]] rfl (by kernel_rfl) (by kernel_rfl) (by kernel_rfl)
      (OpenSpec.preRow_of_cond 8 hx (by kernel_rfl) (fun k hk => by cases hk) (by kernel_rfl) (laid_met os))) ?_
  intro W base args ds gs before hval hW _ _ hsz hL hS _
  exact contract H enc W base args ds gs before hval hW hsz hL hS
theorem over : Rows.fnExactPickItemRow.holds Tryz.pinned (OpenSpec.ofChange Rows.fnExactPickItemSpec) :=
  OpenClaim.holds_of_cond 4 Tryz.f4 rfl rfl rfl rfl rfl rfl rfl ⟨rfl, rfl, rfl, rfl, rfl⟩ rfl rfl rfl rfl rfl (by kernel_rfl) Tryz.func4 (by kernel_rfl)
    (of_decide_eq_true (by kernel_rfl)) (by unfold Func.isWrapper; first | (rw [if_pos (by decide +kernel)]; kernel_rfl) | (rw [if_neg (by decide +kernel)]; exact ⟨rfl, rfl⟩))
    (fun os started H enc _ F => by rw [OpenClaim.pre_eq_preRow]; exact lifted os started H enc F)
set_option maxRecDepth 100000 in
/-- No parameter wants a stand-in; the program's own looks are off. -/
theorem plain (f : FuncId) (fn : Func) (hf : Tryz.pinned.checked.prog.funcNamed "loop.example/g00256/laws.FnExactPickItem" = some f) (hfn : Tryz.pinned.checked.prog.funcs[f]? = some fn) :
    true = Tryz.pinned.checked.prog.looks [] ∧ ∀ (j : Nat) t, fn.params[j]? = some t → Tryz.pinned.checked.prog.wantsStandIn t = false := by
  obtain rfl : f = 4 := Option.some.inj ((show Tryz.prog.funcNamed "loop.example/g00256/laws.FnExactPickItem" = some 4 by kernel_rfl).symm.trans hf) |>.symm
  obtain rfl : fn = Tryz.f4 := (Option.some.inj (Tryz.func4.symm.trans hfn)).symm
  refine ⟨by kernel_rfl, fun j t ht => ?_⟩
  rw [Tryz.params4] at ht
  have hm := Array.mem_of_getElem? ht
  simp only [List.mem_toArray, List.mem_cons, List.not_mem_nil, or_false] at hm
  rcases hm with rfl | rfl | rfl
  all_goals first | exact (show Tryz.prog.wantsStandIn 39 = false by kernel_rfl) | exact (show Tryz.prog.wantsStandIn 9 = false by kernel_rfl) | exact (show Tryz.prog.wantsStandIn 26 = false by kernel_rfl)
theorem proved : Rows.FnExactPickItemSaid := over
#print axioms proved
end Go.Proofs.YtpggepjfhgalkaaGreatDoor.fnExactPickItem
namespace Go.Proofs.YtpggepjfhgalkaaGreatDoor
/-- THE CARD. -/
theorem fnExactPickItem_holds : Rows.FnExactPickItemCardSaid :=
  Claim7.holds_tied_plain_at .later [] _ _ _ _ fnExactPickItem.over (fun _ h => by cases h) (by kernel_rfl) (fun _ h => by cases h) fnExactPickItem_row_tie rfl ⟨rfl, rfl⟩ (by kernel_rfl) rfl fnExactPickItem.plain (by kernel_rfl)
end Go.Proofs.YtpggepjfhgalkaaGreatDoor
