-- Written by a program of this project (xprint.py) out of the translation; Lean checks it.
import Derived.Test.YtpggepjfhgalkaaGreatDoorRows
import Derived.Test.YtpggepjfhgalkaaGreatDoorPFnExactKeyOfx27
import Derived.Test.YtpggepjfhgalkaaGreatDoorPureFnExactKeyOf
import Derived.Test.YtpggepjfhgalkaaGreatDoorCards
import Derived.Test.YtpggepjfhgalkaaGreatDoorTie
import Derived.Deep.DeepHandedRow
import Derived.Lib.LaidTab
import Derived.Stop.LaidErr
import Derived.MakeChecks
import Derived.Shelf.Vars
import Derived.WalkKit
import Derived.ProofKit
import Derived.OpenShut
import Derived.ShutString
import Derived.ChangeOld
import Derived.Below
import Derived.SizedLaws
import Derived.Lib.SmallJoins
import Derived.Test.YtpggepjfhgalkaaGreatDoorVFnExactKeyOf1
import Derived.Deep.SlicePairs
namespace Go.Proofs.YtpggepjfhgalkaaGreatDoor.PFnExactKeyOf
open Go.RowKit Go.ChangeShapes Go.WideShapes
theorem arr6 {α : Type} {cs : Array α} (h : cs.size = 6) : ∃ c0 c1 c2 c3 c4 c5, cs = #[c0, c1, c2, c3, c4, c5] := by
  obtain ⟨l⟩ := cs
  match l, h with
  | [c0, c1, c2, c3, c4, c5], _ => exact ⟨c0, c1, c2, c3, c4, c5, rfl⟩
theorem open_any {H : Type} {enc : TypeId × Value → H} {P : Program} {w : World} {base : Nat} {spare : Nat → Bool} {held : Bool} {r : Reach} {b0 : Nat} {t : TypeId} {fs : Array Field} {v : Value} {d : DataW H} {p : List MemPlace} (hs : P.underlying t = some (.struct fs)) (hv : Value.okWide P w r b0 t v) (h : DataW.Trod enc P w base spare held t v d p) :
    ∃ cs : Array Value, v = .agg cs ∧ cs.size = P.cellsOf t ∧ ∃ n x, DataW.trod enc P w base spare held n t cs.toList = some x := by
  obtain ⟨cs, rfl, hz⟩ := okWide_struct hs hv
  obtain ⟨n, hf⟩ := h
  exact ⟨cs, rfl, hz, n, _, hf⟩
theorem open_field {H : Type} {enc : TypeId × Value → H} {P : Program} {w : World} {base : Nat} {spare : Nat → Bool} {held : Bool} {t : TypeId} {fs : Array Field} {fuel : Nat} {cs : List Value} {x : DataW H × List MemPlace} (hs : P.underlying t = some (.struct fs)) (h : DataW.trod enc P w base spare held fuel t cs = some x) (i : Nat) (f : Field) (o c : Nat) (hf : fs[i]? = some f) (ho : f.offset = o) (hc : P.cellsOf f.type = c) :
    ∃ n y, DataW.trod enc P w base spare held n f.type ((cs.drop o).take c) = some y := by
  obtain ⟨xs, n, _, _, _, hl, hx⟩ := DataW.trod_struct hs h
  have hi : i < xs.length := by
    have z := (Array.getElem?_eq_some_iff.mp hf).1
    omega
  refine ⟨n, xs[i], ?_⟩
  subst ho hc
  rw [hx i f hf]
  exact List.getElem?_eq_getElem hi
end Go.Proofs.YtpggepjfhgalkaaGreatDoor.PFnExactKeyOf
namespace Go.Proofs.YtpggepjfhgalkaaGreatDoor.PFnExactKeyOf
open Go.RowKit Go.ChangeShapes Go.WideShapes Go.Proofs.YtpggepjfhgalkaaGreatDoorW.PrintWords Go.Proofs.YtpggepjfhgalkaaGreatDoorW.PrintLast Go.Proofs.YtpggepjfhgalkaaGreatDoorW.PrintMore
theorem open_pairs_of {H : Type} {enc : TypeId × Value → H} {P : Program} {w : World} {base : Nat} {spare : Nat → Bool} {held : Bool} {t e : TypeId} {f0 f1 : Field} {fuel : Nat} {cs : List Value} {x : DataW H × List MemPlace} {β0 β1 : Type} [Inhabited β0] [Inhabited β1]
    (enc0 : β0 → Value) (enc1 : β1 → Value) (ok0 : β0 → Prop) (ok1 : β1 → Prop)
    (h0 : ∀ n V x, DataW.trod enc P w base spare held n f0.type [V] = some x → ∃ b, V = enc0 b ∧ ok0 b) (h1 : ∀ n V x, DataW.trod enc P w base spare held n f1.type [V] = some x → ∃ b, V = enc1 b ∧ ok1 b)
    (ht : P.underlying t = some (.slice e)) (he : P.underlying e = some (.struct #[f0, f1])) (ce : P.cellsOf e = 2) (o0 : f0.offset = 0) (o1 : f1.offset = 1) (c0 : P.cellsOf f0.type = 1) (c1 : P.cellsOf f1.type = 1)
    (h : DataW.trod enc P w base spare held fuel t cs = some x) :
    ∃ (A : Option Addr) (c : Nat) (l : List (β0 × β1)), cs = [.slice A l.length c] ∧ l.length ≤ c ∧ l.length ≤ maxLen ∧ (∀ x ∈ l, ok0 x.1 ∧ ok1 x.2) ∧
      (0 < l.length → ∃ ad, A = some ad ∧ ∀ j p, l[j]? = some p → w.cell? (ad.add (j * 2)) = some (enc0 p.1) ∧ w.cell? (ad.add (j * 2 + 1)) = some (enc1 p.2)) := by
  rcases Go.Deep.open_slice_pairs ht he ce o0 o1 c0 c1 h with ⟨rfl, _⟩ | ⟨a, len, cap, m, n, V0, V1, D0, D1, P0, P1, rfl, _, hl, hm, hmm, _, hx⟩
  · exact ⟨none, 0, [], rfl, Nat.le_refl _, Nat.zero_le _, fun x hx => by simp at hx, fun hn => by simp at hn⟩
  · have hlm : len ≤ m := by rw [hmm]; split <;> omega
    obtain ⟨f, hf⟩ := Go.Deep.choose_lt (α := β0 × β1) (n := len) (p := fun i b => V0 i = enc0 b.1 ∧ V1 i = enc1 b.2 ∧ ok0 b.1 ∧ ok1 b.2) (fun i hi => by
      obtain ⟨_, _, g0, g1⟩ := hx i (by omega)
      obtain ⟨b0, e0, k0⟩ := h0 _ _ _ g0
      obtain ⟨b1, e1, k1⟩ := h1 _ _ _ g1
      exact ⟨(b0, b1), e0, e1, k0, k1⟩)
    refine ⟨some a, cap, (List.range len).map f, by simp, by simpa using hl, by simp; omega, fun x hx' => ?_, fun _ => ⟨a, rfl, fun j p hj => ?_⟩⟩
    · obtain ⟨i, hi, rfl⟩ := List.mem_map.mp hx'
      exact (hf i (List.mem_range.mp hi)).2.2
    · have hj2 : j < len := by
        have z := (List.getElem?_eq_some_iff.mp hj).1
        simpa using z
      obtain ⟨g0, g1, _, _⟩ := hx j (by omega)
      obtain ⟨e0, e1, _, _⟩ := hf j hj2
      obtain rfl : f j = p := by simpa [List.getElem?_map, List.getElem?_range hj2] using hj
      rw [e0] at g0
      rw [e1] at g1
      exact ⟨g0, g1⟩
theorem open_T97_24 {H : Type} {enc : TypeId × Value → H} {W : World} {base : Nat} {spare : Nat → Bool} {held : Bool} {fuel : Nat} {cs : List Value} {x : DataW H × List MemPlace} (h : DataW.trod enc Tryz.prog W base spare held fuel 24 cs = some x) :
    ∃ (A : Option Addr) (c : Nat) (l : List S97), cs = [.slice A l.length c] ∧ l.length ≤ c ∧ l.length ≤ maxLen ∧ (∀ x ∈ l, x.f0.size ≤ maxLen ∧ x.f1.size ≤ maxLen) ∧ Kd.C k97 W A l.length l := by
  obtain ⟨A, c, l, e1, e2, e3, e4, e5⟩ := open_pairs_of (fun x => .string x) (fun x => .string x) (fun x => x.size ≤ maxLen) (fun x => x.size ≤ maxLen) (fun n V x hx => by obtain ⟨b, e, _, w⟩ := DataW.trod_string Tryz.underlying9 hx; exact ⟨b, (List.cons.inj e).1, w⟩) (fun n V x hx => by obtain ⟨b, e, _, w⟩ := DataW.trod_string Tryz.underlying9 hx; exact ⟨b, (List.cons.inj e).1, w⟩) Tryz.underlying24 Tryz.underlying97 (by kernel_rfl) rfl rfl (by kernel_rfl) (by kernel_rfl) h
  refine ⟨A, c, l.map (fun p => (⟨p.1, p.2⟩ : S97)), by rw [List.length_map]; exact e1, by rw [List.length_map]; exact e2, by rw [List.length_map]; exact e3, fun x hx => ?_, rfl, by rw [List.length_map]; exact Nat.le_trans e3 (by decide), fun hn => ?_⟩
  · obtain ⟨p, hp, rfl⟩ := List.mem_map.mp hx
    exact e4 p hp
  · rw [List.length_map] at hn
    obtain ⟨ad, e, hc⟩ := e5 hn
    refine ⟨ad, e, fun j p hj => ?_⟩
    obtain ⟨q, hq, rfl⟩ : ∃ q, l[j]? = some q ∧ (⟨q.1, q.2⟩ : S97) = p := by simpa [List.getElem?_map] using hj
    obtain ⟨g0, g1⟩ := hc j q hq
    refine ⟨_, rfl, k97_mk W _, fun i u hu => ?_⟩
    match i, hu with
    | 0, hu => cases hu; exact g0
    | 1, hu => cases hu; exact g1
    | i + 2, hu => simp at hu
end Go.Proofs.YtpggepjfhgalkaaGreatDoor.PFnExactKeyOf
namespace Go.Proofs.YtpggepjfhgalkaaGreatDoor.fnExactKeyOf
open Go.ChangeShapes Go.WideShapes Go.ChangeAt Go.RowKit
open Go.ChangeMaps (open_string shut_string)
set_option linter.unusedVariables false
theorem own : ownKnob Tryz.prog.godebug = none := by kernel_rfl
theorem laidOut : laidOutB Tryz.prog = true := by kernel_rfl
def IsRow (k : IntKind) (w : World) (a : Option Addr) (len cap : Nat) (zs : List Int) : Prop :=
  (a = none ∧ len = 0 ∧ cap = 0 ∧ zs = []) ∨
  ∃ x, a = some x ∧ len ≤ cap ∧ cap ≤ maxLen ∧ zs.length = cap ∧ (∀ i, i < zs.length → w.cell? (x.add i) = some (.int k (zs.getD i 0))) ∧ ∀ n ∈ zs, (Lit.int k n).wf = true
set_option maxRecDepth 100000 in
theorem contract (H : Type) (enc : TypeId × Value → H) (W : World) (base : Nat) (args : Array Value) (ds gs : List (DataW H)) (before : List MemPlace)
    (hval0 : ∀ (j : Nat) t v, Tryz.f3.params[j]? = some t → args[j]? = some v → Value.okWide Tryz.prog W .any base t v)
    (hW : DataW.Whole enc Tryz.prog Tryz.f3.params.toList Rows.fnExactKeyOfSpec.vars false W args.toList ds gs before)
    (hsz0 : (DataW.weightsEach Tryz.prog (Tryz.f3.params.toList ++ Rows.fnExactKeyOfSpec.plain.varTypes Tryz.prog) (ds ++ gs)).all (· ≤ reachBytes) = true) (hL : laidMetH Tryz.prog Rows.fnExactKeyOfRow.laid W) (hS : W.ShapedOpen Tryz.prog) :
    Calls Tryz.prog 3 args W fun e W' => ∃ v, e = .returned v ∧ Rows.fnExactKeyOfSpec.post enc Tryz.prog Tryz.f3 false true false false W args v W' := by
  have hsz : (DataW.weightsEach Tryz.prog (Tryz.f3.params.toList ++ Rows.fnExactKeyOfSpec.plain.varTypes Tryz.prog) (ds ++ gs)).all (· ≤ reachBytes) = true := hsz0
  have hval : ∀ (j : Nat) t v, Tryz.f3.params[j]? = some t → args[j]? = some v → Value.okWide Tryz.prog W .any base t v := hval0
  have hW' := hW
  obtain ⟨p, q, hA0, hV, rfl, hfz, hnd⟩ := hW
  have hA : DataW.TrodAll enc Tryz.prog W 0 (fun _ => true) true Tryz.f3.params.toList args.toList ds p := hA0
  rw [Tryz.params3] at hA hval hsz
  obtain ⟨v0, vs0, d0, ds0, p0, q0, hargs, rfl, rfl, h0, r0⟩ := trodAll_cons hA
  obtain ⟨v1, vs1, d1, ds1, p1, q1, rfl, rfl, rfl, h1, r1⟩ := trodAll_cons r0
  obtain ⟨rfl, rfl, rfl⟩ := trodAll_nil r1
  obtain rfl : args = #[v0, v1] := by cases args; simp_all
  obtain ⟨rfl, rfl⟩ := trodVars_none hV
  have k0 := h0
  have lt0 : ∀ x ∈ p0, x.block < W.heap.size := by obtain ⟨m, hm⟩ := k0; exact DataW.trod_lt m _ _ _ hm
  obtain ⟨cs0, rfl, hz0, fu0, x0, hf0⟩ := PFnExactKeyOf.open_any Tryz.underlying23 (hval 0 23 v0 rfl rfl) h0
  obtain ⟨u0_0, u0_1, u0_2, u0_3, u0_4, u0_5, rfl⟩ := PFnExactKeyOf.arr6 (hz0.trans (by kernel_rfl))
  replace hf0 : DataW.trod enc Tryz.prog W 0 (fun _ => true) true fu0 23 [u0_0, u0_1, u0_2, u0_3, u0_4, u0_5] = some x0 := hf0
  obtain ⟨nq0_0, yq0_0, tq0_0⟩ := PFnExactKeyOf.open_field Tryz.underlying23 hf0 0 _ 0 1 rfl rfl (by kernel_rfl)
  replace tq0_0 : DataW.trod enc Tryz.prog W 0 (fun _ => true) true nq0_0 9 [u0_0] = some yq0_0 := tq0_0
  have t0_0 := tq0_0
  obtain ⟨nq0_1, yq0_1, tq0_1⟩ := PFnExactKeyOf.open_field Tryz.underlying23 hf0 1 _ 1 1 rfl rfl (by kernel_rfl)
  replace tq0_1 : DataW.trod enc Tryz.prog W 0 (fun _ => true) true nq0_1 9 [u0_1] = some yq0_1 := tq0_1
  have t0_1 := tq0_1
  obtain ⟨nq0_2, yq0_2, tq0_2⟩ := PFnExactKeyOf.open_field Tryz.underlying23 hf0 2 _ 2 1 rfl rfl (by kernel_rfl)
  replace tq0_2 : DataW.trod enc Tryz.prog W 0 (fun _ => true) true nq0_2 3 [u0_2] = some yq0_2 := tq0_2
  have t0_2 := tq0_2
  obtain ⟨nq0_3, yq0_3, tq0_3⟩ := PFnExactKeyOf.open_field Tryz.underlying23 hf0 3 _ 3 1 rfl rfl (by kernel_rfl)
  replace tq0_3 : DataW.trod enc Tryz.prog W 0 (fun _ => true) true nq0_3 9 [u0_3] = some yq0_3 := tq0_3
  have t0_3 := tq0_3
  obtain ⟨nq0_4, yq0_4, tq0_4⟩ := PFnExactKeyOf.open_field Tryz.underlying23 hf0 4 _ 4 1 rfl rfl (by kernel_rfl)
  replace tq0_4 : DataW.trod enc Tryz.prog W 0 (fun _ => true) true nq0_4 9 [u0_4] = some yq0_4 := tq0_4
  have t0_4 := tq0_4
  obtain ⟨nq0_5, yq0_5, tq0_5⟩ := PFnExactKeyOf.open_field Tryz.underlying23 hf0 5 _ 5 1 rfl rfl (by kernel_rfl)
  replace tq0_5 : DataW.trod enc Tryz.prog W 0 (fun _ => true) true nq0_5 4 [u0_5] = some yq0_5 := tq0_5
  have t0_5 := tq0_5
  obtain ⟨a0_0, e0_0, _, w0_0⟩ := DataW.trod_string Tryz.underlying9 t0_0
  obtain rfl := (List.cons.inj e0_0).1
  obtain ⟨a0_1, e0_1, _, w0_1⟩ := DataW.trod_string Tryz.underlying9 t0_1
  obtain rfl := (List.cons.inj e0_1).1
  obtain ⟨a0_2, e0_2, _, w0_2⟩ := DataW.trod_int Tryz.underlying3 t0_2
  obtain rfl := (List.cons.inj e0_2).1
  obtain ⟨a0_3, e0_3, _, w0_3⟩ := DataW.trod_string Tryz.underlying9 t0_3
  obtain rfl := (List.cons.inj e0_3).1
  obtain ⟨a0_4, e0_4, _, w0_4⟩ := DataW.trod_string Tryz.underlying9 t0_4
  obtain rfl := (List.cons.inj e0_4).1
  obtain ⟨a0_5, e0_5, _⟩ := DataW.trod_bool Tryz.underlying4 t0_5
  obtain rfl := (List.cons.inj e0_5).1
  have k1 := h1
  have lt1 : ∀ x ∈ p1, x.block < W.heap.size := by obtain ⟨m, hm⟩ := k1; exact DataW.trod_lt m _ _ _ hm
  obtain ⟨u1_0, u1_1, u1_2, u1_3, y1_0, y1_1, y1_2, y1_3, n1, rfl, hd1, hp1, t1_0, t1_1, t1_2, t1_3⟩ := Go.Joins.open_agg4 Tryz.underlying26 (by kernel_rfl) (by kernel_rfl) (hval 1 26 v1 rfl rfl) h1
  obtain ⟨a1_0, e1_0, _, w1_0⟩ := DataW.trod_string Tryz.underlying9 t1_0
  obtain rfl := (List.cons.inj e1_0).1
  obtain ⟨a1_1, e1_1, _, w1_1⟩ := DataW.trod_string Tryz.underlying9 t1_1
  obtain rfl := (List.cons.inj e1_1).1
  obtain ⟨A1_2, c1_2, l1_2, ec1_2, wc1_2, wm1_2, ww1_2, wr1_2⟩ := PFnExactKeyOf.open_T97_24 t1_2
  obtain rfl := (List.cons.inj ec1_2).1
  obtain ⟨a1_3, e1_3, _, w1_3⟩ := DataW.trod_string Tryz.underlying9 t1_3
  obtain rfl := (List.cons.inj e1_3).1
  clear hA0 hval0 hsz0 hsz
  have hT : PFnExactKeyOf.TabOk W := by
    have u0 : laidMet Tryz.prog Rows.fnExactKeyOfRow.laid W := (MakeChecks.laidMetH_plain Tryz.prog Rows.fnExactKeyOfRow.laid W (by kernel_rfl)) ▸ hL
    have u1 := laidMet.tail u0
    have u2 := laidMet.tail u1
    have u3 := laidMet.tail u2
    have u4 := laidMet.tail u3
    have u5 := laidMet.tail u4
    have tt := Lib.tabIs_of_head (P := Tryz.prog) (W := W) (name := "internal/strconv.uint64pow10") (k := .u64) (zs := [1, 10, 100, 1000, 10000, 100000, 1000000, 10000000, 100000000, 1000000000, 10000000000, 100000000000, 1000000000000, 10000000000000, 100000000000000, 1000000000000000, 10000000000000000, 100000000000000000, 1000000000000000000, 10000000000000000000]) (g := 1) (t := 221) (e := 184) (n := 20) (by kernel_rfl) (by kernel_rfl) (by kernel_rfl) (by kernel_rfl) (by kernel_rfl) (by kernel_rfl) u2
    have star_ : "*" ++ "errors.errorString" = "*errors.errorString" := by decide
    have row_ : ∀ u, Tryz.prog.typeName? 3 u = some "*errors.errorString" → u = 235 := fun u h => typeName_ptr_named (nm := "errors.errorString") (by rw [star_]; kernel_rfl) (by kernel_rfl) (by decide) u (by rw [star_]; exact h)
    obtain ⟨a4, s4, v4, _, _, _⟩ := laid_sentinel u5 (g := 4) (by kernel_rfl) (by kernel_rfl) Tryz.underlying147 row_ Tryz.underlying235 Tryz.underlying237 rfl rfl Tryz.underlying9 (by kernel_rfl) (by kernel_rfl)
    have o4 : PFnExactKeyOf.IfOk W 4 := ⟨_, World.var?_cell (by kernel_rfl) v4 0, .inr ⟨_, _, rfl⟩⟩
    obtain ⟨a5, s5, v5, _, _, _⟩ := laid_sentinel u4 (g := 5) (by kernel_rfl) (by kernel_rfl) Tryz.underlying147 row_ Tryz.underlying235 Tryz.underlying237 rfl rfl Tryz.underlying9 (by kernel_rfl) (by kernel_rfl)
    have o5 : PFnExactKeyOf.IfOk W 5 := ⟨_, World.var?_cell (by kernel_rfl) v5 0, .inr ⟨_, _, rfl⟩⟩
    exact ⟨cell_of_shapedOpen_int (P := Tryz.prog) (g := 0) (t := 3) (zero := #[.int .i64 0]) hS (of_decide_eq_true (by kernel_rfl)) (by kernel_rfl) rfl (by kernel_rfl) (by kernel_rfl) Tryz.underlying3, (show [1, 10, 100, 1000, 10000, 100000, 1000000, 10000000, 100000000, 1000000000, 10000000000, 100000000000, 1000000000000, 10000000000000, 100000000000000, 1000000000000000, 10000000000000000, 100000000000000000, 1000000000000000000, 10000000000000000000] = Lib.pow10Tab from by decide) ▸ tt, o4, o5⟩
  refine (PFnExactKeyOf.laws_FnExactKeyOf.walk Pure.FnExactKeyOf a0_0 a0_1 a0_2 a0_3 a0_4 a0_5 a1_0 a1_1 _ _ l1_2 a1_3 W w0_0 w0_1 w0_2 w0_3 w0_4 w1_0 w1_1 wr1_2 wc1_2 wm1_2 ww1_2 w1_3 hT).mono fun e W' ⟨he, bel⟩ => ?_
  subst he
  exact ⟨_, rfl, _, _, _, [], _, [], hW', trodAll_mk1 (shut_bool Tryz.underlying4 _), (trodAll_cons_mk (Below.trod laidOut (by kernel_rfl) (of_decide_eq_true (by kernel_rfl)) k0 bel lt0) (trodAll_cons_mk (Below.trod laidOut (by kernel_rfl) (of_decide_eq_true (by kernel_rfl)) k1 bel lt1) trodAll_mk0)), rfl, bel.frame _, fun h => by cases h⟩
noncomputable def low : Nat := (World.holding Tryz.prog default ⟨#[], #[], []⟩).heap.size
noncomputable def laidWorld (os : Os) : World :=
  { World.holding Tryz.prog os ⟨#[.cells #[.string ⟨#[118, 97, 108, 117, 101, 32, 111, 117, 116, 32, 111, 102, 32, 114, 97, 110, 103, 101]⟩] 237, .cells #[.string ⟨#[105, 110, 118, 97, 108, 105, 100, 32, 115, 121, 110, 116, 97, 120]⟩] 237], #[], []⟩ with heap := ((((((((World.holding Tryz.prog os ⟨#[.cells #[.string ⟨#[118, 97, 108, 117, 101, 32, 111, 117, 116, 32, 111, 102, 32, 114, 97, 110, 103, 101]⟩] 237, .cells #[.string ⟨#[105, 110, 118, 97, 108, 105, 100, 32, 115, 121, 110, 116, 97, 120]⟩] 237], #[], []⟩).heap.modify 6 fun
      | .cells _ t frozen => .cells #[.int .u8 0, .int .u8 1, .int .u8 28, .int .u8 2, .int .u8 29, .int .u8 14, .int .u8 24, .int .u8 3, .int .u8 30, .int .u8 22, .int .u8 20, .int .u8 15, .int .u8 25, .int .u8 17, .int .u8 4, .int .u8 8, .int .u8 31, .int .u8 27, .int .u8 13, .int .u8 23, .int .u8 21, .int .u8 19, .int .u8 16, .int .u8 7, .int .u8 26, .int .u8 12, .int .u8 18, .int .u8 6, .int .u8 11, .int .u8 5, .int .u8 10, .int .u8 9] t frozen
      | o => o).modify 7 fun
      | .cells _ t frozen => .cells #[.int .u8 0, .int .u8 1, .int .u8 56, .int .u8 2, .int .u8 57, .int .u8 49, .int .u8 28, .int .u8 3, .int .u8 61, .int .u8 58, .int .u8 42, .int .u8 50, .int .u8 38, .int .u8 29, .int .u8 17, .int .u8 4, .int .u8 62, .int .u8 47, .int .u8 59, .int .u8 36, .int .u8 45, .int .u8 43, .int .u8 51, .int .u8 22, .int .u8 53, .int .u8 39, .int .u8 33, .int .u8 30, .int .u8 24, .int .u8 18, .int .u8 12, .int .u8 5, .int .u8 63, .int .u8 55, .int .u8 48, .int .u8 27, .int .u8 60, .int .u8 41, .int .u8 37, .int .u8 16, .int .u8 46, .int .u8 35, .int .u8 44, .int .u8 21, .int .u8 52, .int .u8 32, .int .u8 23, .int .u8 11, .int .u8 54, .int .u8 26, .int .u8 40, .int .u8 15, .int .u8 34, .int .u8 20, .int .u8 31, .int .u8 10, .int .u8 25, .int .u8 14, .int .u8 19, .int .u8 9, .int .u8 13, .int .u8 8, .int .u8 7, .int .u8 6] t frozen
      | o => o).modify 1 fun
      | .cells _ t frozen => .cells #[.int .u64 1, .int .u64 10, .int .u64 100, .int .u64 1000, .int .u64 10000, .int .u64 100000, .int .u64 1000000, .int .u64 10000000, .int .u64 100000000, .int .u64 1000000000, .int .u64 10000000000, .int .u64 100000000000, .int .u64 1000000000000, .int .u64 10000000000000, .int .u64 100000000000000, .int .u64 1000000000000000, .int .u64 10000000000000000, .int .u64 100000000000000000, .int .u64 1000000000000000000, .int .u64 10000000000000000000] t frozen
      | o => o).modify 3 fun
      | .cells _ t frozen => .cells #[.int .u8 128, .int .u8 191, .int .u8 160, .int .u8 191, .int .u8 128, .int .u8 159, .int .u8 144, .int .u8 191, .int .u8 128, .int .u8 143, .int .u8 0, .int .u8 0, .int .u8 0, .int .u8 0, .int .u8 0, .int .u8 0, .int .u8 0, .int .u8 0, .int .u8 0, .int .u8 0, .int .u8 0, .int .u8 0, .int .u8 0, .int .u8 0, .int .u8 0, .int .u8 0, .int .u8 0, .int .u8 0, .int .u8 0, .int .u8 0, .int .u8 0, .int .u8 0] t frozen
      | o => o).modify 5 fun
      | .cells _ t frozen => .cells #[.iface 235 (.pointer (some ⟨low + 0, 0, none⟩))] t frozen
      | o => o).modify 4 fun
      | .cells _ t frozen => .cells #[.iface 235 (.pointer (some ⟨low + 1, 0, none⟩))] t frozen
      | o => o).modify 2 fun
      | .cells _ t frozen => .cells ((Go.Pinned.utf8FirstZ.map fun (n : Nat) => Value.int .u8 (n : Int)).toArray) t frozen
      | o => o) }
set_option maxRecDepth 100000 in
theorem laid_met (os : Os) : laidMet Tryz.prog Rows.fnExactKeyOfRow.laid ((laidWorld os).forCall (fun _ _ => 0) ⟨#[], #[.agg #[.string ByteArray.empty, .string ByteArray.empty, .int .i64 0, .string ByteArray.empty, .string ByteArray.empty, .bool false], .agg #[.string ByteArray.empty, .string ByteArray.empty, .slice none 0 0, .string ByteArray.empty]], []⟩).memory :=
  laidMet_of_run' 8 (by kernel_rfl) (by kernel_rfl)
theorem reads (os : Os) {H : Type} (enc : TypeId × Value → H) : ∃ places, DataW.whole enc Tryz.prog ((laidWorld os).forCall (fun _ _ => 0) ⟨#[], #[.agg #[.string ByteArray.empty, .string ByteArray.empty, .int .i64 0, .string ByteArray.empty, .string ByteArray.empty, .bool false], .agg #[.string ByteArray.empty, .string ByteArray.empty, .slice none 0 0, .string ByteArray.empty]], []⟩).memory Tryz.f3.params.toList Rows.fnExactKeyOfSpec.vars false #[Value.agg #[.string ByteArray.empty, .string ByteArray.empty, .int .i64 0, .string ByteArray.empty, .string ByteArray.empty, .bool false], .agg #[.string ByteArray.empty, .string ByteArray.empty, .slice none 0 0, .string ByteArray.empty]].toList 8 = some ([.agg [.lit (.string []), .lit (.string []), .lit (.int .i64 0), .lit (.string []), .lit (.string []), .lit (.bool false)], .agg [.lit (.string []), .lit (.string []), .nil, .lit (.string [])]], [], places) :=
  ⟨[], by kernel_rfl⟩
set_option maxRecDepth 100000 in
theorem lifted (os : Os) (started : os.Started) (H : Type) (enc : TypeId × Value → H) (F : Stop.Interp) :
    ReturnsInHanded {} Tryz.checked os 3 .any ((OpenSpec.ofChange Rows.fnExactKeyOfSpec).preRow enc Tryz.prog Tryz.f3 Rows.fnExactKeyOfRow.domain false Rows.fnExactKeyOfRow.laid) (((OpenSpec.ofChange Rows.fnExactKeyOfSpec).at F).post enc Tryz.prog Tryz.f3 false true false false) := by
  obtain ⟨places, hx⟩ := reads os enc
  refine returnsInHanded_of_row (C := Tryz.checked) (s := OpenSpec.ofChange Rows.fnExactKeyOfSpec) own started (by kernel_rfl) Tryz.func3
    (witness_row_at (enc := enc) (C := Tryz.checked) false (laidWorld os) #[.agg #[.string ByteArray.empty, .string ByteArray.empty, .int .i64 0, .string ByteArray.empty, .string ByteArray.empty, .bool false], .agg #[.string ByteArray.empty, .string ByteArray.empty, .slice none 0 0, .string ByteArray.empty]] rfl (by kernel_rfl) (by kernel_rfl) (by kernel_rfl)
      (OpenSpec.preRow_of_cond 8 hx (by kernel_rfl) (fun k hk => by cases hk) (by kernel_rfl) (laid_met os))) ?_
  intro W base args ds gs before hval hW _ _ hsz hL hS _
  exact contract H enc W base args ds gs before hval hW hsz hL hS
theorem over : Rows.fnExactKeyOfRow.holds Tryz.pinned (OpenSpec.ofChange Rows.fnExactKeyOfSpec) :=
  OpenClaim.holds_of_cond 3 Tryz.f3 rfl rfl rfl rfl rfl rfl rfl ⟨rfl, rfl, rfl, rfl, rfl⟩ rfl rfl rfl rfl rfl (by kernel_rfl) Tryz.func3 (by kernel_rfl)
    (of_decide_eq_true (by kernel_rfl)) (by unfold Func.isWrapper; first | (rw [if_pos (by decide +kernel)]; kernel_rfl) | (rw [if_neg (by decide +kernel)]; exact ⟨rfl, rfl⟩))
    (fun os started H enc _ F => by rw [OpenClaim.pre_eq_preRow]; exact lifted os started H enc F)
set_option maxRecDepth 100000 in
/-- No parameter wants a stand-in; the program's own looks are off. -/
theorem plain (f : FuncId) (fn : Func) (hf : Tryz.pinned.checked.prog.funcNamed "loop.example/g00256/laws.FnExactKeyOf" = some f) (hfn : Tryz.pinned.checked.prog.funcs[f]? = some fn) :
    true = Tryz.pinned.checked.prog.looks [] ∧ ∀ (j : Nat) t, fn.params[j]? = some t → Tryz.pinned.checked.prog.wantsStandIn t = false := by
  obtain rfl : f = 3 := Option.some.inj ((show Tryz.prog.funcNamed "loop.example/g00256/laws.FnExactKeyOf" = some 3 by kernel_rfl).symm.trans hf) |>.symm
  obtain rfl : fn = Tryz.f3 := (Option.some.inj (Tryz.func3.symm.trans hfn)).symm
  refine ⟨by kernel_rfl, fun j t ht => ?_⟩
  rw [Tryz.params3] at ht
  have hm := Array.mem_of_getElem? ht
  simp only [List.mem_toArray, List.mem_cons, List.not_mem_nil, or_false] at hm
  rcases hm with rfl | rfl
  all_goals first | exact (show Tryz.prog.wantsStandIn 23 = false by kernel_rfl) | exact (show Tryz.prog.wantsStandIn 26 = false by kernel_rfl)
theorem proved : Rows.FnExactKeyOfSaid := over
#print axioms proved
end Go.Proofs.YtpggepjfhgalkaaGreatDoor.fnExactKeyOf
namespace Go.Proofs.YtpggepjfhgalkaaGreatDoor
/-- THE CARD. -/
theorem fnExactKeyOf_holds : Rows.FnExactKeyOfCardSaid :=
  Claim7.holds_tied_plain_at .later [] _ _ _ _ fnExactKeyOf.over (fun _ h => by cases h) (by kernel_rfl) (fun _ h => by cases h) fnExactKeyOf_row_tie rfl ⟨rfl, rfl⟩ (by kernel_rfl) rfl fnExactKeyOf.plain (by kernel_rfl)
end Go.Proofs.YtpggepjfhgalkaaGreatDoor
