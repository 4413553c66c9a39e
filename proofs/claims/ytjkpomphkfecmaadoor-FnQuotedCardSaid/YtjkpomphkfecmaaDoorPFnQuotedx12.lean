-- Written by a program of this project (xprint.py) out of the translation; Lean checks it.
import Derived.Test.YtjkpomphkfecmaaDoorPFnQuotedx0
import Derived.Test.YtjkpomphkfecmaaDoorPFnQuotedx2
import Derived.Test.YtjkpomphkfecmaaDoorPFnQuotedx3
import Derived.Test.YtjkpomphkfecmaaDoorPFnQuotedx4
import Derived.Test.YtjkpomphkfecmaaDoorPFnQuotedx5
import Derived.Test.YtjkpomphkfecmaaDoorPFnQuotedx6
import Derived.Test.YtjkpomphkfecmaaDoorPFnQuotedx8
import Derived.Test.YtjkpomphkfecmaaDoorPFnQuotedx10
import Derived.Test.YtjkpomphkfecmaaDoorPFnQuotedx11
namespace Go.Proofs.YtjkpomphkfecmaaDoor.PFnQuoted
open Go.RowKit Go.Proofs.YtjkpomphkfecmaaDoorW.PrintWords Go.Proofs.YtjkpomphkfecmaaDoorW.PrintLast Go.Proofs.YtjkpomphkfecmaaDoorW.PrintMore
attribute [local go_sem] max2_int min2_int max_two min_two max_three min_three max_four min_four   -- for this text's walks alone
set_option linter.unusedVariables false
set_option linter.unusedSimpArgs false

/-! ### laws_FnQuoted: function 3 -/
mutual
def laws_FnQuoted.j0 : Nat → List Int → ByteArray → ByteArray → Bool → Bool → Option (Bool)
 | 0, _, _, _, _, _ => none
 | k + 1, x1, x5, x6, x7, x57 => if x57 = true then (some false) else (if x7 = true then ((impl_UnquoteOf.f k x6).bind fun bt354 => (if x6.size + 2 ≤ 9223372036854775807 then (if (x6 ++ (⟨#[44, 32]⟩ : ByteArray)).size + x6.size ≤ 9223372036854775807 then ((impl_ListOf.f k ((x6 ++ (⟨#[44, 32]⟩ : ByteArray)) ++ x6)).bind fun bt356 => (if bt354.2 = true then (if bt354.1.toList = x5.toList then (if bt356.2 = true then (if (bt356.1.length : Int) = 2 then (if 0 < (bt356.1.length : Int) then (if (rdOf ByteArray.empty bt356.1 0).toList = x6.toList then (if 1 < (bt356.1.length : Int) then (if (rdOf ByteArray.empty bt356.1 1).toList = x6.toList then (laws_FnQuoted.j1 k x1) else (some false)) else (none)) else (some false)) else (none)) else (some false)) else (laws_FnQuoted.j1 k x1)) else (some false)) else (some false))) else (none)) else (none))) else (laws_FnQuoted.j1 k x1))
def laws_FnQuoted.j1 : Nat → List Int → Option (Bool)
 | 0, _ => none
 | k + 1, x1 => (spec_DrawSetField.f k x1).bind fun bt362 => ((impl_SetField.f k bt362.1 bt362.2.1 bt362.2.2).bind fun bt368 => ((spec_SetField.f k bt362.1 bt362.2.1 bt362.2.2).bind fun bt372 => (if (bt368.2 != bt372.2) = true then (laws_FnQuoted.j2 k bt362.1 bt368.1 bt368.2 true bt362.2.1 bt362.2.2) else ((laws_sameFields.f k bt368.1 bt372.1).bind fun t376 => (laws_FnQuoted.j2 k bt362.1 bt368.1 bt368.2 (!t376) bt362.2.1 bt362.2.2)))))
def laws_FnQuoted.j2 : Nat → List (S31) → List (S31) → Bool → Bool → ByteArray → ByteArray → Option (Bool)
 | 0, _, _, _, _, _, _ => none
 | k + 1, x14, x16, x17, x126, x368000, x368001 => if x126 = true then (some false) else (if x17 = true then ((impl_ValuesOf.f k x16 x368000).bind fun bt377 => ((impl_JoinedOf.f k x16 x368000).bind fun bt381 => (if bt377.2 = true then (if bt381.2 = true then (if (bt377.1.length : Int) = 1 then (if 0 < (bt377.1.length : Int) then (if (rdOf ByteArray.empty bt377.1 0).toList = x368001.toList then (laws_FnQuoted.j3 k x14 x16 (bt381.1.toList != x368001.toList) x368000 x368001) else (laws_FnQuoted.j3 k x14 x16 true x368000 x368001)) else (none)) else (laws_FnQuoted.j3 k x14 x16 true x368000 x368001)) else (laws_FnQuoted.j3 k x14 x16 true x368000 x368001)) else (laws_FnQuoted.j3 k x14 x16 true x368000 x368001)))) else (some ((x16.length : Int) == 0)))
def laws_FnQuoted.j3 : Nat → List (S31) → List (S31) → Bool → ByteArray → ByteArray → Option (Bool)
 | 0, _, _, _, _, _ => none
 | k + 1, x14, x16, x170, x368000, x368001 => if x170 = true then (some false) else (laws_FnQuoted.l0 k x14 x16 x14 (x14.length : Int) 0 x368000 x368001)
def laws_FnQuoted.l0 : Nat → List (S31) → List (S31) → List (S31) → Int → Int → ByteArray → ByteArray → Option (Bool)
 | 0, _, _, _, _, _, _, _ => none
 | k + 1, x14, x16, x171, x172, x173, x368000, x368001 => if x173 < x172 then (if 0 ≤ x173 then (if x173 < (x171.length : Int) then ((spec_ValuesOf.f k x14 ((rd_T31 x171 x173).f0)).bind fun bt386 => ((impl_ValuesOf.f k x16 ((rd_T31 x171 x173).f0)).bind fun bt390 => ((spec_ValuesOf.f k (([(⟨x368000, x368001⟩ : S31)] : List (S31))) ((rd_T31 x171 x173).f0)).bind fun bt397 => (if bt386.2 = true then (if bt390.2 = true then (if (bt397.1.length : Int) = 0 then ((laws_sameTexts.f k bt386.1 bt390.1).bind fun t401 => (if t401 = true then (laws_FnQuoted.l0 k x14 x16 x171 x172 (wrap64 (x173 + 1)) x368000 x368001) else (some false))) else (laws_FnQuoted.l0 k x14 x16 x171 x172 (wrap64 (x173 + 1)) x368000 x368001)) else (some false)) else (some false))))) else (none)) else (none)) else (some true)
end
def laws_FnQuoted.f (k : Nat) (l0 : List Int) (l1 : List Int) : Option (Bool) := if (wrap64 ((l0.length : Int) + (l1.length : Int))) > 1048576 then (some true) else ((spec_DrawQuoteOf.f k l0).bind fun t349 => ((impl_QuoteOf.f k t349).bind fun bt350 => ((spec_QuoteOf.f k t349).bind fun bt352 => (if (bt350.2 != bt352.2) = true then (laws_FnQuoted.j0 k l1 t349 bt350.1 bt350.2 true) else (laws_FnQuoted.j0 k l1 t349 bt350.1 bt350.2 (bt350.1.toList != bt352.1.toList))))))
theorem laws_FnQuoted.mono_l : ∀ k, (∀ y0 y1 y2 y3 y4, LeO (laws_FnQuoted.j0 k y0 y1 y2 y3 y4) (laws_FnQuoted.j0 (k + 1) y0 y1 y2 y3 y4)) ∧ (∀ y0, LeO (laws_FnQuoted.j1 k y0) (laws_FnQuoted.j1 (k + 1) y0)) ∧ (∀ y0 y1 y2 y3 y4 y5, LeO (laws_FnQuoted.j2 k y0 y1 y2 y3 y4 y5) (laws_FnQuoted.j2 (k + 1) y0 y1 y2 y3 y4 y5)) ∧ (∀ y0 y1 y2 y3 y4, LeO (laws_FnQuoted.j3 k y0 y1 y2 y3 y4) (laws_FnQuoted.j3 (k + 1) y0 y1 y2 y3 y4)) ∧ (∀ y0 y1 y2 y3 y4 y5 y6, LeO (laws_FnQuoted.l0 k y0 y1 y2 y3 y4 y5 y6) (laws_FnQuoted.l0 (k + 1) y0 y1 y2 y3 y4 y5 y6))
 | 0 => ⟨fun _ _ _ _ _ r h => by simp [laws_FnQuoted.j0] at h, fun _ r h => by simp [laws_FnQuoted.j1] at h, fun _ _ _ _ _ _ r h => by simp [laws_FnQuoted.j2] at h, fun _ _ _ _ _ r h => by simp [laws_FnQuoted.j3] at h, fun _ _ _ _ _ _ _ r h => by simp [laws_FnQuoted.l0] at h⟩
 | k + 1 => by
  obtain ⟨ih0, ih1, ih2, ih3, ih4⟩ := laws_FnQuoted.mono_l k
  refine ⟨?_, ?_, ?_, ?_, ?_⟩
  ·intro y0 y1 y2 y3 y4
   unfold laws_FnQuoted.j0
   repeat' first
   | (with_reducible exact ih0 _ _ _ _ _)
   | (with_reducible exact ih1 _)
   | (with_reducible exact ih2 _ _ _ _ _ _)
   | (with_reducible exact ih3 _ _ _ _ _)
   | (with_reducible exact ih4 _ _ _ _ _ _ _)
   | (with_reducible exact impl_JoinedOf.mono _ _ _)
   | (with_reducible exact impl_ListOf.mono _ _)
   | (with_reducible exact impl_QuoteOf.mono _ _)
   | (with_reducible exact impl_SetField.mono _ _ _ _)
   | (with_reducible exact impl_UnquoteOf.mono _ _)
   | (with_reducible exact impl_ValuesOf.mono _ _ _)
   | (with_reducible exact laws_sameFields.mono _ _ _)
   | (with_reducible exact laws_sameTexts.mono _ _ _)
   | (with_reducible exact spec_DrawQuoteOf.mono _ _)
   | (with_reducible exact spec_DrawSetField.mono _ _)
   | (with_reducible exact spec_QuoteOf.mono _ _)
   | (with_reducible exact spec_SetField.mono _ _ _ _)
   | (with_reducible exact spec_ValuesOf.mono _ _ _)
   | (with_reducible exact LeO.refl _)
   | (with_reducible exact LeO.none _)
   | (with_reducible refine LeO.ite ?_ ?_)
   | (with_reducible refine LeO.bind ?_ (fun _ => ?_))
   | exact ih0 _ _ _ _ _
   | exact ih1 _
   | exact ih2 _ _ _ _ _ _
   | exact ih3 _ _ _ _ _
   | exact ih4 _ _ _ _ _ _ _
   | exact impl_JoinedOf.mono _ _ _
   | exact impl_ListOf.mono _ _
   | exact impl_QuoteOf.mono _ _
   | exact impl_SetField.mono _ _ _ _
   | exact impl_UnquoteOf.mono _ _
   | exact impl_ValuesOf.mono _ _ _
   | exact laws_sameFields.mono _ _ _
   | exact laws_sameTexts.mono _ _ _
   | exact spec_DrawQuoteOf.mono _ _
   | exact spec_DrawSetField.mono _ _
   | exact spec_QuoteOf.mono _ _
   | exact spec_SetField.mono _ _ _ _
   | exact spec_ValuesOf.mono _ _ _
   | exact LeO.none _
   | refine LeO.ite ?_ ?_
   | refine LeO.bind ?_ (fun _ => ?_)
  ·intro y0
   unfold laws_FnQuoted.j1
   repeat' first
   | (with_reducible exact ih0 _ _ _ _ _)
   | (with_reducible exact ih1 _)
   | (with_reducible exact ih2 _ _ _ _ _ _)
   | (with_reducible exact ih3 _ _ _ _ _)
   | (with_reducible exact ih4 _ _ _ _ _ _ _)
   | (with_reducible exact impl_JoinedOf.mono _ _ _)
   | (with_reducible exact impl_ListOf.mono _ _)
   | (with_reducible exact impl_QuoteOf.mono _ _)
   | (with_reducible exact impl_SetField.mono _ _ _ _)
   | (with_reducible exact impl_UnquoteOf.mono _ _)
   | (with_reducible exact impl_ValuesOf.mono _ _ _)
   | (with_reducible exact laws_sameFields.mono _ _ _)
   | (with_reducible exact laws_sameTexts.mono _ _ _)
   | (with_reducible exact spec_DrawQuoteOf.mono _ _)
   | (with_reducible exact spec_DrawSetField.mono _ _)
   | (with_reducible exact spec_QuoteOf.mono _ _)
   | (with_reducible exact spec_SetField.mono _ _ _ _)
   | (with_reducible exact spec_ValuesOf.mono _ _ _)
   | (with_reducible exact LeO.refl _)
   | (with_reducible exact LeO.none _)
   | (with_reducible refine LeO.ite ?_ ?_)
   | (with_reducible refine LeO.bind ?_ (fun _ => ?_))
   | exact ih0 _ _ _ _ _
   | exact ih1 _
   | exact ih2 _ _ _ _ _ _
   | exact ih3 _ _ _ _ _
   | exact ih4 _ _ _ _ _ _ _
   | exact impl_JoinedOf.mono _ _ _
   | exact impl_ListOf.mono _ _
   | exact impl_QuoteOf.mono _ _
   | exact impl_SetField.mono _ _ _ _
   | exact impl_UnquoteOf.mono _ _
   | exact impl_ValuesOf.mono _ _ _
   | exact laws_sameFields.mono _ _ _
   | exact laws_sameTexts.mono _ _ _
   | exact spec_DrawQuoteOf.mono _ _
   | exact spec_DrawSetField.mono _ _
   | exact spec_QuoteOf.mono _ _
   | exact spec_SetField.mono _ _ _ _
   | exact spec_ValuesOf.mono _ _ _
   | exact LeO.none _
   | refine LeO.ite ?_ ?_
   | refine LeO.bind ?_ (fun _ => ?_)
  ·intro y0 y1 y2 y3 y4 y5
   unfold laws_FnQuoted.j2
   repeat' first
   | (with_reducible exact ih0 _ _ _ _ _)
   | (with_reducible exact ih1 _)
   | (with_reducible exact ih2 _ _ _ _ _ _)
   | (with_reducible exact ih3 _ _ _ _ _)
   | (with_reducible exact ih4 _ _ _ _ _ _ _)
   | (with_reducible exact impl_JoinedOf.mono _ _ _)
   | (with_reducible exact impl_ListOf.mono _ _)
   | (with_reducible exact impl_QuoteOf.mono _ _)
   | (with_reducible exact impl_SetField.mono _ _ _ _)
   | (with_reducible exact impl_UnquoteOf.mono _ _)
   | (with_reducible exact impl_ValuesOf.mono _ _ _)
   | (with_reducible exact laws_sameFields.mono _ _ _)
   | (with_reducible exact laws_sameTexts.mono _ _ _)
   | (with_reducible exact spec_DrawQuoteOf.mono _ _)
   | (with_reducible exact spec_DrawSetField.mono _ _)
   | (with_reducible exact spec_QuoteOf.mono _ _)
   | (with_reducible exact spec_SetField.mono _ _ _ _)
   | (with_reducible exact spec_ValuesOf.mono _ _ _)
   | (with_reducible exact LeO.refl _)
   | (with_reducible exact LeO.none _)
   | (with_reducible refine LeO.ite ?_ ?_)
   | (with_reducible refine LeO.bind ?_ (fun _ => ?_))
   | exact ih0 _ _ _ _ _
   | exact ih1 _
   | exact ih2 _ _ _ _ _ _
   | exact ih3 _ _ _ _ _
   | exact ih4 _ _ _ _ _ _ _
   | exact impl_JoinedOf.mono _ _ _
   | exact impl_ListOf.mono _ _
   | exact impl_QuoteOf.mono _ _
   | exact impl_SetField.mono _ _ _ _
   | exact impl_UnquoteOf.mono _ _
   | exact impl_ValuesOf.mono _ _ _
   | exact laws_sameFields.mono _ _ _
   | exact laws_sameTexts.mono _ _ _
   | exact spec_DrawQuoteOf.mono _ _
   | exact spec_DrawSetField.mono _ _
   | exact spec_QuoteOf.mono _ _
   | exact spec_SetField.mono _ _ _ _
   | exact spec_ValuesOf.mono _ _ _
   | exact LeO.none _
   | refine LeO.ite ?_ ?_
   | refine LeO.bind ?_ (fun _ => ?_)
  ·intro y0 y1 y2 y3 y4
   unfold laws_FnQuoted.j3
   repeat' first
   | (with_reducible exact ih0 _ _ _ _ _)
   | (with_reducible exact ih1 _)
   | (with_reducible exact ih2 _ _ _ _ _ _)
   | (with_reducible exact ih3 _ _ _ _ _)
   | (with_reducible exact ih4 _ _ _ _ _ _ _)
   | (with_reducible exact impl_JoinedOf.mono _ _ _)
   | (with_reducible exact impl_ListOf.mono _ _)
   | (with_reducible exact impl_QuoteOf.mono _ _)
   | (with_reducible exact impl_SetField.mono _ _ _ _)
   | (with_reducible exact impl_UnquoteOf.mono _ _)
   | (with_reducible exact impl_ValuesOf.mono _ _ _)
   | (with_reducible exact laws_sameFields.mono _ _ _)
   | (with_reducible exact laws_sameTexts.mono _ _ _)
   | (with_reducible exact spec_DrawQuoteOf.mono _ _)
   | (with_reducible exact spec_DrawSetField.mono _ _)
   | (with_reducible exact spec_QuoteOf.mono _ _)
   | (with_reducible exact spec_SetField.mono _ _ _ _)
   | (with_reducible exact spec_ValuesOf.mono _ _ _)
   | (with_reducible exact LeO.refl _)
   | (with_reducible exact LeO.none _)
   | (with_reducible refine LeO.ite ?_ ?_)
   | (with_reducible refine LeO.bind ?_ (fun _ => ?_))
   | exact ih0 _ _ _ _ _
   | exact ih1 _
   | exact ih2 _ _ _ _ _ _
   | exact ih3 _ _ _ _ _
   | exact ih4 _ _ _ _ _ _ _
   | exact impl_JoinedOf.mono _ _ _
   | exact impl_ListOf.mono _ _
   | exact impl_QuoteOf.mono _ _
   | exact impl_SetField.mono _ _ _ _
   | exact impl_UnquoteOf.mono _ _
   | exact impl_ValuesOf.mono _ _ _
   | exact laws_sameFields.mono _ _ _
   | exact laws_sameTexts.mono _ _ _
   | exact spec_DrawQuoteOf.mono _ _
   | exact spec_DrawSetField.mono _ _
   | exact spec_QuoteOf.mono _ _
   | exact spec_SetField.mono _ _ _ _
   | exact spec_ValuesOf.mono _ _ _
   | exact LeO.none _
   | refine LeO.ite ?_ ?_
   | refine LeO.bind ?_ (fun _ => ?_)
  ·intro y0 y1 y2 y3 y4 y5 y6
   unfold laws_FnQuoted.l0
   repeat' first
   | (with_reducible exact ih0 _ _ _ _ _)
   | (with_reducible exact ih1 _)
   | (with_reducible exact ih2 _ _ _ _ _ _)
   | (with_reducible exact ih3 _ _ _ _ _)
   | (with_reducible exact ih4 _ _ _ _ _ _ _)
   | (with_reducible exact impl_JoinedOf.mono _ _ _)
   | (with_reducible exact impl_ListOf.mono _ _)
   | (with_reducible exact impl_QuoteOf.mono _ _)
   | (with_reducible exact impl_SetField.mono _ _ _ _)
   | (with_reducible exact impl_UnquoteOf.mono _ _)
   | (with_reducible exact impl_ValuesOf.mono _ _ _)
   | (with_reducible exact laws_sameFields.mono _ _ _)
   | (with_reducible exact laws_sameTexts.mono _ _ _)
   | (with_reducible exact spec_DrawQuoteOf.mono _ _)
   | (with_reducible exact spec_DrawSetField.mono _ _)
   | (with_reducible exact spec_QuoteOf.mono _ _)
   | (with_reducible exact spec_SetField.mono _ _ _ _)
   | (with_reducible exact spec_ValuesOf.mono _ _ _)
   | (with_reducible exact LeO.refl _)
   | (with_reducible exact LeO.none _)
   | (with_reducible refine LeO.ite ?_ ?_)
   | (with_reducible refine LeO.bind ?_ (fun _ => ?_))
   | exact ih0 _ _ _ _ _
   | exact ih1 _
   | exact ih2 _ _ _ _ _ _
   | exact ih3 _ _ _ _ _
   | exact ih4 _ _ _ _ _ _ _
   | exact impl_JoinedOf.mono _ _ _
   | exact impl_ListOf.mono _ _
   | exact impl_QuoteOf.mono _ _
   | exact impl_SetField.mono _ _ _ _
   | exact impl_UnquoteOf.mono _ _
   | exact impl_ValuesOf.mono _ _ _
   | exact laws_sameFields.mono _ _ _
   | exact laws_sameTexts.mono _ _ _
   | exact spec_DrawQuoteOf.mono _ _
   | exact spec_DrawSetField.mono _ _
   | exact spec_QuoteOf.mono _ _
   | exact spec_SetField.mono _ _ _ _
   | exact spec_ValuesOf.mono _ _ _
   | exact LeO.none _
   | refine LeO.ite ?_ ?_
   | refine LeO.bind ?_ (fun _ => ?_)
theorem laws_FnQuoted.mono : ∀ a0 a1 k, LeO (laws_FnQuoted.f k a0 a1) (laws_FnQuoted.f (k + 1) a0 a1) := by
 intro a0 a1 k
 obtain ⟨ih0, ih1, ih2, ih3, ih4⟩ := laws_FnQuoted.mono_l k
 unfold laws_FnQuoted.f
 repeat' first
   | (with_reducible exact ih0 _ _ _ _ _)
   | (with_reducible exact ih1 _)
   | (with_reducible exact ih2 _ _ _ _ _ _)
   | (with_reducible exact ih3 _ _ _ _ _)
   | (with_reducible exact ih4 _ _ _ _ _ _ _)
   | (with_reducible exact impl_JoinedOf.mono _ _ _)
   | (with_reducible exact impl_ListOf.mono _ _)
   | (with_reducible exact impl_QuoteOf.mono _ _)
   | (with_reducible exact impl_SetField.mono _ _ _ _)
   | (with_reducible exact impl_UnquoteOf.mono _ _)
   | (with_reducible exact impl_ValuesOf.mono _ _ _)
   | (with_reducible exact laws_sameFields.mono _ _ _)
   | (with_reducible exact laws_sameTexts.mono _ _ _)
   | (with_reducible exact spec_DrawQuoteOf.mono _ _)
   | (with_reducible exact spec_DrawSetField.mono _ _)
   | (with_reducible exact spec_QuoteOf.mono _ _)
   | (with_reducible exact spec_SetField.mono _ _ _ _)
   | (with_reducible exact spec_ValuesOf.mono _ _ _)
   | (with_reducible exact LeO.refl _)
   | (with_reducible exact LeO.none _)
   | (with_reducible refine LeO.ite ?_ ?_)
   | (with_reducible refine LeO.bind ?_ (fun _ => ?_))
   | exact ih0 _ _ _ _ _
   | exact ih1 _
   | exact ih2 _ _ _ _ _ _
   | exact ih3 _ _ _ _ _
   | exact ih4 _ _ _ _ _ _ _
   | exact impl_JoinedOf.mono _ _ _
   | exact impl_ListOf.mono _ _
   | exact impl_QuoteOf.mono _ _
   | exact impl_SetField.mono _ _ _ _
   | exact impl_UnquoteOf.mono _ _
   | exact impl_ValuesOf.mono _ _ _
   | exact laws_sameFields.mono _ _ _
   | exact laws_sameTexts.mono _ _ _
   | exact spec_DrawQuoteOf.mono _ _
   | exact spec_DrawSetField.mono _ _
   | exact spec_QuoteOf.mono _ _
   | exact spec_SetField.mono _ _ _ _
   | exact spec_ValuesOf.mono _ _ _
   | exact LeO.none _
   | refine LeO.ite ?_ ?_
   | refine LeO.bind ?_ (fun _ => ?_)
structure laws_FnQuoted.callsKept (p : Prop) : Prop where
  out : p
set_option maxHeartbeats 8000000 in
set_option maxRecDepth 100000 in
noncomputable def laws_FnQuoted.calls1 : PSigma (fun T0 : (∀ (k : Nat) (A0 : Option Addr) (c0 : Nat) (l0 : List Int) (A1 : Option Addr) (c1 : Nat) (l1 : List Int) (r : Bool) (w : World), Prop) => ∀ (k : Nat) (A0 : Option Addr) (c0 : Nat) (l0 : List Int) (A1 : Option Addr) (c1 : Nat) (l1 : List Int) (r : Bool) (w : World) (htrue : r = true) (hr0 : Kd.C (Kd.int .u8) w A0 l0.length l0) (hc0 : l0.length ≤ c0) (hr1 : Kd.C (Kd.int .u8) w A1 l1.length l1) (hc1 : l1.length ≤ c1) (h : laws_FnQuoted.f k l0 l1 = some r), laws_FnQuoted.callsKept (T0 k A0 c0 l0 A1 c1 l1 r w) → Calls Tryd.prog 3 #[.slice A0 l0.length c0, .slice A1 l1.length c1] w fun e w' => e = .returned (.bool r) ∧ Below w.heap.size w w') := by
 apply PSigma.mk
 intro k A0 c0 l0 A1 c1 l1 r w htrue hr0 hc0 hr1 hc1 h hT0
 have HT := Aside0.mk htrue
 clear htrue
 have hu31 := Tryd.underlying31
 have HR0 := Aside0.mk hr0
 have HC0 := Aside0.mk hc0
 clear hr0 hc0
 have HR1 := Aside0.mk hr1
 have HC1 := Aside0.mk hc1
 clear hr1 hc1
 have HB := Aside0.mk (Below.refl w.heap.size w)
 have H : (if (wrap64 ((l0.length : Int) + (l1.length : Int))) > 1048576 then (some true) else ((spec_DrawQuoteOf.f k l0).bind fun t349 => ((impl_QuoteOf.f k t349).bind fun bt350 => ((spec_QuoteOf.f k t349).bind fun bt352 => (if (bt350.2 != bt352.2) = true then (laws_FnQuoted.j0 k l1 t349 bt350.1 bt350.2 true) else (laws_FnQuoted.j0 k l1 t349 bt350.1 bt350.2 (bt350.1.toList != bt352.1.toList))))))) = some r := h
 clear h
 by_cases c3 : (wrap64 ((l0.length : Int) + (l1.length : Int))) > 1048576
 ·rw [if_pos c3] at H
  have c3b0 : decide (1048576 < (wrap64 ((l0.length : Int) + (l1.length : Int)))) = true := decide_eq_true c3
  clear c3
  obtain rfl := Option.some.inj H
  go_enter Tryd.func3, Tryd.ntmps3
  go_wp2
  repeat ((try simp only [List.append_eq, List.cons_append, List.nil_append, List.append]); go_quiet (fail); try go_wp2)
  go_ret
  exact ⟨by first | rfl | (simp [errW_none, errW_some] <;> rfl) | (simp [*, errW_none, errW_some] <;> rfl), xw_ HB⟩
 ·rw [if_neg c3] at H
  have c3b0 : decide (1048576 < (wrap64 ((l0.length : Int) + (l1.length : Int)))) = false := decide_eq_false c3
  clear c3
  replace H := Option.bind_eq_some_iff.mp H
  obtain ⟨t349, A40, H⟩ := H
  replace H : ((impl_QuoteOf.f k t349).bind fun bt350 => ((spec_QuoteOf.f k t349).bind fun bt352 => (if (bt350.2 != bt352.2) = true then (laws_FnQuoted.j0 k l1 t349 bt350.1 bt350.2 true) else (laws_FnQuoted.j0 k l1 t349 bt350.1 bt350.2 (bt350.1.toList != bt352.1.toList))))) = some r := H
  have A4 := Aside0.mk A40
  clear A40
  replace H := Option.bind_eq_some_iff.mp H
  obtain ⟨⟨t350, t351⟩, A50, H⟩ := H
  replace H : ((spec_QuoteOf.f k t349).bind fun bt352 => (if (t351 != bt352.2) = true then (laws_FnQuoted.j0 k l1 t349 t350 t351 true) else (laws_FnQuoted.j0 k l1 t349 t350 t351 (t350.toList != bt352.1.toList)))) = some r := H
  have A5 := Aside0.mk A50
  clear A50
  replace H := Option.bind_eq_some_iff.mp H
  obtain ⟨⟨t352, t353⟩, A60, H⟩ := H
  replace H : (if (t351 != t353) = true then (laws_FnQuoted.j0 k l1 t349 t350 t351 true) else (laws_FnQuoted.j0 k l1 t349 t350 t351 (t350.toList != t352.toList))) = some r := H
  have A6 := Aside0.mk A60
  clear A60
  have HC7 := Aside0.mk H
  clear H
  go_enter Tryd.func3, Tryd.ntmps3
  go_upto_region 6 with (first | (go_at_call 4; (with_reducible refine (spec_DrawQuoteOf.calls k _ _ l0 t349 _ ?side1 ?side2 A4.out).mono ?_); (case side1 => repeat (first | exact HR0.out | (with_reducible refine Kd.C_alloc ?_ _) | (with_reducible refine Kd.C_drewN ?_ _) | (with_reducible refine Kd.C_drew ?_))); (case side2 => exact HC0.out); rintro e w8 ⟨rfl, hb⟩; replace HB := xws_ HB hb; (try clear hb); (try clear hb2); (try clear hk); (try clear hi)) | (go_at_call 5; (with_reducible refine (impl_QuoteOf.calls k t349 t350 t351 _ A5.out).mono ?_); rintro e w9 ⟨rfl, hb⟩; replace HB := xws_ HB hb; (try clear hb); (try clear hb2); (try clear hk); (try clear hi)) | (go_at_call 6; (with_reducible refine (spec_QuoteOf.calls k t349 t352 t353 _ A6.out).mono ?_); rintro e w' ⟨rfl, ⟨nd, rfl⟩⟩; (try first | exact ⟨rfl, _, World.drewN_drewN _ _ _⟩ | exact ⟨rfl, _, Eq.trans (World.drewN_drewN _ _ _) (congrArg (World.drewN _) (Nat.add_assoc _ _ _))⟩)))
  repeat ((try simp only [List.append_eq, List.cons_append, List.nil_append, List.append]); go_quiet (first | (go_at_call 4; (with_reducible refine (spec_DrawQuoteOf.calls k _ _ l0 t349 _ ?side1 ?side2 A4.out).mono ?_); (case side1 => repeat (first | exact HR0.out | (with_reducible refine Kd.C_alloc ?_ _) | (with_reducible refine Kd.C_drewN ?_ _) | (with_reducible refine Kd.C_drew ?_))); (case side2 => exact HC0.out); rintro e w8 ⟨rfl, hb⟩; replace HB := xws_ HB hb; (try clear hb); (try clear hb2); (try clear hk); (try clear hi)) | (go_at_call 5; (with_reducible refine (impl_QuoteOf.calls k t349 t350 t351 _ A5.out).mono ?_); rintro e w9 ⟨rfl, hb⟩; replace HB := xws_ HB hb; (try clear hb); (try clear hb2); (try clear hk); (try clear hi)) | (go_at_call 6; (with_reducible refine (spec_QuoteOf.calls k t349 t352 t353 _ A6.out).mono ?_); rintro e w' ⟨rfl, ⟨nd, rfl⟩⟩; (try first | exact ⟨rfl, _, World.drewN_drewN _ _ _⟩ | exact ⟨rfl, _, Eq.trans (World.drewN_drewN _ _ _) (congrArg (World.drewN _) (Nat.add_assoc _ _ _))⟩))); go_upto_region 6 with (first | (go_at_call 4; (with_reducible refine (spec_DrawQuoteOf.calls k _ _ l0 t349 _ ?side1 ?side2 A4.out).mono ?_); (case side1 => repeat (first | exact HR0.out | (with_reducible refine Kd.C_alloc ?_ _) | (with_reducible refine Kd.C_drewN ?_ _) | (with_reducible refine Kd.C_drew ?_))); (case side2 => exact HC0.out); rintro e w8 ⟨rfl, hb⟩; replace HB := xws_ HB hb; (try clear hb); (try clear hb2); (try clear hk); (try clear hi)) | (go_at_call 5; (with_reducible refine (impl_QuoteOf.calls k t349 t350 t351 _ A5.out).mono ?_); rintro e w9 ⟨rfl, hb⟩; replace HB := xws_ HB hb; (try clear hb); (try clear hb2); (try clear hk); (try clear hi)) | (go_at_call 6; (with_reducible refine (spec_QuoteOf.calls k t349 t352 t353 _ A6.out).mono ?_); rintro e w' ⟨rfl, ⟨nd, rfl⟩⟩; (try first | exact ⟨rfl, _, World.drewN_drewN _ _ _⟩ | exact ⟨rfl, _, Eq.trans (World.drewN_drewN _ _ _) (congrArg (World.drewN _) (Nat.add_assoc _ _ _))⟩))))
  (try simp only [Act.put, List.setIfInBounds_toArray, List.set_cons_zero, List.set_cons_succ])
  go_cut [57] (fun v57 wc => ∃ (kq : Nat) (x57_6 : Bool), v57 = .bool x57_6 ∧ Aside0 (laws_FnQuoted.j0 kq l1 t349 t350 t351 x57_6 = some r) ∧ Aside0 (kq ≤ k) ∧ Aside0 (Below w.heap.size w wc))
  case first =>
   have H := HC7.out
   clear HC7
   by_cases c10 : (t351 != t353) = true
   ·rw [if_pos c10] at H
    have c10b0 : (t351 != t353) = true := c10
    (try (have c10b1 : decide (t351 = t353) = false := by simpa using c10))
    (try (have c10b2 : (t351 == t353) = false := by simpa using c10))
    (try (have c10b3 : ¬ (t351 = t353) := by simpa using c10))
    clear c10
    (first | rw [c10b0] | (simp only [i64_w, i32_w]; rw [c10b0]) | skip)
    have H' := Aside0.mk H
    clear H
    go_wp2
    repeat ((try simp only [List.append_eq, List.cons_append, List.nil_append, List.append]); go_quiet (fail); try go_wp2)
    go_meet
    case rel => exact ⟨_, (true), (by first | rfl | (simp; done) | (simp [*]; done)), H', ⟨by first | omega | exact Nat.le_refl _⟩, ⟨xw_ HB⟩⟩
   ·rw [if_neg c10] at H
    have c10b0 : (t351 != t353) = false := by simpa using c10
    (try (have c10b1 : decide (t351 = t353) = true := by simpa using c10))
    (try (have c10b2 : (t351 == t353) = true := by simpa using c10))
    clear c10
    (first | rw [c10b0] | (simp only [i64_w, i32_w]; rw [c10b0]) | skip)
    have H' := Aside0.mk H
    clear H
    go_wp2
    repeat ((try simp only [List.append_eq, List.cons_append, List.nil_append, List.append]); go_quiet (fail); try go_wp2)
    go_meet
    case rel => exact ⟨_, ((t350.toList != t352.toList)), (by first | rfl | (simp; done) | (simp [*]; done)), H', ⟨by first | omega | exact Nat.le_refl _⟩, ⟨xw_ HB⟩⟩
  case rest =>
   clear HC7
   try clear c1
   try clear p2
   try clear c3
   try clear c3b0
   try clear p6
   try clear c10
   try clear c10b0
   try clear c10b1
   try clear c10b2
   obtain ⟨kq, x57_6, rfl, HA, HJ6, HB⟩ := hcut
   cases kq with
   | zero => exact absurd HA.out (by simp [laws_FnQuoted.j0])
   | succ kj6 =>
    have H := HA.out
    clear HA
    simp only [laws_FnQuoted.j0] at H
    by_cases c11 : x57_6 = true
    ·subst c11
     have H1 : (some false) = some r := by rw [if_pos rfl] at H; exact H
     clear H
     have H := H1
     clear H1
     exact absurd ((Option.some.inj H).trans HT.out) Bool.false_ne_true
    ·replace c11 := Bool.eq_false_iff.mpr c11
     subst c11
     have H1 : (if t351 = true then ((impl_UnquoteOf.f kj6 t350).bind fun bt354 => (if t350.size + 2 ≤ 9223372036854775807 then (if (t350 ++ (⟨#[44, 32]⟩ : ByteArray)).size + t350.size ≤ 9223372036854775807 then ((impl_ListOf.f kj6 ((t350 ++ (⟨#[44, 32]⟩ : ByteArray)) ++ t350)).bind fun bt356 => (if bt354.2 = true then (if bt354.1.toList = t349.toList then (if bt356.2 = true then (if (bt356.1.length : Int) = 2 then (if 0 < (bt356.1.length : Int) then (if (rdOf ByteArray.empty bt356.1 0).toList = t350.toList then (if 1 < (bt356.1.length : Int) then (if (rdOf ByteArray.empty bt356.1 1).toList = t350.toList then (laws_FnQuoted.j1 kj6 l1) else (some false)) else (none)) else (some false)) else (none)) else (some false)) else (laws_FnQuoted.j1 kj6 l1)) else (some false)) else (some false))) else (none)) else (none))) else (laws_FnQuoted.j1 kj6 l1)) = some r := by rw [if_neg (show ¬ (false = true) by decide)] at H; exact H
     clear H
     have H := H1
     clear H1
     have HC12 := Aside0.mk H
     clear H
     go_upto_if 58 with (fail)
     repeat ((try simp only [List.append_eq, List.cons_append, List.nil_append, List.append]); go_quiet (fail); go_upto_if 58 with (fail))
     go_cut [] (fun wc => ∃ (kq : Nat), Aside0 (laws_FnQuoted.j1 kq l1 = some r) ∧ Aside0 (kq ≤ kj6) ∧ Aside0 (Below w.heap.size w wc))
     case first =>
      have H := HC12.out
      clear HC12
      by_cases c13 : t351 = true
      ·subst c13
       have H1 : ((impl_UnquoteOf.f kj6 t350).bind fun bt354 => (if t350.size + 2 ≤ 9223372036854775807 then (if (t350 ++ (⟨#[44, 32]⟩ : ByteArray)).size + t350.size ≤ 9223372036854775807 then ((impl_ListOf.f kj6 ((t350 ++ (⟨#[44, 32]⟩ : ByteArray)) ++ t350)).bind fun bt356 => (if bt354.2 = true then (if bt354.1.toList = t349.toList then (if bt356.2 = true then (if (bt356.1.length : Int) = 2 then (if 0 < (bt356.1.length : Int) then (if (rdOf ByteArray.empty bt356.1 0).toList = t350.toList then (if 1 < (bt356.1.length : Int) then (if (rdOf ByteArray.empty bt356.1 1).toList = t350.toList then (laws_FnQuoted.j1 kj6 l1) else (some false)) else (none)) else (some false)) else (none)) else (some false)) else (laws_FnQuoted.j1 kj6 l1)) else (some false)) else (some false))) else (none)) else (none))) = some r := by rw [if_pos rfl] at H; exact H
       clear H
       have H := H1
       clear H1
       replace H := Option.bind_eq_some_iff.mp H
       obtain ⟨⟨t354, t355⟩, A140, H⟩ := H
       replace H : (if t350.size + 2 ≤ 9223372036854775807 then (if (t350 ++ (⟨#[44, 32]⟩ : ByteArray)).size + t350.size ≤ 9223372036854775807 then ((impl_ListOf.f kj6 ((t350 ++ (⟨#[44, 32]⟩ : ByteArray)) ++ t350)).bind fun bt356 => (if t355 = true then (if t354.toList = t349.toList then (if bt356.2 = true then (if (bt356.1.length : Int) = 2 then (if 0 < (bt356.1.length : Int) then (if (rdOf ByteArray.empty bt356.1 0).toList = t350.toList then (if 1 < (bt356.1.length : Int) then (if (rdOf ByteArray.empty bt356.1 1).toList = t350.toList then (laws_FnQuoted.j1 kj6 l1) else (some false)) else (none)) else (some false)) else (none)) else (some false)) else (laws_FnQuoted.j1 kj6 l1)) else (some false)) else (some false))) else (none)) else (none)) = some r := H
       have A14 := Aside0.mk A140
       clear A140
       by_cases c15 : t350.size + 2 ≤ 9223372036854775807
       ·rw [if_pos c15] at H
        have c15b0 := eq_true c15
        have c15b1 : decide (t350.size + 2 ≤ 9223372036854775807) = true := decide_eq_true c15
        try have c15b2 : (9223372036854775807 < t350.size + 2) = False := eq_false (Nat.not_lt.2 c15)
        by_cases c16 : (t350 ++ (⟨#[44, 32]⟩ : ByteArray)).size + t350.size ≤ 9223372036854775807
        ·rw [if_pos c16] at H
         have c16b0 := eq_true c16
         have c16b1 : decide ((t350 ++ (⟨#[44, 32]⟩ : ByteArray)).size + t350.size ≤ 9223372036854775807) = true := decide_eq_true c16
         try have c16b2 : (9223372036854775807 < (t350 ++ (⟨#[44, 32]⟩ : ByteArray)).size + t350.size) = False := eq_false (Nat.not_lt.2 c16)
         try have c16b3 : (9223372036854775807 < t350.size + 2 + t350.size) = False := eq_false (Nat.not_lt.2 (by have z_ := c16; simp only [ByteArray.size_append] at z_; exact z_))
         replace H := Option.bind_eq_some_iff.mp H
         obtain ⟨⟨t356, t357⟩, A170, H⟩ := H
         replace H : (if t355 = true then (if t354.toList = t349.toList then (if t357 = true then (if (t356.length : Int) = 2 then (if 0 < (t356.length : Int) then (if (rdOf ByteArray.empty t356 0).toList = t350.toList then (if 1 < (t356.length : Int) then (if (rdOf ByteArray.empty t356 1).toList = t350.toList then (laws_FnQuoted.j1 kj6 l1) else (some false)) else (none)) else (some false)) else (none)) else (some false)) else (laws_FnQuoted.j1 kj6 l1)) else (some false)) else (some false)) = some r := H
         have A17 := Aside0.mk A170
         clear A170
         by_cases c18 : t355 = true
         ·subst c18
          have H1 : (if t354.toList = t349.toList then (if t357 = true then (if (t356.length : Int) = 2 then (if 0 < (t356.length : Int) then (if (rdOf ByteArray.empty t356 0).toList = t350.toList then (if 1 < (t356.length : Int) then (if (rdOf ByteArray.empty t356 1).toList = t350.toList then (laws_FnQuoted.j1 kj6 l1) else (some false)) else (none)) else (some false)) else (none)) else (some false)) else (laws_FnQuoted.j1 kj6 l1)) else (some false)) = some r := by rw [if_pos rfl] at H; exact H
          clear H
          have H := H1
          clear H1
          by_cases c19 : t354.toList = t349.toList
          ·rw [if_pos c19] at H
           have c19b0 : (t354.toList == t349.toList) = true := beq_iff_eq.mpr c19
           have c19b1 : (t354.toList != t349.toList) = false := bne_eq_false_iff_eq.mpr c19
           clear c19
           (first | rw [c19b0] | (simp only [i64_w, i32_w]; rw [c19b0]) | skip)
           by_cases c20 : t357 = true
           ·subst c20
            have H1 : (if (t356.length : Int) = 2 then (if 0 < (t356.length : Int) then (if (rdOf ByteArray.empty t356 0).toList = t350.toList then (if 1 < (t356.length : Int) then (if (rdOf ByteArray.empty t356 1).toList = t350.toList then (laws_FnQuoted.j1 kj6 l1) else (some false)) else (none)) else (some false)) else (none)) else (some false)) = some r := by rw [if_pos rfl] at H; exact H
            clear H
            have H := H1
            clear H1
            by_cases c21 : (t356.length : Int) = 2
            ·rw [if_pos c21] at H
             have c21b0 : ((t356.length : Int) == 2) = true := beq_iff_eq.mpr c21
             have c21b1 : ((t356.length : Int) != 2) = false := bne_eq_false_iff_eq.mpr c21
             clear c21
             by_cases c22 : 0 < (t356.length : Int)
             ·rw [if_pos c22] at H
              have c22b0 : decide (0 < (t356.length : Int)) = true := decide_eq_true c22
              have c22b1 : decide (0 < t356.length) = true := decide_eq_true (by omega)
              clear c22
              by_cases c23 : (rdOf ByteArray.empty t356 0).toList = t350.toList
              ·rw [if_pos c23] at H
               have c23b0 : ((rdOf ByteArray.empty t356 0).toList == t350.toList) = true := beq_iff_eq.mpr c23
               have c23b1 : ((rdOf ByteArray.empty t356 0).toList != t350.toList) = false := bne_eq_false_iff_eq.mpr c23
               clear c23
               by_cases c24 : 1 < (t356.length : Int)
               ·rw [if_pos c24] at H
                have c24b0 : decide (1 < (t356.length : Int)) = true := decide_eq_true c24
                have c24b1 : decide (1 < t356.length) = true := decide_eq_true (by omega)
                clear c24
                by_cases c25 : (rdOf ByteArray.empty t356 1).toList = t350.toList
                ·rw [if_pos c25] at H
                 have c25b0 : ((rdOf ByteArray.empty t356 1).toList == t350.toList) = true := beq_iff_eq.mpr c25
                 have c25b1 : ((rdOf ByteArray.empty t356 1).toList != t350.toList) = false := bne_eq_false_iff_eq.mpr c25
                 clear c25
                 have H' := Aside0.mk H
                 clear H
                 go_wp2_with (first | (go_at_call 7; (with_reducible refine (impl_UnquoteOf.calls kj6 t350 t354 true _ A14.out).mono ?_); rintro e w26 ⟨rfl, hb⟩; replace HB := xws_ HB hb; (try clear hb); (try clear hb2); (try clear hk); (try clear hi)) | (go_at_call 8; (with_reducible refine (impl_ListOf.calls kj6 ((t350 ++ (⟨#[44, 32]⟩ : ByteArray)) ++ t350) t356 true _ A17.out).mono ?_); rintro e w27 ⟨v358, rfl, ho0, hb⟩; have HO359 := Aside0.mk (Kd.R_lower ho0 (below_size (xw_ HB))); replace HB := xws_ HB hb; (try clear hb); (try clear hb2); (try clear hk); (try clear hi); (try clear ho0); obtain ⟨Ao28, co28, eo28⟩ := Kd.R_slice HO359.out; subst eo28; have p360 : 0 ≤ (0 : Int) := (by omega); have q360 : 0 < (t356.length : Int) := of_decide_eq_true (by first | (with_reducible assumption) | assumption); obtain ⟨ad360, e360, hx360_0⟩ := Kd.at_string (Kd.R_reads' HO359.out).2.2 0 p360 q360; cases e360; have qi360 : (0 < t356.length) = True := eq_true (by omega); (try rw [show ((0 : Int)).toNat = 0 from rfl] at hx360_0); (try rw [Addr.add_zero'] at hx360_0); replace p360 := eq_true p360; replace q360 := eq_true q360; have p361 : 0 ≤ (1 : Int) := (by omega); have q361 : 1 < (t356.length : Int) := of_decide_eq_true (by first | (with_reducible assumption) | assumption); obtain ⟨ad361, e361, hx361_0⟩ := Kd.at_string (Kd.R_reads' HO359.out).2.2 1 p361 q361; obtain rfl : ad360 = ad361 := (by injection e361); (try simp only [show (1 : Int).toNat = 1 from rfl, Nat.reduceMul, Nat.reduceEqDiff, Go.Addr.add, ↓reduceIte] at hx361_0); have qi361 : (1 < t356.length) = True := eq_true (by omega); (try rw [show ((1 : Int)).toNat = 1 from rfl] at hx361_0); replace p361 := eq_true p361; replace q361 := eq_true q361))
                 repeat ((try simp only [List.append_eq, List.cons_append, List.nil_append, List.append]); go_quiet (first | (go_at_call 7; (with_reducible refine (impl_UnquoteOf.calls kj6 t350 t354 true _ A14.out).mono ?_); rintro e w26 ⟨rfl, hb⟩; replace HB := xws_ HB hb; (try clear hb); (try clear hb2); (try clear hk); (try clear hi)) | (go_at_call 8; (with_reducible refine (impl_ListOf.calls kj6 ((t350 ++ (⟨#[44, 32]⟩ : ByteArray)) ++ t350) t356 true _ A17.out).mono ?_); rintro e w27 ⟨v358, rfl, ho0, hb⟩; have HO359 := Aside0.mk (Kd.R_lower ho0 (below_size (xw_ HB))); replace HB := xws_ HB hb; (try clear hb); (try clear hb2); (try clear hk); (try clear hi); (try clear ho0); obtain ⟨Ao28, co28, eo28⟩ := Kd.R_slice HO359.out; subst eo28; have p360 : 0 ≤ (0 : Int) := (by omega); have q360 : 0 < (t356.length : Int) := of_decide_eq_true (by first | (with_reducible assumption) | assumption); obtain ⟨ad360, e360, hx360_0⟩ := Kd.at_string (Kd.R_reads' HO359.out).2.2 0 p360 q360; cases e360; have qi360 : (0 < t356.length) = True := eq_true (by omega); (try rw [show ((0 : Int)).toNat = 0 from rfl] at hx360_0); (try rw [Addr.add_zero'] at hx360_0); replace p360 := eq_true p360; replace q360 := eq_true q360; have p361 : 0 ≤ (1 : Int) := (by omega); have q361 : 1 < (t356.length : Int) := of_decide_eq_true (by first | (with_reducible assumption) | assumption); obtain ⟨ad361, e361, hx361_0⟩ := Kd.at_string (Kd.R_reads' HO359.out).2.2 1 p361 q361; obtain rfl : ad360 = ad361 := (by injection e361); (try simp only [show (1 : Int).toNat = 1 from rfl, Nat.reduceMul, Nat.reduceEqDiff, Go.Addr.add, ↓reduceIte] at hx361_0); have qi361 : (1 < t356.length) = True := eq_true (by omega); (try rw [show ((1 : Int)).toNat = 1 from rfl] at hx361_0); replace p361 := eq_true p361; replace q361 := eq_true q361)); try go_wp2_with (first | (go_at_call 7; (with_reducible refine (impl_UnquoteOf.calls kj6 t350 t354 true _ A14.out).mono ?_); rintro e w26 ⟨rfl, hb⟩; replace HB := xws_ HB hb; (try clear hb); (try clear hb2); (try clear hk); (try clear hi)) | (go_at_call 8; (with_reducible refine (impl_ListOf.calls kj6 ((t350 ++ (⟨#[44, 32]⟩ : ByteArray)) ++ t350) t356 true _ A17.out).mono ?_); rintro e w27 ⟨v358, rfl, ho0, hb⟩; have HO359 := Aside0.mk (Kd.R_lower ho0 (below_size (xw_ HB))); replace HB := xws_ HB hb; (try clear hb); (try clear hb2); (try clear hk); (try clear hi); (try clear ho0); obtain ⟨Ao28, co28, eo28⟩ := Kd.R_slice HO359.out; subst eo28; have p360 : 0 ≤ (0 : Int) := (by omega); have q360 : 0 < (t356.length : Int) := of_decide_eq_true (by first | (with_reducible assumption) | assumption); obtain ⟨ad360, e360, hx360_0⟩ := Kd.at_string (Kd.R_reads' HO359.out).2.2 0 p360 q360; cases e360; have qi360 : (0 < t356.length) = True := eq_true (by omega); (try rw [show ((0 : Int)).toNat = 0 from rfl] at hx360_0); (try rw [Addr.add_zero'] at hx360_0); replace p360 := eq_true p360; replace q360 := eq_true q360; have p361 : 0 ≤ (1 : Int) := (by omega); have q361 : 1 < (t356.length : Int) := of_decide_eq_true (by first | (with_reducible assumption) | assumption); obtain ⟨ad361, e361, hx361_0⟩ := Kd.at_string (Kd.R_reads' HO359.out).2.2 1 p361 q361; obtain rfl : ad360 = ad361 := (by injection e361); (try simp only [show (1 : Int).toNat = 1 from rfl, Nat.reduceMul, Nat.reduceEqDiff, Go.Addr.add, ↓reduceIte] at hx361_0); have qi361 : (1 < t356.length) = True := eq_true (by omega); (try rw [show ((1 : Int)).toNat = 1 from rfl] at hx361_0); replace p361 := eq_true p361; replace q361 := eq_true q361)))
                 go_meet
                 case rel => exact ⟨_, H', ⟨by have := HJ6.out; first | omega | exact Nat.le_refl _⟩, ⟨xw_ HB⟩⟩
                ·rw [if_neg c25] at H
                 have c25b0 : ((rdOf ByteArray.empty t356 1).toList == t350.toList) = false := beq_eq_false_iff_ne.mpr c25
                 have c25b1 : ((rdOf ByteArray.empty t356 1).toList != t350.toList) = true := bne_iff_ne.mpr c25
                 exact absurd ((Option.some.inj H).trans HT.out) Bool.false_ne_true
               ·rw [if_neg c24] at H
                exact absurd H (by simp)
              ·rw [if_neg c23] at H
               have c23b0 : ((rdOf ByteArray.empty t356 0).toList == t350.toList) = false := beq_eq_false_iff_ne.mpr c23
               have c23b1 : ((rdOf ByteArray.empty t356 0).toList != t350.toList) = true := bne_iff_ne.mpr c23
               exact absurd ((Option.some.inj H).trans HT.out) Bool.false_ne_true
             ·rw [if_neg c22] at H
              exact absurd H (by simp)
            ·rw [if_neg c21] at H
             have c21b0 : ((t356.length : Int) == 2) = false := beq_eq_false_iff_ne.mpr c21
             have c21b1 : ((t356.length : Int) != 2) = true := bne_iff_ne.mpr c21
             exact absurd ((Option.some.inj H).trans HT.out) Bool.false_ne_true
           ·replace c20 := Bool.eq_false_iff.mpr c20
            subst c20
            have H1 : (laws_FnQuoted.j1 kj6 l1) = some r := by rw [if_neg (show ¬ (false = true) by decide)] at H; exact H
            clear H
            have H := H1
            clear H1
            have H' := Aside0.mk H
            clear H
            go_wp2_with (first | (go_at_call 7; (with_reducible refine (impl_UnquoteOf.calls kj6 t350 t354 true _ A14.out).mono ?_); rintro e w38 ⟨rfl, hb⟩; replace HB := xws_ HB hb; (try clear hb); (try clear hb2); (try clear hk); (try clear hi)) | (go_at_call 8; (with_reducible refine (impl_ListOf.calls kj6 ((t350 ++ (⟨#[44, 32]⟩ : ByteArray)) ++ t350) t356 false _ A17.out).mono ?_); rintro e w39 ⟨v358, rfl, ho0, hb⟩; have HO359 := Aside0.mk (Kd.R_lower ho0 (below_size (xw_ HB))); replace HB := xws_ HB hb; (try clear hb); (try clear hb2); (try clear hk); (try clear hi); (try clear ho0)))
            repeat ((try simp only [List.append_eq, List.cons_append, List.nil_append, List.append]); go_quiet (first | (go_at_call 7; (with_reducible refine (impl_UnquoteOf.calls kj6 t350 t354 true _ A14.out).mono ?_); rintro e w38 ⟨rfl, hb⟩; replace HB := xws_ HB hb; (try clear hb); (try clear hb2); (try clear hk); (try clear hi)) | (go_at_call 8; (with_reducible refine (impl_ListOf.calls kj6 ((t350 ++ (⟨#[44, 32]⟩ : ByteArray)) ++ t350) t356 false _ A17.out).mono ?_); rintro e w39 ⟨v358, rfl, ho0, hb⟩; have HO359 := Aside0.mk (Kd.R_lower ho0 (below_size (xw_ HB))); replace HB := xws_ HB hb; (try clear hb); (try clear hb2); (try clear hk); (try clear hi); (try clear ho0))); try go_wp2_with (first | (go_at_call 7; (with_reducible refine (impl_UnquoteOf.calls kj6 t350 t354 true _ A14.out).mono ?_); rintro e w38 ⟨rfl, hb⟩; replace HB := xws_ HB hb; (try clear hb); (try clear hb2); (try clear hk); (try clear hi)) | (go_at_call 8; (with_reducible refine (impl_ListOf.calls kj6 ((t350 ++ (⟨#[44, 32]⟩ : ByteArray)) ++ t350) t356 false _ A17.out).mono ?_); rintro e w39 ⟨v358, rfl, ho0, hb⟩; have HO359 := Aside0.mk (Kd.R_lower ho0 (below_size (xw_ HB))); replace HB := xws_ HB hb; (try clear hb); (try clear hb2); (try clear hk); (try clear hi); (try clear ho0))))
            go_meet
            case rel => exact ⟨_, H', ⟨by have := HJ6.out; first | omega | exact Nat.le_refl _⟩, ⟨xw_ HB⟩⟩
          ·rw [if_neg c19] at H
           have c19b0 : (t354.toList == t349.toList) = false := beq_eq_false_iff_ne.mpr c19
           have c19b1 : (t354.toList != t349.toList) = true := bne_iff_ne.mpr c19
           (first | rw [c19b0] | (simp only [i64_w, i32_w]; rw [c19b0]) | skip)
           exact absurd ((Option.some.inj H).trans HT.out) Bool.false_ne_true
         ·replace c18 := Bool.eq_false_iff.mpr c18
          subst c18
          have H1 : (some false) = some r := by rw [if_neg (show ¬ (false = true) by decide)] at H; exact H
          clear H
          have H := H1
          clear H1
          exact absurd ((Option.some.inj H).trans HT.out) Bool.false_ne_true
        ·rw [if_neg c16] at H
         exact absurd H (by simp)
       ·rw [if_neg c15] at H
        exact absurd H (by simp)
      ·replace c13 := Bool.eq_false_iff.mpr c13
       subst c13
       have H1 : (laws_FnQuoted.j1 kj6 l1) = some r := by rw [if_neg (show ¬ (false = true) by decide)] at H; exact H
       clear H
       have H := H1
       clear H1
       have H' := Aside0.mk H
       clear H
       go_wp2
       repeat ((try simp only [List.append_eq, List.cons_append, List.nil_append, List.append]); go_quiet (fail); try go_wp2)
       go_meet
       case rel => exact ⟨_, H', ⟨by have := HJ6.out; first | omega | exact Nat.le_refl _⟩, ⟨xw_ HB⟩⟩
     case rest =>
      clear HC12
      try clear c1
      try clear c2
      try clear p2
      try clear c3
      try clear c3b0
      try clear p3
      try clear q3
      try clear hx3
      try clear qi3
      try clear p6
      try clear c10
      try clear c10b0
      try clear c10b1
      try clear c10b2
      try clear c11
      try clear c13
      try clear c15
      try clear c15b0
      try clear c15b1
      try clear c15b2
      try clear c16
      try clear c16b0
      try clear c16b1
      try clear c16b2
      try clear c18
      try clear c19
      try clear c19b0
      try clear c19b1
      try clear c20
      try clear c21
      try clear c21b0
      try clear c21b1
      try clear c22
      try clear c22b0
      try clear c22b1
      try clear c23
      try clear c23b0
      try clear c23b1
      try clear c24
      try clear c24b0
      try clear c24b1
      try clear c25
      try clear c25b0
      try clear c25b1
      try clear p36
      try clear q36
      try clear hx36
      try clear qi36
      try clear hx360_0
      try clear hx361_0
      try clear p2
      try clear p360
      try clear p361
      try clear p6
      try clear q360
      try clear q361
      obtain ⟨kq, HA, HJ11, HB⟩ := hcut
      rename_i zcalls0_0 zcalls0_1 zcalls0_2 zcalls0_3 zcalls0_4 zcalls0_5 zcalls0_6 zcalls0_7 zcalls0_8 zcalls0_9 zcalls0_10 zcalls0_11 zcalls0_12 zcalls0_13 zcalls0_14 zcalls0_15 zcalls0_16 zcalls0_17 zcalls0_18 zcalls0_19 zcalls0_20 zcalls0_21 zcalls0_22 zcalls0_23 zcalls0_24 zcalls0_25 zcalls0_26 zcalls0_27 zcalls0_28 zcalls0_29 zcalls0_30 zcalls0_31 zcalls0_32 zcalls0_33 zcalls0_34 zcalls0_35 zcalls0_36 zcalls0_37 zcalls0_38 zcalls0_39 zcalls0_40 zcalls0_41 zcalls0_42 zcalls0_43 zcalls0_44 zcalls0_45 zcalls0_46 zcalls0_47 zcalls0_48 zcalls0_49 zcalls0_50 zcalls0_51 zcalls0_52 zcalls0_53 zcalls0_54 zcalls0_55 zcalls0_56 zcalls0_57 zcalls0_58 zcalls0_59 zcalls0_60 zcalls0_61 zcalls0_62 zcalls0_63 zcalls0_64 zcalls0_65 zcalls0_66 zcalls0_67 zcalls0_68 zcalls0_69 zcalls0_70 zcalls0_71 zcalls0_72 zcalls0_73 zcalls0_74 zcalls0_75 zcalls0_76 zcalls0_77 zcalls0_78 zcalls0_79 zcalls0_80 zcalls0_81 zcalls0_82 zcalls0_83 zcalls0_84 zcalls0_85 zcalls0_86 zcalls0_87 zcalls0_88 zcalls0_89 zcalls0_90 zcalls0_91 zcalls0_92 zcalls0_93 zcalls0_94 zcalls0_95 zcalls0_96 zcalls0_97 zcalls0_98 zcalls0_99 zcalls0_100 zcalls0_101 zcalls0_102 zcalls0_103 zcalls0_104 zcalls0_105 zcalls0_106 zcalls0_107 zcalls0_108 zcalls0_109 zcalls0_110 zcalls0_111 zcalls0_112 zcalls0_113 zcalls0_114 zcalls0_115 zcalls0_116 zcalls0_117 zcalls0_118 zcalls0_119 zcalls0_120 zcalls0_121 zcalls0_122 zcalls0_123 zcalls0_124 zcalls0_125 zcalls0_126 zcalls0_127 zcalls0_128 zcalls0_129 zcalls0_130 zcalls0_131 zcalls0_132 zcalls0_133 zcalls0_134 zcalls0_135 zcalls0_136 zcalls0_137 zcalls0_138 zcalls0_139 zcalls0_140 zcalls0_141 zcalls0_142 zcalls0_143 zcalls0_144 zcalls0_145 zcalls0_146 zcalls0_147 zcalls0_148 zcalls0_149 zcalls0_150 zcalls0_151 zcalls0_152 zcalls0_153 zcalls0_154 zcalls0_155 zcalls0_156 zcalls0_157 zcalls0_158 zcalls0_159 zcalls0_160 zcalls0_161 zcalls0_162 zcalls0_163 zcalls0_164 zcalls0_165 zcalls0_166 zcalls0_167 zcalls0_168 zcalls0_169 zcalls0_170 zcalls0_171 zcalls0_172 zcalls0_173 zcalls0_174 zcalls0_175 zcalls0_176 zcalls0_177 zcalls0_178 zcalls0_179 zcalls0_180 zcalls0_181 zcalls0_182 zcalls0_183 zcalls0_184 zcalls0_185 zcalls0_186
      revert HT hu31 HR0 HC0 HR1 HC1 t349 A4 t350 t351 A5 t352 t353 A6 zcalls0_0 w8 w9 zcalls0_1 nd zcalls0_2 zcalls0_3 zcalls0_4 zcalls0_5 zcalls0_6 zcalls0_7 zcalls0_8 zcalls0_9 zcalls0_10 zcalls0_11 zcalls0_12 zcalls0_13 zcalls0_14 zcalls0_15 zcalls0_16 zcalls0_17 zcalls0_18 zcalls0_19 zcalls0_20 zcalls0_21 zcalls0_22 zcalls0_23 zcalls0_24 zcalls0_25 zcalls0_26 zcalls0_27 zcalls0_28 zcalls0_29 zcalls0_30 zcalls0_31 zcalls0_32 zcalls0_33 zcalls0_34 zcalls0_35 zcalls0_36 zcalls0_37 zcalls0_38 zcalls0_39 zcalls0_40 zcalls0_41 zcalls0_42 zcalls0_43 zcalls0_44 zcalls0_45 zcalls0_46 zcalls0_47 zcalls0_48 zcalls0_49 zcalls0_50 zcalls0_51 zcalls0_52 zcalls0_53 zcalls0_54 zcalls0_55 zcalls0_56 zcalls0_57 zcalls0_58 zcalls0_59 zcalls0_60 zcalls0_61 zcalls0_62 zcalls0_63 zcalls0_64 zcalls0_65 zcalls0_66 zcalls0_67 zcalls0_68 zcalls0_69 zcalls0_70 zcalls0_71 zcalls0_72 zcalls0_73 zcalls0_74 zcalls0_75 zcalls0_76 zcalls0_77 zcalls0_78 zcalls0_79 zcalls0_80 zcalls0_81 zcalls0_82 zcalls0_83 zcalls0_84 zcalls0_85 zcalls0_86 zcalls0_87 zcalls0_88 zcalls0_89 zcalls0_90 zcalls0_91 zcalls0_92 zcalls0_93 zcalls0_94 zcalls0_95 zcalls0_96 zcalls0_97 zcalls0_98 zcalls0_99 zcalls0_100 zcalls0_101 zcalls0_102 zcalls0_103 zcalls0_104 zcalls0_105 zcalls0_106 zcalls0_107 zcalls0_108 zcalls0_109 zcalls0_110 zcalls0_111 zcalls0_112 zcalls0_113 zcalls0_114 zcalls0_115 zcalls0_116 zcalls0_117 zcalls0_118 zcalls0_119 zcalls0_120 zcalls0_121 zcalls0_122 zcalls0_123 zcalls0_124 zcalls0_125 zcalls0_126 zcalls0_127 zcalls0_128 zcalls0_129 zcalls0_130 zcalls0_131 zcalls0_132 zcalls0_133 zcalls0_134 zcalls0_135 zcalls0_136 zcalls0_137 zcalls0_138 zcalls0_139 zcalls0_140 zcalls0_141 zcalls0_142 zcalls0_143 zcalls0_144 zcalls0_145 zcalls0_146 zcalls0_147 zcalls0_148 zcalls0_149 zcalls0_150 zcalls0_151 zcalls0_152 zcalls0_153 zcalls0_154 zcalls0_155 zcalls0_156 zcalls0_157 zcalls0_158 zcalls0_159 zcalls0_160 zcalls0_161 zcalls0_162 zcalls0_163 zcalls0_164 zcalls0_165 zcalls0_166 zcalls0_167 zcalls0_168 zcalls0_169 zcalls0_170 zcalls0_171 zcalls0_172 zcalls0_173 zcalls0_174 zcalls0_175 zcalls0_176 zcalls0_177 zcalls0_178 zcalls0_179 zcalls0_180 zcalls0_181 zcalls0_182 zcalls0_183 zcalls0_184 kj6 HJ6 zcalls0_185 zcalls0_186 wc u4 u10 u11 u12 u13 u32 u33 u34 u35 u36 u37 u38 u39 u40 u41 u42 u43 u44 u45 u46 u47 u48 u49 u50 u51 u52 u53 u54 u55 u56 u57 u58 u59 u60 u61 u62 u63 u64 u65 u66 u67 u68 u69 u70 u71 u72 u73 u74 u75 u76 u77 u78 u79 u80 u81 u82 u83 u84 u85 u86 u87 u88 u89 u90 u91 u92 u93 u94 u95 u96 u97 u98 u99 u100 u101 u102 u103 u104 u105 u106 u107 u108 u109 u110 u111 u112 u113 u114 u115 u116 u117 u118 u119 u120 u121 u122 u123 u124 u125 u126 u127 u128 u129 u130 u131 u132 u133 u134 u135 u136 u137 u138 u139 u140 u141 u142 u143 u144 u145 u146 u147 u148 u149 u150 u151 u152 u153 u154 u155 u156 u157 u158 u159 u160 u161 u162 u163 u164 u165 u166 u167 u168 u169 u170 u174 u175 u176 u177 u178 u179 u180 u181 u182 u183 u184 u185 u186 u187 u188 u189 u190 u191 u192 u193 u194 u195 u196 u197 u198 u199 u200 u201 u202 u203 u204 u205 u206 u207 u208 u209 u210 u211 u212 u213 u214 u215 u216 kq HA HJ11 HB
      exact hT0.out
end Go.Proofs.YtjkpomphkfecmaaDoor.PFnQuoted
