-- Written by a program of this project (xprint.py) out of the translation; Lean checks it.
import Derived.Test.YtemeajidcggniaaPFnSketchx0
import Derived.Test.YtemeajidcggniaaPFnSketchx1
import Derived.Test.YtemeajidcggniaaPFnSketchx2
import Derived.Test.YtemeajidcggniaaPFnSketchx5
import Derived.Test.YtemeajidcggniaaPFnSketchx6
import Derived.Test.YtemeajidcggniaaPFnSketchx7
import Derived.Test.YtemeajidcggniaaPFnSketchx8
namespace Go.Proofs.Ytemeajidcggniaa.PFnSketch
open Go.RowKit Go.Proofs.YtemeajidcggniaaW.PrintWords Go.Proofs.YtemeajidcggniaaW.PrintLast Go.Proofs.YtemeajidcggniaaW.PrintMore
attribute [local go_sem] max2_int min2_int max_two min_two max_three min_three max_four min_four   -- for this text's walks alone
set_option linter.unusedVariables false
set_option linter.unusedSimpArgs false

structure laws_FnSketch.calls2_0Kept (p : Prop) : Prop where
  out : p
set_option maxHeartbeats 8000000 in
set_option maxRecDepth 100000 in
noncomputable def laws_FnSketch.calls2_01 : PSigma (fun T0 : (∀ (k : Nat) (A0 : Option Addr) (c0 : Nat) (l0 : List Int) (A1 : Option Addr) (c1 : Nat) (l1 : List Int) (r : Bool) (w : World), Prop) => ∀ (k : Nat) (A0 : Option Addr) (c0 : Nat) (l0 : List Int) (A1 : Option Addr) (c1 : Nat) (l1 : List Int) (r : Bool) (w : World), laws_FnSketch.calls2_0Kept (T0 k A0 c0 l0 A1 c1 l1 r w) → laws_FnSketch.calls1.1 k A0 c0 l0 A1 c1 l1 r w) := by
 apply PSigma.mk
 intro k A0 c0 l0 A1 c1 l1 r w hT0
 conv => whnf
 intro hu25 HR0 HC0 HR1 HC1 c3b0 t282 t285 t286 t287 A4 t289 t292 t293 A5 t295 t298 t299 A6 zz0_0 w8 gb288 w9 GW288 GE288 Ao10 co10 zz0_1 hcz11_0 hcz11_1 hfz11_0 hfz11_1 w12 gb294 w13 GW294 GE294 NB288_294 NB294_288 Ao14 co14 hnb15 hnc15 hcz16_0 hcz16_1 hfz16_0 hfz16_1 hcz17_0 hcz17_1 hfz17_0 hfz17_1 w18 gb300 w19 zz0_2 GW300 GE300 zz0_3 NB288_300 NB300_288 zz0_4 NB294_300 NB300_294 zz0_5 Ao20 co20 HO284 HO291 HO297 hnb21 hnc21 hnb22 hnc22 hcz23_0 hcz23_1 hfz23_0 hfz23_1 zz0_6 zz0_7 zz0_8 zz0_9 wc u16 u35 u36 u37 u38 u39 u40 u41 u42 u43 u44 u45 u46 u47 u48 u49 u50 u51 u52 u53 u54 u55 u56 u57 u58 u59 u60 u61 u62 u63 u64 u65 u66 u67 u68 u69 u70 u71 u72 u73 u74 u75 u77 u78 u79 u80 u81 u82 u83 u84 u85 u86 u87 u88 u89 u90 u91 u92 u93 u94 u95 u96 u97 u98 u99 u100 u101 u102 u103 u104 u105 u106 u107 u108 u109 u110 u111 u112 u113 u114 u115 u116 u117 u118 u119 u120 u121 u122 u123 u124 u125 u126 u127 u128 u129 u130 u131 u132 u133 u134 u135 u136 u137 u138 u139 u140 u141 u142 u143 u144 u145 u146 u147 u148 u149 u150 u151 u152 u153 u154 u155 u156 u157 u158 u159 u160 u161 u162 u163 u164 u168 u169 u170 u171 u172 u173 u174 u175 u176 u177 u178 u179 u180 u181 u182 u183 u184 u185 u186 u187 u188 u189 u190 u191 u192 u193 u194 u195 u196 u197 u201 u202 u203 u204 u205 u206 u207 u208 u209 u210 u211 u212 u213 u214 u215 u216 u217 u218 u219 u220 u221 u222 u223 u224 u225 u226 u227 u228 u229 kq x76_6 HA HJ6 HO_289000 HO_295000 HO_301000 BK288 BK294 BK300 HB
 cases kq with
 | zero => exact absurd HA.out (by simp [laws_FnSketch.j0])
 | succ kj6 =>
  have H := HA.out
  clear HA
  simp only [laws_FnSketch.j0] at H
  by_cases c39 : x76_6 = true
  ·subst c39
   have H1 : (some false) = some r := by rw [if_pos rfl] at H; exact H
   clear H
   have H := H1
   clear H1
   obtain rfl := Option.some.inj H
   go_wp2
   go_ret
   exact ⟨by first | rfl | (simp [errW_none, errW_some] <;> rfl) | (simp [*, errW_none, errW_some] <;> rfl), xw_ HB⟩
  ·replace c39 := Bool.eq_false_iff.mpr c39
   subst c39
   have H1 : (if t293 = true then ((impl_EstimateOf.f kj6 t282 t285 t286).bind fun bt304 => ((impl_EstimateOf.f kj6 t289 t292 t286).bind fun bt306 => ((spec_DrawEstimateOf.f kj6 l1).bind fun bt308 => ((impl_EstimateOf.f kj6 t282 t285 bt308.2.2).bind fun bt314 => ((impl_EstimateOf.f kj6 t289 t292 bt308.2.2).bind fun bt316 => (if bt304.2 = true then (if bt306.2 = true then (if bt306.1 = (wrap64 (bt304.1 + t287)) then (if bt306.1 > t292 then (laws_FnSketch.j1 kj6 l1 t286 bt306.1 bt308.2.2 bt314.2 bt316.1 true t289 t292) else (if (bt314.2 != bt316.2) = true then (laws_FnSketch.j1 kj6 l1 t286 bt306.1 bt308.2.2 bt314.2 bt316.1 true t289 t292) else (if bt316.1 < bt314.1 then (laws_FnSketch.j1 kj6 l1 t286 bt306.1 bt308.2.2 bt314.2 bt316.1 true t289 t292) else (laws_FnSketch.j1 kj6 l1 t286 bt306.1 bt308.2.2 bt314.2 bt316.1 (decide (bt316.1 > (wrap64 (bt314.1 + t287)))) t289 t292)))) else (laws_FnSketch.j1 kj6 l1 t286 bt306.1 bt308.2.2 bt314.2 bt316.1 true t289 t292)) else (laws_FnSketch.j1 kj6 l1 t286 bt306.1 bt308.2.2 bt314.2 bt316.1 true t289 t292)) else (laws_FnSketch.j1 kj6 l1 t286 bt306.1 bt308.2.2 bt314.2 bt316.1 true t289 t292))))))) else (laws_FnSketch.j2 kj6 l1)) = some r := by rw [if_neg (show ¬ (false = true) by decide)] at H; exact H
   clear H
   have H := H1
   clear H1
   have HC40 := Aside0.mk H
   clear H
   go_upto_if 77 with (fail)
   go_cut [] (fun wc => ∃ (kq : Nat), Aside0 (laws_FnSketch.j2 kq l1 = some r) ∧ Aside0 (kq ≤ kj6) ∧ Aside0 (Kd.Q (Kd.int .i64) 3 wc w.heap.size (fun k_ => some k_ ≠ ((.slice Ao14 t289.length co14) : Value).ownBlock ∧ some k_ ≠ ((.slice Ao20 t295.length co20) : Value).ownBlock) (.slice Ao10 t282.length co10) t282) ∧ Aside0 (Kd.Q (Kd.int .i64) 3 wc w.heap.size (fun k_ => some k_ ≠ ((.slice Ao10 t282.length co10) : Value).ownBlock ∧ some k_ ≠ ((.slice Ao20 t295.length co20) : Value).ownBlock) (.slice Ao14 t289.length co14) t289) ∧ Aside0 (Kd.Q (Kd.int .i64) 3 wc w.heap.size (fun k_ => some k_ ≠ ((.slice Ao10 t282.length co10) : Value).ownBlock ∧ some k_ ≠ ((.slice Ao14 t289.length co14) : Value).ownBlock) (.slice Ao20 t295.length co20) t295) ∧ Aside0 (wc.heap[gb288]? = some (.cells #[(.slice Ao10 t282.length co10), .int .i64 t285] 25 (0, 0))) ∧ Aside0 (wc.heap[gb294]? = some (.cells #[(.slice Ao14 t289.length co14), .int .i64 t292] 25 (0, 0))) ∧ Aside0 (wc.heap[gb300]? = some (.cells #[(.slice Ao20 t295.length co20), .int .i64 t298] 25 (0, 0))) ∧ Aside0 (Below w.heap.size w wc))
   case first =>
    have H := HC40.out
    clear HC40
    by_cases c41 : t293 = true
    ·subst c41
     have H1 : ((impl_EstimateOf.f kj6 t282 t285 t286).bind fun bt304 => ((impl_EstimateOf.f kj6 t289 t292 t286).bind fun bt306 => ((spec_DrawEstimateOf.f kj6 l1).bind fun bt308 => ((impl_EstimateOf.f kj6 t282 t285 bt308.2.2).bind fun bt314 => ((impl_EstimateOf.f kj6 t289 t292 bt308.2.2).bind fun bt316 => (if bt304.2 = true then (if bt306.2 = true then (if bt306.1 = (wrap64 (bt304.1 + t287)) then (if bt306.1 > t292 then (laws_FnSketch.j1 kj6 l1 t286 bt306.1 bt308.2.2 bt314.2 bt316.1 true t289 t292) else (if (bt314.2 != bt316.2) = true then (laws_FnSketch.j1 kj6 l1 t286 bt306.1 bt308.2.2 bt314.2 bt316.1 true t289 t292) else (if bt316.1 < bt314.1 then (laws_FnSketch.j1 kj6 l1 t286 bt306.1 bt308.2.2 bt314.2 bt316.1 true t289 t292) else (laws_FnSketch.j1 kj6 l1 t286 bt306.1 bt308.2.2 bt314.2 bt316.1 (decide (bt316.1 > (wrap64 (bt314.1 + t287)))) t289 t292)))) else (laws_FnSketch.j1 kj6 l1 t286 bt306.1 bt308.2.2 bt314.2 bt316.1 true t289 t292)) else (laws_FnSketch.j1 kj6 l1 t286 bt306.1 bt308.2.2 bt314.2 bt316.1 true t289 t292)) else (laws_FnSketch.j1 kj6 l1 t286 bt306.1 bt308.2.2 bt314.2 bt316.1 true t289 t292))))))) = some r := by rw [if_pos rfl] at H; exact H
     clear H
     have H := H1
     clear H1
     replace H := Option.bind_eq_some_iff.mp H
     obtain ⟨⟨t304, t305⟩, A420, H⟩ := H
     replace H : ((impl_EstimateOf.f kj6 t289 t292 t286).bind fun bt306 => ((spec_DrawEstimateOf.f kj6 l1).bind fun bt308 => ((impl_EstimateOf.f kj6 t282 t285 bt308.2.2).bind fun bt314 => ((impl_EstimateOf.f kj6 t289 t292 bt308.2.2).bind fun bt316 => (if t305 = true then (if bt306.2 = true then (if bt306.1 = (wrap64 (t304 + t287)) then (if bt306.1 > t292 then (laws_FnSketch.j1 kj6 l1 t286 bt306.1 bt308.2.2 bt314.2 bt316.1 true t289 t292) else (if (bt314.2 != bt316.2) = true then (laws_FnSketch.j1 kj6 l1 t286 bt306.1 bt308.2.2 bt314.2 bt316.1 true t289 t292) else (if bt316.1 < bt314.1 then (laws_FnSketch.j1 kj6 l1 t286 bt306.1 bt308.2.2 bt314.2 bt316.1 true t289 t292) else (laws_FnSketch.j1 kj6 l1 t286 bt306.1 bt308.2.2 bt314.2 bt316.1 (decide (bt316.1 > (wrap64 (bt314.1 + t287)))) t289 t292)))) else (laws_FnSketch.j1 kj6 l1 t286 bt306.1 bt308.2.2 bt314.2 bt316.1 true t289 t292)) else (laws_FnSketch.j1 kj6 l1 t286 bt306.1 bt308.2.2 bt314.2 bt316.1 true t289 t292)) else (laws_FnSketch.j1 kj6 l1 t286 bt306.1 bt308.2.2 bt314.2 bt316.1 true t289 t292)))))) = some r := H
     have A42 := Aside0.mk A420
     clear A420
     replace H := Option.bind_eq_some_iff.mp H
     obtain ⟨⟨t306, t307⟩, A430, H⟩ := H
     replace H : ((spec_DrawEstimateOf.f kj6 l1).bind fun bt308 => ((impl_EstimateOf.f kj6 t282 t285 bt308.2.2).bind fun bt314 => ((impl_EstimateOf.f kj6 t289 t292 bt308.2.2).bind fun bt316 => (if t305 = true then (if t307 = true then (if t306 = (wrap64 (t304 + t287)) then (if t306 > t292 then (laws_FnSketch.j1 kj6 l1 t286 t306 bt308.2.2 bt314.2 bt316.1 true t289 t292) else (if (bt314.2 != bt316.2) = true then (laws_FnSketch.j1 kj6 l1 t286 t306 bt308.2.2 bt314.2 bt316.1 true t289 t292) else (if bt316.1 < bt314.1 then (laws_FnSketch.j1 kj6 l1 t286 t306 bt308.2.2 bt314.2 bt316.1 true t289 t292) else (laws_FnSketch.j1 kj6 l1 t286 t306 bt308.2.2 bt314.2 bt316.1 (decide (bt316.1 > (wrap64 (bt314.1 + t287)))) t289 t292)))) else (laws_FnSketch.j1 kj6 l1 t286 t306 bt308.2.2 bt314.2 bt316.1 true t289 t292)) else (laws_FnSketch.j1 kj6 l1 t286 t306 bt308.2.2 bt314.2 bt316.1 true t289 t292)) else (laws_FnSketch.j1 kj6 l1 t286 t306 bt308.2.2 bt314.2 bt316.1 true t289 t292))))) = some r := H
     have A43 := Aside0.mk A430
     clear A430
     replace H := Option.bind_eq_some_iff.mp H
     obtain ⟨⟨t308, t311, t312⟩, A440, H⟩ := H
     replace H : ((impl_EstimateOf.f kj6 t282 t285 t312).bind fun bt314 => ((impl_EstimateOf.f kj6 t289 t292 t312).bind fun bt316 => (if t305 = true then (if t307 = true then (if t306 = (wrap64 (t304 + t287)) then (if t306 > t292 then (laws_FnSketch.j1 kj6 l1 t286 t306 t312 bt314.2 bt316.1 true t289 t292) else (if (bt314.2 != bt316.2) = true then (laws_FnSketch.j1 kj6 l1 t286 t306 t312 bt314.2 bt316.1 true t289 t292) else (if bt316.1 < bt314.1 then (laws_FnSketch.j1 kj6 l1 t286 t306 t312 bt314.2 bt316.1 true t289 t292) else (laws_FnSketch.j1 kj6 l1 t286 t306 t312 bt314.2 bt316.1 (decide (bt316.1 > (wrap64 (bt314.1 + t287)))) t289 t292)))) else (laws_FnSketch.j1 kj6 l1 t286 t306 t312 bt314.2 bt316.1 true t289 t292)) else (laws_FnSketch.j1 kj6 l1 t286 t306 t312 bt314.2 bt316.1 true t289 t292)) else (laws_FnSketch.j1 kj6 l1 t286 t306 t312 bt314.2 bt316.1 true t289 t292)))) = some r := H
     have A44 := Aside0.mk A440
     clear A440
     replace H := Option.bind_eq_some_iff.mp H
     obtain ⟨⟨t314, t315⟩, A450, H⟩ := H
     replace H : ((impl_EstimateOf.f kj6 t289 t292 t312).bind fun bt316 => (if t305 = true then (if t307 = true then (if t306 = (wrap64 (t304 + t287)) then (if t306 > t292 then (laws_FnSketch.j1 kj6 l1 t286 t306 t312 t315 bt316.1 true t289 t292) else (if (t315 != bt316.2) = true then (laws_FnSketch.j1 kj6 l1 t286 t306 t312 t315 bt316.1 true t289 t292) else (if bt316.1 < t314 then (laws_FnSketch.j1 kj6 l1 t286 t306 t312 t315 bt316.1 true t289 t292) else (laws_FnSketch.j1 kj6 l1 t286 t306 t312 t315 bt316.1 (decide (bt316.1 > (wrap64 (t314 + t287)))) t289 t292)))) else (laws_FnSketch.j1 kj6 l1 t286 t306 t312 t315 bt316.1 true t289 t292)) else (laws_FnSketch.j1 kj6 l1 t286 t306 t312 t315 bt316.1 true t289 t292)) else (laws_FnSketch.j1 kj6 l1 t286 t306 t312 t315 bt316.1 true t289 t292))) = some r := H
     have A45 := Aside0.mk A450
     clear A450
     replace H := Option.bind_eq_some_iff.mp H
     obtain ⟨⟨t316, t317⟩, A460, H⟩ := H
     replace H : (if t305 = true then (if t307 = true then (if t306 = (wrap64 (t304 + t287)) then (if t306 > t292 then (laws_FnSketch.j1 kj6 l1 t286 t306 t312 t315 t316 true t289 t292) else (if (t315 != t317) = true then (laws_FnSketch.j1 kj6 l1 t286 t306 t312 t315 t316 true t289 t292) else (if t316 < t314 then (laws_FnSketch.j1 kj6 l1 t286 t306 t312 t315 t316 true t289 t292) else (laws_FnSketch.j1 kj6 l1 t286 t306 t312 t315 t316 (decide (t316 > (wrap64 (t314 + t287)))) t289 t292)))) else (laws_FnSketch.j1 kj6 l1 t286 t306 t312 t315 t316 true t289 t292)) else (laws_FnSketch.j1 kj6 l1 t286 t306 t312 t315 t316 true t289 t292)) else (laws_FnSketch.j1 kj6 l1 t286 t306 t312 t315 t316 true t289 t292)) = some r := H
     have A46 := Aside0.mk A460
     clear A460
     have HC47 := Aside0.mk H
     clear H
     have hnb48 := NB288_294.out
     have hnc48 := NB294_288.out
     have hnb49 := NB288_300.out
     have hnc49 := NB300_288.out
     have hcz50_0 : wc.cell? ⟨gb288, 0, none⟩ = some (.slice Ao10 t282.length co10) := xk_ BK288 0
     have hcz50_1 : wc.cell? ⟨gb288, 1, none⟩ = some (.int .i64 t285) := xk_ BK288 1
     have hfz50_0 := blk_frozen BK288.out 0
     have hfz50_1 := blk_frozen BK288.out 1
     go_upto_region 14 with (first | ((with_reducible refine gate_callee (f := 11) rfl ?_); refine xgl_ (some 81) Try.func11 #[.agg #[.slice Ao10 t282.length co10, .int .i64 t285], .string t286] ?_; (with_reducible refine (impl_EstimateOf.calls kj6 _ _ t282 t285 t286 t304 t305 _ ?side1 ?side2 A42.out).mono ?_); (case side1 => exact xc_ ((Kd.Q_reads' HO_289000.out).2.2)); (case side2 => exact (Kd.Q_reads' HO_289000.out).2.1); rintro e w51 ⟨rfl, hb⟩; refine ⟨_, rfl, ?_⟩; replace HO_289000 := xqb_ HO_289000 hb; replace HO_295000 := xqb_ HO_295000 hb; replace HO_301000 := xqb_ HO_301000 hb; replace BK288 := xbb_ BK288 hb; replace BK294 := xbb_ BK294 hb; replace BK300 := xbb_ BK300 hb; replace HB := xws_ HB hb; (try clear hb); (try clear hb2); (try clear hk); (try clear hi); have hnb52 := NB294_300.out; have hnc52 := NB300_294.out; have hcz53_0 : w51.cell? ⟨gb294, 0, none⟩ = some (.slice Ao14 t289.length co14) := xk_ BK294 0; have hcz53_1 : w51.cell? ⟨gb294, 1, none⟩ = some (.int .i64 t292) := xk_ BK294 1; have hfz53_0 := blk_frozen BK294.out 0; have hfz53_1 := blk_frozen BK294.out 1) | ((with_reducible refine gate_callee (f := 11) rfl ?_); refine xgl_ (some 87) Try.func11 #[.agg #[.slice Ao14 t289.length co14, .int .i64 t292], .string t286] ?_; (with_reducible refine (impl_EstimateOf.calls kj6 _ _ t289 t292 t286 t306 t307 _ ?side1 ?side2 A43.out).mono ?_); (case side1 => exact xc_ ((Kd.Q_reads' HO_295000.out).2.2)); (case side2 => exact (Kd.Q_reads' HO_295000.out).2.1); rintro e w54 ⟨rfl, hb⟩; refine ⟨_, rfl, ?_⟩; replace HO_289000 := xqb_ HO_289000 hb; replace HO_295000 := xqb_ HO_295000 hb; replace HO_301000 := xqb_ HO_301000 hb; replace BK288 := xbb_ BK288 hb; replace BK294 := xbb_ BK294 hb; replace BK300 := xbb_ BK300 hb; replace HB := xws_ HB hb; (try clear hb); (try clear hb2); (try clear hk); (try clear hi)) | ((with_reducible refine gate_callee (f := 12) rfl ?_); refine xgl_ (some 92) Try.func12 #[.slice A1 l1.length c1] ?_; (with_reducible refine (spec_DrawEstimateOf.calls kj6 _ _ l1 t308 t311 t312 _ ?side1 ?side2 A44.out).mono ?_); (case side1 => exact xc_ ((Kd.C_below HR1.out HB.out))); (case side2 => exact HC1.out); rintro e w55 ⟨v309, rfl, ho0, hb⟩; refine ⟨_, rfl, ?_⟩; have HO310 := Aside0.mk (Kd.Q_lower (Kd.Q_new' (Kd.Q_new' (Kd.Q_new' ho0 (Kd.Q_lt (xq_ HO_289000))) (Kd.Q_lt (xq_ HO_295000))) (Kd.Q_lt (xq_ HO_301000))) (below_size (xw_ HB))); replace HO_289000 := xqe_ HO_289000 (Kd.Q_base ho0) hb; replace HO_295000 := xqe_ HO_295000 (Kd.Q_base ho0) hb; replace HO_301000 := xqe_ HO_301000 (Kd.Q_base ho0) hb; replace BK288 := xbb_ BK288 hb; replace BK294 := xbb_ BK294 hb; replace BK300 := xbb_ BK300 hb; replace HB := xws_ HB hb; (try clear hb); (try clear hb2); (try clear hk); (try clear hi); (try clear ho0)) | ((with_reducible refine gate_dst (N := 16) rfl ?_); refine xbe_ (N := 16) (cs := #[.slice none 0 0, .int .i64 0]) (t := 25) ?_; intro gb313 hg w56 hbox hb; replace HO_289000 := xqb_ HO_289000 hb; replace HO_295000 := xqb_ HO_295000 hb; replace HO_301000 := xqb_ HO_301000 hb; replace HO310 := xqb_ HO310 hb; have BK313 := Aside0.mk (hbox); have GW313 := xge_ HB hg; have GE313 := xge_ HB hg; replace HB := xws_ HB hb; have NB288_313 := xlt_ BK288 hg; have NB313_288 := xgt_ BK288 hg; replace BK288 := xbb_ BK288 hb; have NB294_313 := xlt_ BK294 hg; have NB313_294 := xgt_ BK294 hg; replace BK294 := xbb_ BK294 hb; have NB300_313 := xlt_ BK300 hg; have NB313_300 := xgt_ BK300 hg; replace BK300 := xbb_ BK300 hb; clear hb hbox hg; obtain ⟨Ao57, co57, eo57, _⟩ := Kd.Q_slice HO310.out; subst eo57; have hnb58 := NB313_288.out; have hnc58 := NB288_313.out; have hnb59 := NB313_294.out; have hnc59 := NB294_313.out; have hnb60 := NB313_300.out; have hnc60 := NB300_313.out; have hcz61_0 : w56.cell? ⟨gb313, 0, none⟩ = some (.slice none 0 0) := xk_ BK313 0; have hcz61_1 : w56.cell? ⟨gb313, 1, none⟩ = some (.int .i64 0) := xk_ BK313 1; have hfz61_0 := blk_frozen BK313.out 0; have hfz61_1 := blk_frozen BK313.out 1; have hcz62_0 : w56.cell? ⟨gb288, 0, none⟩ = some (.slice Ao10 t282.length co10) := xk_ BK288 0; have hcz62_1 : w56.cell? ⟨gb288, 1, none⟩ = some (.int .i64 t285) := xk_ BK288 1; have hfz62_0 := blk_frozen BK288.out 0; have hfz62_1 := blk_frozen BK288.out 1) | ((with_reducible refine gate_callee (f := 11) rfl ?_); refine xgl_ (some 98) Try.func11 #[.agg #[.slice Ao10 t282.length co10, .int .i64 t285], .string t312] ?_; (with_reducible refine (impl_EstimateOf.calls kj6 _ _ t282 t285 t312 t314 t315 _ ?side1 ?side2 A45.out).mono ?_); (case side1 => refine (Kd.Q_reads' (e := 3) (base := w.heap.size) (ok := fun k_ => ((some k_ ≠ (.slice Ao14 t289.length co14 : Value).ownBlock ∧ some k_ ≠ (.slice Ao20 t295.length co20 : Value).ownBlock) ∧ some k_ ≠ (.slice Ao57 t308.length co57 : Value).ownBlock)) (n := t282.length) (c := co10) ?_).2.2; exact (xqt_ ((Kd.Q_mono (Kd.Q_far (p := ⟨gb313, 1, none⟩) (Kd.Q_far (p := ⟨gb313, 0, none⟩) (Kd.Q_types HO_289000.out BK313.out (by decide)) (fun _ hk => hk.2) (.slice Ao57 t308.length co57)) (fun _ hk => hk.2) (.int .i64 t311)) (fun _ h_ => h_.1))))); (case side2 => exact (Kd.Q_reads' HO_289000.out).2.1); rintro e w63 ⟨rfl, hb⟩; refine ⟨_, rfl, ?_⟩; replace HO_289000 := Aside0.mk (Kd.Q_below (xqt_ ((Kd.Q_mono (Kd.Q_far (p := ⟨gb313, 1, none⟩) (Kd.Q_far (p := ⟨gb313, 0, none⟩) (Kd.Q_types HO_289000.out BK313.out (by decide)) (fun _ hk => hk.2) (.slice Ao57 t308.length co57)) (fun _ hk => hk.2) (.int .i64 t311)) (fun _ h_ => h_.1)))) hb); replace HO_295000 := Aside0.mk (Kd.Q_below (xqt_ ((Kd.Q_mono (Kd.Q_far (p := ⟨gb313, 1, none⟩) (Kd.Q_far (p := ⟨gb313, 0, none⟩) (Kd.Q_types HO_295000.out BK313.out (by decide)) (fun _ hk => hk.2) (.slice Ao57 t308.length co57)) (fun _ hk => hk.2) (.int .i64 t311)) (fun _ h_ => h_.1)))) hb); replace HO_301000 := Aside0.mk (Kd.Q_below (xqt_ ((Kd.Q_mono (Kd.Q_far (p := ⟨gb313, 1, none⟩) (Kd.Q_far (p := ⟨gb313, 0, none⟩) (Kd.Q_types HO_301000.out BK313.out (by decide)) (fun _ hk => hk.2) (.slice Ao57 t308.length co57)) (fun _ hk => hk.2) (.int .i64 t311)) (fun _ h_ => h_.1)))) hb); replace HO310 := Aside0.mk (Kd.Q_below (xqt_ ((Kd.Q_mono (Kd.Q_far (p := ⟨gb313, 1, none⟩) (Kd.Q_far (p := ⟨gb313, 0, none⟩) (Kd.Q_types HO310.out BK313.out (by decide)) (fun _ hk => hk.2) (.slice Ao57 t308.length co57)) (fun _ hk => hk.2) (.int .i64 t311)) (fun _ h_ => h_.1)))) hb); replace BK288 := Aside0.mk (blk_below (g := gb288) (o := .cells #[.slice Ao10 t282.length co10, .int .i64 t285] 25 (0, 0)) (by (with_reducible repeat (first | refine blk_drewN ?_ _ | refine blk_drew ?_ | refine blk_alloc ?_ _)); refine blk_far ?_ NB288_313.out _; (with_reducible repeat (first | refine blk_drewN ?_ _ | refine blk_drew ?_ | refine blk_alloc ?_ _)); refine blk_far ?_ NB288_313.out _; (with_reducible repeat (first | refine blk_drewN ?_ _ | refine blk_drew ?_ | refine blk_alloc ?_ _)); exact BK288.out) hb); replace BK294 := Aside0.mk (blk_below (g := gb294) (o := .cells #[.slice Ao14 t289.length co14, .int .i64 t292] 25 (0, 0)) (by (with_reducible repeat (first | refine blk_drewN ?_ _ | refine blk_drew ?_ | refine blk_alloc ?_ _)); refine blk_far ?_ NB294_313.out _; (with_reducible repeat (first | refine blk_drewN ?_ _ | refine blk_drew ?_ | refine blk_alloc ?_ _)); refine blk_far ?_ NB294_313.out _; (with_reducible repeat (first | refine blk_drewN ?_ _ | refine blk_drew ?_ | refine blk_alloc ?_ _)); exact BK294.out) hb); replace BK300 := Aside0.mk (blk_below (g := gb300) (o := .cells #[.slice Ao20 t295.length co20, .int .i64 t298] 25 (0, 0)) (by (with_reducible repeat (first | refine blk_drewN ?_ _ | refine blk_drew ?_ | refine blk_alloc ?_ _)); refine blk_far ?_ NB300_313.out _; (with_reducible repeat (first | refine blk_drewN ?_ _ | refine blk_drew ?_ | refine blk_alloc ?_ _)); refine blk_far ?_ NB300_313.out _; (with_reducible repeat (first | refine blk_drewN ?_ _ | refine blk_drew ?_ | refine blk_alloc ?_ _)); exact BK300.out) hb); replace BK313 := Aside0.mk (blk_below (g := gb313) (o := .cells #[.slice Ao57 t308.length co57, .int .i64 t311] 25 (0, 0)) (by (with_reducible repeat (first | refine blk_drewN ?_ _ | refine blk_drew ?_ | refine blk_alloc ?_ _)); refine blk_put (cs := #[.slice Ao57 t308.length co57, .int .i64 0]) ?_ 1 _ rfl; (with_reducible repeat (first | refine blk_drewN ?_ _ | refine blk_drew ?_ | refine blk_alloc ?_ _)); refine blk_put (cs := #[.slice none 0 0, .int .i64 0]) ?_ 0 _ rfl; (with_reducible repeat (first | refine blk_drewN ?_ _ | refine blk_drew ?_ | refine blk_alloc ?_ _)); exact BK313.out) hb); replace HB := xws_ HB hb; (try clear hb); (try clear hb2); (try clear hk); (try clear hi); have hcz64_0 : w63.cell? ⟨gb294, 0, none⟩ = some (.slice Ao14 t289.length co14) := xk_ BK294 0; have hcz64_1 : w63.cell? ⟨gb294, 1, none⟩ = some (.int .i64 t292) := xk_ BK294 1; have hfz64_0 := blk_frozen BK294.out 0; have hfz64_1 := blk_frozen BK294.out 1) | ((with_reducible refine gate_callee (f := 11) rfl ?_); refine xgl_ (some 104) Try.func11 #[.agg #[.slice Ao14 t289.length co14, .int .i64 t292], .string t312] ?_; (with_reducible refine (impl_EstimateOf.calls kj6 _ _ t289 t292 t312 t316 t317 _ ?side1 ?side2 A46.out).mono ?_); (case side1 => exact xc_ ((Kd.Q_reads' HO_295000.out).2.2)); (case side2 => exact (Kd.Q_reads' HO_295000.out).2.1); rintro e w65 ⟨rfl, hb⟩; refine ⟨_, rfl, ?_⟩; replace HO_289000 := xqb_ HO_289000 hb; replace HO_295000 := xqb_ HO_295000 hb; replace HO_301000 := xqb_ HO_301000 hb; replace HO310 := xqb_ HO310 hb; replace BK288 := xbb_ BK288 hb; replace BK294 := xbb_ BK294 hb; replace BK300 := xbb_ BK300 hb; replace BK313 := xbb_ BK313 hb; replace HB := xws_ HB hb; (try clear hb); (try clear hb2); (try clear hk); (try clear hi)))
     (try simp only [Act.put, List.setIfInBounds_toArray, List.set_cons_zero, List.set_cons_succ])
     go_cut [142] (fun v142 wc => ∃ (kq : Nat) (x142_46 : Bool), v142 = .bool x142_46 ∧ Aside0 (laws_FnSketch.j1 kq l1 t286 t306 t312 t315 t316 x142_46 t289 t292 = some r) ∧ Aside0 (kq ≤ kj6) ∧ Aside0 (Kd.Q (Kd.int .i64) 3 wc w.heap.size (fun k_ => some k_ ≠ ((.slice Ao14 t289.length co14) : Value).ownBlock ∧ some k_ ≠ ((.slice Ao20 t295.length co20) : Value).ownBlock ∧ some k_ ≠ ((.slice Ao57 t308.length co57) : Value).ownBlock) (.slice Ao10 t282.length co10) t282) ∧ Aside0 (Kd.Q (Kd.int .i64) 3 wc w.heap.size (fun k_ => some k_ ≠ ((.slice Ao10 t282.length co10) : Value).ownBlock ∧ some k_ ≠ ((.slice Ao20 t295.length co20) : Value).ownBlock ∧ some k_ ≠ ((.slice Ao57 t308.length co57) : Value).ownBlock) (.slice Ao14 t289.length co14) t289) ∧ Aside0 (Kd.Q (Kd.int .i64) 3 wc w.heap.size (fun k_ => some k_ ≠ ((.slice Ao10 t282.length co10) : Value).ownBlock ∧ some k_ ≠ ((.slice Ao14 t289.length co14) : Value).ownBlock ∧ some k_ ≠ ((.slice Ao57 t308.length co57) : Value).ownBlock) (.slice Ao20 t295.length co20) t295) ∧ Aside0 (Kd.Q (Kd.int .i64) 3 wc w.heap.size (fun k_ => some k_ ≠ ((.slice Ao10 t282.length co10) : Value).ownBlock ∧ some k_ ≠ ((.slice Ao14 t289.length co14) : Value).ownBlock ∧ some k_ ≠ ((.slice Ao20 t295.length co20) : Value).ownBlock) (.slice Ao57 t308.length co57) t308) ∧ Aside0 (wc.heap[gb288]? = some (.cells #[(.slice Ao10 t282.length co10), .int .i64 t285] 25 (0, 0))) ∧ Aside0 (wc.heap[gb294]? = some (.cells #[(.slice Ao14 t289.length co14), .int .i64 t292] 25 (0, 0))) ∧ Aside0 (wc.heap[gb300]? = some (.cells #[(.slice Ao20 t295.length co20), .int .i64 t298] 25 (0, 0))) ∧ Aside0 (wc.heap[gb313]? = some (.cells #[(.slice Ao57 t308.length co57), .int .i64 t311] 25 (0, 0))) ∧ Aside0 (Below w.heap.size w wc))
     case first =>
      have H := HC47.out
      clear HC47
      by_cases c66 : t305 = true
      ·subst c66
       have H1 : (if t307 = true then (if t306 = (wrap64 (t304 + t287)) then (if t306 > t292 then (laws_FnSketch.j1 kj6 l1 t286 t306 t312 t315 t316 true t289 t292) else (if (t315 != t317) = true then (laws_FnSketch.j1 kj6 l1 t286 t306 t312 t315 t316 true t289 t292) else (if t316 < t314 then (laws_FnSketch.j1 kj6 l1 t286 t306 t312 t315 t316 true t289 t292) else (laws_FnSketch.j1 kj6 l1 t286 t306 t312 t315 t316 (decide (t316 > (wrap64 (t314 + t287)))) t289 t292)))) else (laws_FnSketch.j1 kj6 l1 t286 t306 t312 t315 t316 true t289 t292)) else (laws_FnSketch.j1 kj6 l1 t286 t306 t312 t315 t316 true t289 t292)) = some r := by rw [if_pos rfl] at H; exact H
       clear H
       have H := H1
       clear H1
       by_cases c67 : t307 = true
       ·subst c67
        have H1 : (if t306 = (wrap64 (t304 + t287)) then (if t306 > t292 then (laws_FnSketch.j1 kj6 l1 t286 t306 t312 t315 t316 true t289 t292) else (if (t315 != t317) = true then (laws_FnSketch.j1 kj6 l1 t286 t306 t312 t315 t316 true t289 t292) else (if t316 < t314 then (laws_FnSketch.j1 kj6 l1 t286 t306 t312 t315 t316 true t289 t292) else (laws_FnSketch.j1 kj6 l1 t286 t306 t312 t315 t316 (decide (t316 > (wrap64 (t314 + t287)))) t289 t292)))) else (laws_FnSketch.j1 kj6 l1 t286 t306 t312 t315 t316 true t289 t292)) = some r := by rw [if_pos rfl] at H; exact H
        clear H
        have H := H1
        clear H1
        by_cases c68 : t306 = (wrap64 (t304 + t287))
        ·rw [if_pos c68] at H
         have c68b0 : (t306 == (wrap64 (t304 + t287))) = true := beq_iff_eq.mpr c68
         have c68b1 : (t306 != (wrap64 (t304 + t287))) = false := bne_eq_false_iff_eq.mpr c68
         clear c68
         (first | rw [c68b0] | (simp only [i64_w, i32_w]; rw [c68b0]) | skip)
         by_cases c69 : t306 > t292
         ·rw [if_pos c69] at H
          have c69b0 : decide (t292 < t306) = true := decide_eq_true c69
          clear c69
          have H' := Aside0.mk H
          clear H
          have hnb70 := NB294_288.out
          have hnc70 := NB288_294.out
          have hnb71 := NB294_300.out
          have hnc71 := NB300_294.out
          have hnb72 := NB294_313.out
          have hnc72 := NB313_294.out
          have hcz73_0 : w65.cell? ⟨gb294, 0, none⟩ = some (.slice Ao14 t289.length co14) := xk_ BK294 0
          have hcz73_1 : w65.cell? ⟨gb294, 1, none⟩ = some (.int .i64 t292) := xk_ BK294 1
          have hfz73_0 := blk_frozen BK294.out 0
          have hfz73_1 := blk_frozen BK294.out 1
          go_wp2
          go_meet
          case rel => exact ⟨_, (true), (by first | rfl | (simp; done) | (simp [*]; done)), H', ⟨by have := HJ6.out; first | omega | exact Nat.le_refl _⟩, ⟨xqt_ (Kd.Q_mono HO_289000.out (fun _ hk => ⟨hk.1.1, ⟨hk.1.2, hk.2⟩⟩))⟩, ⟨xqt_ (Kd.Q_mono HO_295000.out (fun _ hk => ⟨hk.1.1, ⟨hk.1.2, hk.2⟩⟩))⟩, ⟨xqt_ (Kd.Q_mono HO_301000.out (fun _ hk => ⟨hk.1.1, ⟨hk.1.2, hk.2⟩⟩))⟩, ⟨xqt_ (Kd.Q_mono HO310.out (fun _ hk => ⟨hk.1.1.2, ⟨hk.1.2, hk.2⟩⟩))⟩, ⟨xb_ BK288⟩, ⟨xb_ BK294⟩, ⟨xb_ BK300⟩, ⟨xb_ BK313⟩, ⟨xw_ HB⟩⟩
         ·rw [if_neg c69] at H
          have c69b0 : decide (t292 < t306) = false := decide_eq_false c69
          clear c69
          by_cases c74 : (t315 != t317) = true
          ·rw [if_pos c74] at H
           have c74b0 : (t315 != t317) = true := c74
           (try (have c74b1 : decide (t315 = t317) = false := by simpa using c74))
           (try (have c74b2 : (t315 == t317) = false := by simpa using c74))
           (try (have c74b3 : ¬ (t315 = t317) := by simpa using c74))
           clear c74
           have H' := Aside0.mk H
           clear H
           have hnb75 := NB294_288.out
           have hnc75 := NB288_294.out
           have hnb76 := NB294_300.out
           have hnc76 := NB300_294.out
           have hnb77 := NB294_313.out
           have hnc77 := NB313_294.out
           have hcz78_0 : w65.cell? ⟨gb294, 0, none⟩ = some (.slice Ao14 t289.length co14) := xk_ BK294 0
           have hcz78_1 : w65.cell? ⟨gb294, 1, none⟩ = some (.int .i64 t292) := xk_ BK294 1
           have hfz78_0 := blk_frozen BK294.out 0
           have hfz78_1 := blk_frozen BK294.out 1
           go_wp2
           go_meet
           case rel => exact ⟨_, (true), (by first | rfl | (simp; done) | (simp [*]; done)), H', ⟨by have := HJ6.out; first | omega | exact Nat.le_refl _⟩, ⟨xqt_ (Kd.Q_mono HO_289000.out (fun _ hk => ⟨hk.1.1, ⟨hk.1.2, hk.2⟩⟩))⟩, ⟨xqt_ (Kd.Q_mono HO_295000.out (fun _ hk => ⟨hk.1.1, ⟨hk.1.2, hk.2⟩⟩))⟩, ⟨xqt_ (Kd.Q_mono HO_301000.out (fun _ hk => ⟨hk.1.1, ⟨hk.1.2, hk.2⟩⟩))⟩, ⟨xqt_ (Kd.Q_mono HO310.out (fun _ hk => ⟨hk.1.1.2, ⟨hk.1.2, hk.2⟩⟩))⟩, ⟨xb_ BK288⟩, ⟨xb_ BK294⟩, ⟨xb_ BK300⟩, ⟨xb_ BK313⟩, ⟨xw_ HB⟩⟩
          ·rw [if_neg c74] at H
           have c74b0 : (t315 != t317) = false := by simpa using c74
           (try (have c74b1 : decide (t315 = t317) = true := by simpa using c74))
           (try (have c74b2 : (t315 == t317) = true := by simpa using c74))
           clear c74
           by_cases c79 : t316 < t314
           ·rw [if_pos c79] at H
            have c79b0 : decide (t316 < t314) = true := decide_eq_true c79
            clear c79
            have H' := Aside0.mk H
            clear H
            have hnb80 := NB294_288.out
            have hnc80 := NB288_294.out
            have hnb81 := NB294_300.out
            have hnc81 := NB300_294.out
            have hnb82 := NB294_313.out
            have hnc82 := NB313_294.out
            have hcz83_0 : w65.cell? ⟨gb294, 0, none⟩ = some (.slice Ao14 t289.length co14) := xk_ BK294 0
            have hcz83_1 : w65.cell? ⟨gb294, 1, none⟩ = some (.int .i64 t292) := xk_ BK294 1
            have hfz83_0 := blk_frozen BK294.out 0
            have hfz83_1 := blk_frozen BK294.out 1
            go_wp2
            go_meet
            case rel => exact ⟨_, (true), (by first | rfl | (simp; done) | (simp [*]; done)), H', ⟨by have := HJ6.out; first | omega | exact Nat.le_refl _⟩, ⟨xqt_ (Kd.Q_mono HO_289000.out (fun _ hk => ⟨hk.1.1, ⟨hk.1.2, hk.2⟩⟩))⟩, ⟨xqt_ (Kd.Q_mono HO_295000.out (fun _ hk => ⟨hk.1.1, ⟨hk.1.2, hk.2⟩⟩))⟩, ⟨xqt_ (Kd.Q_mono HO_301000.out (fun _ hk => ⟨hk.1.1, ⟨hk.1.2, hk.2⟩⟩))⟩, ⟨xqt_ (Kd.Q_mono HO310.out (fun _ hk => ⟨hk.1.1.2, ⟨hk.1.2, hk.2⟩⟩))⟩, ⟨xb_ BK288⟩, ⟨xb_ BK294⟩, ⟨xb_ BK300⟩, ⟨xb_ BK313⟩, ⟨xw_ HB⟩⟩
           ·rw [if_neg c79] at H
            have c79b0 : decide (t316 < t314) = false := decide_eq_false c79
            clear c79
            have H' := Aside0.mk H
            clear H
            have hnb84 := NB294_288.out
            have hnc84 := NB288_294.out
            have hnb85 := NB294_300.out
            have hnc85 := NB300_294.out
            have hnb86 := NB294_313.out
            have hnc86 := NB313_294.out
            have hcz87_0 : w65.cell? ⟨gb294, 0, none⟩ = some (.slice Ao14 t289.length co14) := xk_ BK294 0
            have hcz87_1 : w65.cell? ⟨gb294, 1, none⟩ = some (.int .i64 t292) := xk_ BK294 1
            have hfz87_0 := blk_frozen BK294.out 0
            have hfz87_1 := blk_frozen BK294.out 1
            go_wp2
            go_meet
            case rel => exact ⟨_, (decide (t316 > (wrap64 (t314 + t287)))), (by first | rfl | (simp; done) | (simp [*]; done)), H', ⟨by have := HJ6.out; first | omega | exact Nat.le_refl _⟩, ⟨xqt_ (Kd.Q_mono HO_289000.out (fun _ hk => ⟨hk.1.1, ⟨hk.1.2, hk.2⟩⟩))⟩, ⟨xqt_ (Kd.Q_mono HO_295000.out (fun _ hk => ⟨hk.1.1, ⟨hk.1.2, hk.2⟩⟩))⟩, ⟨xqt_ (Kd.Q_mono HO_301000.out (fun _ hk => ⟨hk.1.1, ⟨hk.1.2, hk.2⟩⟩))⟩, ⟨xqt_ (Kd.Q_mono HO310.out (fun _ hk => ⟨hk.1.1.2, ⟨hk.1.2, hk.2⟩⟩))⟩, ⟨xb_ BK288⟩, ⟨xb_ BK294⟩, ⟨xb_ BK300⟩, ⟨xb_ BK313⟩, ⟨xw_ HB⟩⟩
        ·rw [if_neg c68] at H
         have c68b0 : (t306 == (wrap64 (t304 + t287))) = false := beq_eq_false_iff_ne.mpr c68
         have c68b1 : (t306 != (wrap64 (t304 + t287))) = true := bne_iff_ne.mpr c68
         (first | rw [c68b0] | (simp only [i64_w, i32_w]; rw [c68b0]) | skip)
         have H' := Aside0.mk H
         clear H
         go_wp2
         go_meet
         case rel => exact ⟨_, (true), (by first | rfl | (simp; done) | (simp [*]; done)), H', ⟨by have := HJ6.out; first | omega | exact Nat.le_refl _⟩, ⟨xqt_ (Kd.Q_mono HO_289000.out (fun _ hk => ⟨hk.1.1, ⟨hk.1.2, hk.2⟩⟩))⟩, ⟨xqt_ (Kd.Q_mono HO_295000.out (fun _ hk => ⟨hk.1.1, ⟨hk.1.2, hk.2⟩⟩))⟩, ⟨xqt_ (Kd.Q_mono HO_301000.out (fun _ hk => ⟨hk.1.1, ⟨hk.1.2, hk.2⟩⟩))⟩, ⟨xqt_ (Kd.Q_mono HO310.out (fun _ hk => ⟨hk.1.1.2, ⟨hk.1.2, hk.2⟩⟩))⟩, ⟨xb_ BK288⟩, ⟨xb_ BK294⟩, ⟨xb_ BK300⟩, ⟨xb_ BK313⟩, ⟨xw_ HB⟩⟩
       ·replace c67 := Bool.eq_false_iff.mpr c67
        subst c67
        have H1 : (laws_FnSketch.j1 kj6 l1 t286 t306 t312 t315 t316 true t289 t292) = some r := by rw [if_neg (show ¬ (false = true) by decide)] at H; exact H
        clear H
        have H := H1
        clear H1
        have H' := Aside0.mk H
        clear H
        go_wp2
        go_meet
        case rel => exact ⟨_, (true), (by first | rfl | (simp; done) | (simp [*]; done)), H', ⟨by have := HJ6.out; first | omega | exact Nat.le_refl _⟩, ⟨xqt_ (Kd.Q_mono HO_289000.out (fun _ hk => ⟨hk.1.1, ⟨hk.1.2, hk.2⟩⟩))⟩, ⟨xqt_ (Kd.Q_mono HO_295000.out (fun _ hk => ⟨hk.1.1, ⟨hk.1.2, hk.2⟩⟩))⟩, ⟨xqt_ (Kd.Q_mono HO_301000.out (fun _ hk => ⟨hk.1.1, ⟨hk.1.2, hk.2⟩⟩))⟩, ⟨xqt_ (Kd.Q_mono HO310.out (fun _ hk => ⟨hk.1.1.2, ⟨hk.1.2, hk.2⟩⟩))⟩, ⟨xb_ BK288⟩, ⟨xb_ BK294⟩, ⟨xb_ BK300⟩, ⟨xb_ BK313⟩, ⟨xw_ HB⟩⟩
      ·replace c66 := Bool.eq_false_iff.mpr c66
       subst c66
       have H1 : (laws_FnSketch.j1 kj6 l1 t286 t306 t312 t315 t316 true t289 t292) = some r := by rw [if_neg (show ¬ (false = true) by decide)] at H; exact H
       clear H
       have H := H1
       clear H1
       have H' := Aside0.mk H
       clear H
       go_wp2
       go_meet
       case rel => exact ⟨_, (true), (by first | rfl | (simp; done) | (simp [*]; done)), H', ⟨by have := HJ6.out; first | omega | exact Nat.le_refl _⟩, ⟨xqt_ (Kd.Q_mono HO_289000.out (fun _ hk => ⟨hk.1.1, ⟨hk.1.2, hk.2⟩⟩))⟩, ⟨xqt_ (Kd.Q_mono HO_295000.out (fun _ hk => ⟨hk.1.1, ⟨hk.1.2, hk.2⟩⟩))⟩, ⟨xqt_ (Kd.Q_mono HO_301000.out (fun _ hk => ⟨hk.1.1, ⟨hk.1.2, hk.2⟩⟩))⟩, ⟨xqt_ (Kd.Q_mono HO310.out (fun _ hk => ⟨hk.1.1.2, ⟨hk.1.2, hk.2⟩⟩))⟩, ⟨xb_ BK288⟩, ⟨xb_ BK294⟩, ⟨xb_ BK300⟩, ⟨xb_ BK313⟩, ⟨xw_ HB⟩⟩
     case rest =>
      clear HC47
      try clear c1
      try clear c2
      try clear p2
      try clear c3
      try clear c4
      try clear c5
      try clear c6
      try clear p6
      try clear c7
      try clear c8
      try clear c9
      try clear c10
      try clear c11
      try clear c12
      try clear c24
      try clear c24b0
      try clear c24b1
      try clear c24b2
      try clear c28
      try clear c39
      try clear c41
      try clear c48
      try clear c49
      try clear c52
      try clear c58
      try clear c59
      try clear c60
      try clear p64
      try clear c66
      try clear c67
      try clear c68
      try clear c68b0
      try clear c68b1
      try clear c69
      try clear c69b0
      try clear c70
      try clear c71
      try clear c72
      try clear c74
      try clear c74b0
      try clear c74b1
      try clear c74b2
      try clear c75
      try clear c76
      try clear c77
      try clear c79
      try clear c79b0
      try clear c80
      try clear c81
      try clear c82
      try clear c84
      try clear c85
      try clear c86
      try clear hcz50_0
      try clear hcz50_1
      try clear hcz53_0
      try clear hcz53_1
      try clear hcz61_0
      try clear hcz61_1
      try clear hcz62_0
      try clear hcz62_1
      try clear hcz64_0
      try clear hcz64_1
      try clear hcz73_0
      try clear hcz73_1
      try clear hcz78_0
      try clear hcz78_1
      try clear hcz83_0
      try clear hcz83_1
      try clear hcz87_0
      try clear hcz87_1
      try clear hfz50_0
      try clear hfz50_1
      try clear hfz53_0
      try clear hfz53_1
      try clear hfz61_0
      try clear hfz61_1
      try clear hfz62_0
      try clear hfz62_1
      try clear hfz64_0
      try clear hfz64_1
      try clear hfz73_0
      try clear hfz73_1
      try clear hfz78_0
      try clear hfz78_1
      try clear hfz83_0
      try clear hfz83_1
      try clear hfz87_0
      try clear hfz87_1
      try clear p2
      obtain ⟨kq, x142_46, rfl, HA, HJ46, HO_289000, HO_295000, HO_301000, HO_314000, BK288, BK294, BK300, BK313, HB⟩ := hcut
      cases kq with
      | zero => exact absurd HA.out (by simp [laws_FnSketch.j1])
      | succ kj46 =>
       have H := HA.out
       clear HA
       simp only [laws_FnSketch.j1] at H
       by_cases c88 : x142_46 = true
       ·subst c88
        have H1 : (some false) = some r := by rw [if_pos rfl] at H; exact H
        clear H
        have H := H1
        clear H1
        obtain rfl := Option.some.inj H
        go_wp2
        go_ret
        exact ⟨by first | rfl | (simp [errW_none, errW_some] <;> rfl) | (simp [*, errW_none, errW_some] <;> rfl), xw_ HB⟩
       ·replace c88 := Bool.eq_false_iff.mpr c88
        subst c88
        have H1 : ((impl_AdmitsKey.f kj46 t289 t292 t286 t312).bind fun bt318 => (if (bt318.2 != t315) = true then (some false) else (if t315 = true then (if (bt318.1 != (decide (t306 > t316))) = true then (some false) else (laws_FnSketch.j2 kj46 l1)) else (if (bt318.1 != false) = true then (some false) else (laws_FnSketch.j2 kj46 l1))))) = some r := by rw [if_neg (show ¬ (false = true) by decide)] at H; exact H
        clear H
        have H := H1
        clear H1
        replace H := Option.bind_eq_some_iff.mp H
        obtain ⟨⟨t318, t319⟩, A890, H⟩ := H
        replace H : (if (t319 != t315) = true then (some false) else (if t315 = true then (if (t318 != (decide (t306 > t316))) = true then (some false) else (laws_FnSketch.j2 kj46 l1)) else (if (t318 != false) = true then (some false) else (laws_FnSketch.j2 kj46 l1)))) = some r := H
        have A89 := Aside0.mk A890
        clear A890
        by_cases c90 : (t319 != t315) = true
        ·rw [if_pos c90] at H
         have c90b0 : (t319 != t315) = true := c90
         (try (have c90b1 : decide (t319 = t315) = false := by simpa using c90))
         (try (have c90b2 : (t319 == t315) = false := by simpa using c90))
         (try (have c90b3 : ¬ (t319 = t315) := by simpa using c90))
         clear c90
         obtain rfl := Option.some.inj H
         have hnb91 := NB294_288.out
         have hnc91 := NB288_294.out
         have hnb92 := NB294_300.out
         have hnc92 := NB300_294.out
         have hnb93 := NB294_313.out
         have hnc93 := NB313_294.out
         have hcz94_0 : wc.cell? ⟨gb294, 0, none⟩ = some (.slice Ao14 t289.length co14) := xk_ BK294 0
         have hcz94_1 : wc.cell? ⟨gb294, 1, none⟩ = some (.int .i64 t292) := xk_ BK294 1
         have hfz94_0 := blk_frozen BK294.out 0
         have hfz94_1 := blk_frozen BK294.out 1
         go_wp2_with (first | ((with_reducible refine gate_callee (f := 13) rfl ?_); refine xgl_ (some 147) Try.func13 #[.agg #[.slice Ao14 t289.length co14, .int .i64 t292], .string t286, .string t312] ?_; (with_reducible refine (impl_AdmitsKey.calls kj46 _ _ t289 t292 t286 t312 t318 t319 _ ?side1 ?side2 A89.out).mono ?_); (case side1 => exact xc_ ((Kd.Q_reads' HO_295000.out).2.2)); (case side2 => exact (Kd.Q_reads' HO_295000.out).2.1); rintro e w95 ⟨rfl, hb⟩; refine ⟨_, rfl, ?_⟩; replace HO_289000 := xqb_ HO_289000 hb; replace HO_295000 := xqb_ HO_295000 hb; replace HO_301000 := xqb_ HO_301000 hb; replace HO_314000 := xqb_ HO_314000 hb; replace BK288 := xbb_ BK288 hb; replace BK294 := xbb_ BK294 hb; replace BK300 := xbb_ BK300 hb; replace BK313 := xbb_ BK313 hb; replace HB := xws_ HB hb; (try clear hb); (try clear hb2); (try clear hk); (try clear hi)))
         go_ret
         exact ⟨by first | rfl | (simp [errW_none, errW_some] <;> rfl) | (simp [*, errW_none, errW_some] <;> rfl), xw_ HB⟩
        ·rw [if_neg c90] at H
         have c90b0 : (t319 != t315) = false := by simpa using c90
         (try (have c90b1 : decide (t319 = t315) = true := by simpa using c90))
         (try (have c90b2 : (t319 == t315) = true := by simpa using c90))
         clear c90
         by_cases c96 : t315 = true
         ·subst c96
          have H1 : (if (t318 != (decide (t306 > t316))) = true then (some false) else (laws_FnSketch.j2 kj46 l1)) = some r := by rw [if_pos rfl] at H; exact H
          clear H
          have H := H1
          clear H1
          by_cases c97 : (t318 != (decide (t306 > t316))) = true
          ·rw [if_pos c97] at H
           have c97b0 : (t318 != (decide (t306 > t316))) = true := c97
           (try (have c97b1 : decide (t318 = (decide (t306 > t316))) = false := by simpa using c97))
           (try (have c97b2 : (t318 == (decide (t306 > t316))) = false := by simpa using c97))
           (try (have c97b3 : ¬ (t318 = (decide (t306 > t316))) := by simpa using c97))
           clear c97
           obtain rfl := Option.some.inj H
           have hnb98 := NB294_288.out
           have hnc98 := NB288_294.out
           have hnb99 := NB294_300.out
           have hnc99 := NB300_294.out
           have hnb100 := NB294_313.out
           have hnc100 := NB313_294.out
           have hcz101_0 : wc.cell? ⟨gb294, 0, none⟩ = some (.slice Ao14 t289.length co14) := xk_ BK294 0
           have hcz101_1 : wc.cell? ⟨gb294, 1, none⟩ = some (.int .i64 t292) := xk_ BK294 1
           have hfz101_0 := blk_frozen BK294.out 0
           have hfz101_1 := blk_frozen BK294.out 1
           go_wp2_with (first | ((with_reducible refine gate_callee (f := 13) rfl ?_); refine xgl_ (some 147) Try.func13 #[.agg #[.slice Ao14 t289.length co14, .int .i64 t292], .string t286, .string t312] ?_; (with_reducible refine (impl_AdmitsKey.calls kj46 _ _ t289 t292 t286 t312 t318 t319 _ ?side1 ?side2 A89.out).mono ?_); (case side1 => exact xc_ ((Kd.Q_reads' HO_295000.out).2.2)); (case side2 => exact (Kd.Q_reads' HO_295000.out).2.1); rintro e w102 ⟨rfl, hb⟩; refine ⟨_, rfl, ?_⟩; replace HO_289000 := xqb_ HO_289000 hb; replace HO_295000 := xqb_ HO_295000 hb; replace HO_301000 := xqb_ HO_301000 hb; replace HO_314000 := xqb_ HO_314000 hb; replace BK288 := xbb_ BK288 hb; replace BK294 := xbb_ BK294 hb; replace BK300 := xbb_ BK300 hb; replace BK313 := xbb_ BK313 hb; replace HB := xws_ HB hb; (try clear hb); (try clear hb2); (try clear hk); (try clear hi)))
           go_ret
           exact ⟨by first | rfl | (simp [errW_none, errW_some] <;> rfl) | (simp [*, errW_none, errW_some] <;> rfl), xw_ HB⟩
          ·rw [if_neg c97] at H
           have c97b0 : (t318 != (decide (t306 > t316))) = false := by simpa using c97
           (try (have c97b1 : decide (t318 = (decide (t306 > t316))) = true := by simpa using c97))
           (try (have c97b2 : (t318 == (decide (t306 > t316))) = true := by simpa using c97))
           clear c97
           have H' := Aside0.mk H
           clear H
           have hnb103 := NB294_288.out
           have hnc103 := NB288_294.out
           have hnb104 := NB294_300.out
           have hnc104 := NB300_294.out
           have hnb105 := NB294_313.out
           have hnc105 := NB313_294.out
           have hcz106_0 : wc.cell? ⟨gb294, 0, none⟩ = some (.slice Ao14 t289.length co14) := xk_ BK294 0
           have hcz106_1 : wc.cell? ⟨gb294, 1, none⟩ = some (.int .i64 t292) := xk_ BK294 1
           have hfz106_0 := blk_frozen BK294.out 0
           have hfz106_1 := blk_frozen BK294.out 1
           go_wp2_with (first | ((with_reducible refine gate_callee (f := 13) rfl ?_); refine xgl_ (some 147) Try.func13 #[.agg #[.slice Ao14 t289.length co14, .int .i64 t292], .string t286, .string t312] ?_; (with_reducible refine (impl_AdmitsKey.calls kj46 _ _ t289 t292 t286 t312 t318 t319 _ ?side1 ?side2 A89.out).mono ?_); (case side1 => exact xc_ ((Kd.Q_reads' HO_295000.out).2.2)); (case side2 => exact (Kd.Q_reads' HO_295000.out).2.1); rintro e w107 ⟨rfl, hb⟩; refine ⟨_, rfl, ?_⟩; replace HO_289000 := xqb_ HO_289000 hb; replace HO_295000 := xqb_ HO_295000 hb; replace HO_301000 := xqb_ HO_301000 hb; replace HO_314000 := xqb_ HO_314000 hb; replace BK288 := xbb_ BK288 hb; replace BK294 := xbb_ BK294 hb; replace BK300 := xbb_ BK300 hb; replace BK313 := xbb_ BK313 hb; replace HB := xws_ HB hb; (try clear hb); (try clear hb2); (try clear hk); (try clear hi)))
           go_meet
           case rel => exact ⟨_, H', ⟨by have := HJ6.out; have := HJ46.out; first | omega | exact Nat.le_refl _⟩, ⟨xqt_ (Kd.Q_mono HO_289000.out (fun _ hk => ⟨hk.1, hk.2.1⟩))⟩, ⟨xqt_ (Kd.Q_mono HO_295000.out (fun _ hk => ⟨hk.1, hk.2.1⟩))⟩, ⟨xqt_ (Kd.Q_mono HO_301000.out (fun _ hk => ⟨hk.1, hk.2.1⟩))⟩, ⟨xb_ BK288⟩, ⟨xb_ BK294⟩, ⟨xb_ BK300⟩, ⟨xw_ HB⟩⟩
         ·replace c96 := Bool.eq_false_iff.mpr c96
          subst c96
          have H1 : (if (t318 != false) = true then (some false) else (laws_FnSketch.j2 kj46 l1)) = some r := by rw [if_neg (show ¬ (false = true) by decide)] at H; exact H
          clear H
          have H := H1
          clear H1
          by_cases c108 : (t318 != false) = true
          ·rw [if_pos c108] at H
           have c108b0 : (t318 != false) = true := c108
           (try (have c108b1 : decide (t318 = false) = false := by simpa using c108))
           (try (have c108b2 : (t318 == false) = false := by simpa using c108))
           (try (have c108b3 : ¬ (t318 = false) := by simpa using c108))
           clear c108
           obtain rfl := Option.some.inj H
           have hnb109 := NB294_288.out
           have hnc109 := NB288_294.out
           have hnb110 := NB294_300.out
           have hnc110 := NB300_294.out
           have hnb111 := NB294_313.out
           have hnc111 := NB313_294.out
           have hcz112_0 : wc.cell? ⟨gb294, 0, none⟩ = some (.slice Ao14 t289.length co14) := xk_ BK294 0
           have hcz112_1 : wc.cell? ⟨gb294, 1, none⟩ = some (.int .i64 t292) := xk_ BK294 1
           have hfz112_0 := blk_frozen BK294.out 0
           have hfz112_1 := blk_frozen BK294.out 1
           go_wp2_with (first | ((with_reducible refine gate_callee (f := 13) rfl ?_); refine xgl_ (some 147) Try.func13 #[.agg #[.slice Ao14 t289.length co14, .int .i64 t292], .string t286, .string t312] ?_; (with_reducible refine (impl_AdmitsKey.calls kj46 _ _ t289 t292 t286 t312 t318 t319 _ ?side1 ?side2 A89.out).mono ?_); (case side1 => exact xc_ ((Kd.Q_reads' HO_295000.out).2.2)); (case side2 => exact (Kd.Q_reads' HO_295000.out).2.1); rintro e w113 ⟨rfl, hb⟩; refine ⟨_, rfl, ?_⟩; replace HO_289000 := xqb_ HO_289000 hb; replace HO_295000 := xqb_ HO_295000 hb; replace HO_301000 := xqb_ HO_301000 hb; replace HO_314000 := xqb_ HO_314000 hb; replace BK288 := xbb_ BK288 hb; replace BK294 := xbb_ BK294 hb; replace BK300 := xbb_ BK300 hb; replace BK313 := xbb_ BK313 hb; replace HB := xws_ HB hb; (try clear hb); (try clear hb2); (try clear hk); (try clear hi)))
           go_ret
           exact ⟨by first | rfl | (simp [errW_none, errW_some] <;> rfl) | (simp [*, errW_none, errW_some] <;> rfl), xw_ HB⟩
          ·rw [if_neg c108] at H
           have c108b0 : (t318 != false) = false := by simpa using c108
           (try (have c108b1 : decide (t318 = false) = true := by simpa using c108))
           (try (have c108b2 : (t318 == false) = true := by simpa using c108))
           clear c108
           have H' := Aside0.mk H
           clear H
           have hnb114 := NB294_288.out
           have hnc114 := NB288_294.out
           have hnb115 := NB294_300.out
           have hnc115 := NB300_294.out
           have hnb116 := NB294_313.out
           have hnc116 := NB313_294.out
           have hcz117_0 : wc.cell? ⟨gb294, 0, none⟩ = some (.slice Ao14 t289.length co14) := xk_ BK294 0
           have hcz117_1 : wc.cell? ⟨gb294, 1, none⟩ = some (.int .i64 t292) := xk_ BK294 1
           have hfz117_0 := blk_frozen BK294.out 0
           have hfz117_1 := blk_frozen BK294.out 1
           go_wp2_with (first | ((with_reducible refine gate_callee (f := 13) rfl ?_); refine xgl_ (some 147) Try.func13 #[.agg #[.slice Ao14 t289.length co14, .int .i64 t292], .string t286, .string t312] ?_; (with_reducible refine (impl_AdmitsKey.calls kj46 _ _ t289 t292 t286 t312 t318 t319 _ ?side1 ?side2 A89.out).mono ?_); (case side1 => exact xc_ ((Kd.Q_reads' HO_295000.out).2.2)); (case side2 => exact (Kd.Q_reads' HO_295000.out).2.1); rintro e w118 ⟨rfl, hb⟩; refine ⟨_, rfl, ?_⟩; replace HO_289000 := xqb_ HO_289000 hb; replace HO_295000 := xqb_ HO_295000 hb; replace HO_301000 := xqb_ HO_301000 hb; replace HO_314000 := xqb_ HO_314000 hb; replace BK288 := xbb_ BK288 hb; replace BK294 := xbb_ BK294 hb; replace BK300 := xbb_ BK300 hb; replace BK313 := xbb_ BK313 hb; replace HB := xws_ HB hb; (try clear hb); (try clear hb2); (try clear hk); (try clear hi)))
           go_meet
           case rel => exact ⟨_, H', ⟨by have := HJ6.out; have := HJ46.out; first | omega | exact Nat.le_refl _⟩, ⟨xqt_ (Kd.Q_mono HO_289000.out (fun _ hk => ⟨hk.1, hk.2.1⟩))⟩, ⟨xqt_ (Kd.Q_mono HO_295000.out (fun _ hk => ⟨hk.1, hk.2.1⟩))⟩, ⟨xqt_ (Kd.Q_mono HO_301000.out (fun _ hk => ⟨hk.1, hk.2.1⟩))⟩, ⟨xb_ BK288⟩, ⟨xb_ BK294⟩, ⟨xb_ BK300⟩, ⟨xw_ HB⟩⟩
    ·replace c41 := Bool.eq_false_iff.mpr c41
     subst c41
     have H1 : (laws_FnSketch.j2 kj6 l1) = some r := by rw [if_neg (show ¬ (false = true) by decide)] at H; exact H
     clear H
     have H := H1
     clear H1
     have H' := Aside0.mk H
     clear H
     go_wp2
     go_meet
     case rel => exact ⟨_, H', ⟨by have := HJ6.out; first | omega | exact Nat.le_refl _⟩, ⟨xq_ HO_289000⟩, ⟨xq_ HO_295000⟩, ⟨xq_ HO_301000⟩, ⟨xb_ BK288⟩, ⟨xb_ BK294⟩, ⟨xb_ BK300⟩, ⟨xw_ HB⟩⟩
   case rest =>
    clear HC40
    try clear c1
    try clear c2
    try clear p2
    try clear c3
    try clear c4
    try clear c5
    try clear c6
    try clear p6
    try clear c7
    try clear c8
    try clear c9
    try clear c10
    try clear c11
    try clear c12
    try clear c13
    try clear c24
    try clear c24b0
    try clear c24b1
    try clear c24b2
    try clear c28
    try clear c39
    try clear c41
    try clear c48
    try clear c49
    try clear c52
    try clear c58
    try clear c59
    try clear c60
    try clear p64
    try clear c66
    try clear c67
    try clear c68
    try clear c68b0
    try clear c68b1
    try clear c69
    try clear c69b0
    try clear c70
    try clear c71
    try clear c72
    try clear c74
    try clear c74b0
    try clear c74b1
    try clear c74b2
    try clear c75
    try clear c76
    try clear c77
    try clear c79
    try clear c79b0
    try clear c80
    try clear c81
    try clear c82
    try clear c84
    try clear c85
    try clear c86
    try clear c88
    try clear c90
    try clear c90b0
    try clear c90b1
    try clear c90b2
    try clear c91
    try clear c92
    try clear c93
    try clear c96
    try clear c97
    try clear c97b0
    try clear c97b1
    try clear c97b2
    try clear c98
    try clear c99
    try clear c100
    try clear c103
    try clear c104
    try clear c105
    try clear c108
    try clear c108b0
    try clear c108b1
    try clear c108b2
    try clear c109
    try clear c110
    try clear c111
    try clear c114
    try clear c115
    try clear c116
    try clear hcz101_0
    try clear hcz101_1
    try clear hcz106_0
    try clear hcz106_1
    try clear hcz112_0
    try clear hcz112_1
    try clear hcz117_0
    try clear hcz117_1
    try clear hcz50_0
    try clear hcz50_1
    try clear hcz53_0
    try clear hcz53_1
    try clear hcz61_0
    try clear hcz61_1
    try clear hcz62_0
    try clear hcz62_1
    try clear hcz64_0
    try clear hcz64_1
    try clear hcz73_0
    try clear hcz73_1
    try clear hcz78_0
    try clear hcz78_1
    try clear hcz83_0
    try clear hcz83_1
    try clear hcz87_0
    try clear hcz87_1
    try clear hcz94_0
    try clear hcz94_1
    try clear hfz101_0
    try clear hfz101_1
    try clear hfz106_0
    try clear hfz106_1
    try clear hfz112_0
    try clear hfz112_1
    try clear hfz117_0
    try clear hfz117_1
    try clear hfz50_0
    try clear hfz50_1
    try clear hfz53_0
    try clear hfz53_1
    try clear hfz61_0
    try clear hfz61_1
    try clear hfz62_0
    try clear hfz62_1
    try clear hfz64_0
    try clear hfz64_1
    try clear hfz73_0
    try clear hfz73_1
    try clear hfz78_0
    try clear hfz78_1
    try clear hfz83_0
    try clear hfz83_1
    try clear hfz87_0
    try clear hfz87_1
    try clear hfz94_0
    try clear hfz94_1
    try clear p2
    try clear p6
    try clear p64
    obtain ⟨kq, HA, HJ39, HO_289000, HO_295000, HO_301000, BK288, BK294, BK300, HB⟩ := hcut
    rename_i zls2_00_0 zls2_00_1 zls2_00_2 zls2_00_3 zls2_00_4 zls2_00_5 zls2_00_6 zls2_00_7 zls2_00_8 zls2_00_9 zls2_00_10 zls2_00_11 zls2_00_12 zls2_00_13 zls2_00_14 zls2_00_15 zls2_00_16 zls2_00_17 zls2_00_18 zls2_00_19 zls2_00_20 zls2_00_21 zls2_00_22 zls2_00_23 zls2_00_24 zls2_00_25 zls2_00_26 zls2_00_27 zls2_00_28 zls2_00_29 zls2_00_30 zls2_00_31 zls2_00_32 zls2_00_33 zls2_00_34 zls2_00_35 zls2_00_36 zls2_00_37 zls2_00_38 zls2_00_39 zls2_00_40 zls2_00_41 zls2_00_42 zls2_00_43 zls2_00_44 zls2_00_45 zls2_00_46 zls2_00_47 zls2_00_48 zls2_00_49 zls2_00_50 zls2_00_51 zls2_00_52 zls2_00_53 zls2_00_54 zls2_00_55 zls2_00_56 zls2_00_57 zls2_00_58 zls2_00_59 zls2_00_60 zls2_00_61 zls2_00_62 zls2_00_63 zls2_00_64 zls2_00_65 zls2_00_66 zls2_00_67 zls2_00_68 zls2_00_69 zls2_00_70 zls2_00_71 zls2_00_72 zls2_00_73 zls2_00_74 zls2_00_75 zls2_00_76 zls2_00_77 zls2_00_78 zls2_00_79 zls2_00_80 zls2_00_81 zls2_00_82 zls2_00_83 zls2_00_84 zls2_00_85 zls2_00_86 zls2_00_87 zls2_00_88 zls2_00_89 zls2_00_90 zls2_00_91 zls2_00_92 zls2_00_93 zls2_00_94 zls2_00_95 zls2_00_96 zls2_00_97 zls2_00_98 zls2_00_99 zls2_00_100 zls2_00_101 zls2_00_102 zls2_00_103 zls2_00_104 zls2_00_105 zls2_00_106 zls2_00_107 zls2_00_108 zls2_00_109 zls2_00_110 zls2_00_111 zls2_00_112 zls2_00_113 zls2_00_114 zls2_00_115 zls2_00_116 zls2_00_117 zls2_00_118 zls2_00_119 zls2_00_120 zls2_00_121 zls2_00_122 zls2_00_123 zls2_00_124 zls2_00_125 zls2_00_126 zls2_00_127 zls2_00_128 zls2_00_129 zls2_00_130 zls2_00_131 zls2_00_132 zls2_00_133 zls2_00_134 zls2_00_135 zls2_00_136 zls2_00_137 zls2_00_138 zls2_00_139 zls2_00_140 zls2_00_141 zls2_00_142 zls2_00_143 zls2_00_144 zls2_00_145 zls2_00_146 zls2_00_147 zls2_00_148 zls2_00_149 zls2_00_150 zls2_00_151 zls2_00_152 zls2_00_153 zls2_00_154 zls2_00_155 zls2_00_156 zls2_00_157 zls2_00_158 zls2_00_159 zls2_00_160 zls2_00_161 zls2_00_162 zls2_00_163 zls2_00_164 zls2_00_165 zls2_00_166 zls2_00_167 zls2_00_168 zls2_00_169 zls2_00_170 zls2_00_171 zls2_00_172 zls2_00_173 zls2_00_174 zls2_00_175 zls2_00_176 zls2_00_177 zls2_00_178 zls2_00_179 zls2_00_180 zls2_00_181 zls2_00_182 zls2_00_183 zls2_00_184 zls2_00_185 zls2_00_186 zls2_00_187 zls2_00_188 zls2_00_189 zls2_00_190 zls2_00_191 zls2_00_192 zls2_00_193 zls2_00_194 zls2_00_195 zls2_00_196 zls2_00_197 zls2_00_198
    revert hu25 HR0 HC0 HR1 HC1 c3b0 t282 t285 t286 t287 A4 t289 t292 t293 A5 t295 t298 t299 A6 zz0_0 w8 gb288 w9 GW288 GE288 Ao10 co10 zz0_1 hcz11_0 hcz11_1 hfz11_0 hfz11_1 w12 gb294 w13 GW294 GE294 NB288_294 NB294_288 Ao14 co14 hnb15 hnc15 hcz16_0 hcz16_1 hfz16_0 hfz16_1 hcz17_0 hcz17_1 hfz17_0 hfz17_1 w18 gb300 w19 zz0_2 GW300 GE300 zz0_3 NB288_300 NB300_288 zz0_4 NB294_300 NB300_294 zz0_5 Ao20 co20 HO284 HO291 HO297 hnb21 hnc21 hnb22 hnc22 hcz23_0 hcz23_1 hfz23_0 hfz23_1 zls2_00_0 zls2_00_1 zls2_00_2 zls2_00_3 zls2_00_4 zls2_00_5 zls2_00_6 zls2_00_7 zls2_00_8 zls2_00_9 zls2_00_10 zls2_00_11 zls2_00_12 zls2_00_13 zls2_00_14 zls2_00_15 zls2_00_16 zls2_00_17 zls2_00_18 zls2_00_19 zls2_00_20 zls2_00_21 zls2_00_22 zls2_00_23 zls2_00_24 zls2_00_25 zls2_00_26 zls2_00_27 zls2_00_28 zls2_00_29 zls2_00_30 zls2_00_31 zls2_00_32 zls2_00_33 zls2_00_34 zls2_00_35 zls2_00_36 zls2_00_37 zls2_00_38 zls2_00_39 zls2_00_40 zls2_00_41 zls2_00_42 zls2_00_43 zls2_00_44 zls2_00_45 zls2_00_46 zls2_00_47 zls2_00_48 zls2_00_49 zls2_00_50 zls2_00_51 zls2_00_52 zls2_00_53 zls2_00_54 zls2_00_55 zls2_00_56 zls2_00_57 zls2_00_58 zls2_00_59 zls2_00_60 zls2_00_61 zls2_00_62 zls2_00_63 zls2_00_64 zls2_00_65 zls2_00_66 zls2_00_67 zls2_00_68 zls2_00_69 zls2_00_70 zls2_00_71 zls2_00_72 zls2_00_73 zls2_00_74 zls2_00_75 zls2_00_76 zls2_00_77 zls2_00_78 zls2_00_79 zls2_00_80 zls2_00_81 zls2_00_82 zls2_00_83 zls2_00_84 zls2_00_85 zls2_00_86 zls2_00_87 zls2_00_88 zls2_00_89 zls2_00_90 zls2_00_91 zls2_00_92 zls2_00_93 zls2_00_94 zls2_00_95 zls2_00_96 zls2_00_97 zls2_00_98 zls2_00_99 zls2_00_100 zls2_00_101 zls2_00_102 zls2_00_103 zls2_00_104 zls2_00_105 zls2_00_106 zls2_00_107 zls2_00_108 zls2_00_109 zls2_00_110 zls2_00_111 zls2_00_112 zls2_00_113 zls2_00_114 zls2_00_115 zls2_00_116 zls2_00_117 zls2_00_118 zls2_00_119 zls2_00_120 zls2_00_121 zls2_00_122 zls2_00_123 zls2_00_124 zls2_00_125 zls2_00_126 zls2_00_127 zls2_00_128 zls2_00_129 zls2_00_130 zls2_00_131 zls2_00_132 zls2_00_133 zls2_00_134 zls2_00_135 zls2_00_136 zls2_00_137 zls2_00_138 zls2_00_139 zls2_00_140 zls2_00_141 zls2_00_142 zls2_00_143 zls2_00_144 zls2_00_145 zls2_00_146 zls2_00_147 zls2_00_148 zls2_00_149 zls2_00_150 zls2_00_151 zls2_00_152 zls2_00_153 zls2_00_154 zls2_00_155 zls2_00_156 zls2_00_157 zls2_00_158 zls2_00_159 zls2_00_160 zls2_00_161 zls2_00_162 zls2_00_163 zls2_00_164 zls2_00_165 zls2_00_166 zls2_00_167 zls2_00_168 zls2_00_169 zls2_00_170 zls2_00_171 zls2_00_172 zls2_00_173 zls2_00_174 zls2_00_175 zls2_00_176 zls2_00_177 zls2_00_178 zls2_00_179 zls2_00_180 zls2_00_181 zls2_00_182 zls2_00_183 zls2_00_184 zls2_00_185 zls2_00_186 zls2_00_187 zls2_00_188 zls2_00_189 zls2_00_190 zls2_00_191 zls2_00_192 zls2_00_193 zls2_00_194 zls2_00_195 zls2_00_196 kj6 HJ6 zls2_00_197 zls2_00_198 wc u4 u12 u13 u14 u15 u16 u17 u18 u19 u20 u21 u22 u23 u35 u36 u37 u38 u39 u40 u41 u42 u43 u44 u45 u46 u47 u48 u49 u50 u51 u52 u53 u54 u55 u56 u57 u58 u59 u60 u61 u62 u63 u64 u65 u66 u67 u68 u69 u70 u71 u72 u73 u74 u75 u76 u77 u78 u79 u80 u81 u82 u83 u84 u85 u86 u87 u88 u89 u90 u91 u92 u93 u94 u95 u96 u97 u98 u99 u100 u101 u102 u103 u104 u105 u106 u107 u108 u109 u110 u111 u112 u113 u114 u115 u116 u117 u118 u119 u120 u121 u122 u123 u124 u125 u126 u127 u128 u129 u130 u131 u132 u133 u134 u135 u136 u137 u138 u139 u140 u141 u142 u143 u144 u145 u146 u147 u148 u149 u150 u151 u152 u153 u154 u155 u156 u157 u158 u159 u160 u161 u162 u163 u164 u168 u169 u170 u171 u172 u173 u174 u175 u176 u177 u178 u179 u180 u181 u182 u183 u184 u185 u186 u187 u188 u189 u190 u191 u192 u193 u194 u195 u196 u197 u201 u202 u203 u204 u205 u206 u207 u208 u209 u210 u211 u212 u213 u214 u215 u216 u217 u218 u219 u220 u221 u222 u223 u224 u225 u226 u227 u228 u229 kq HA HJ39 HO_289000 HO_295000 HO_301000 BK288 BK294 BK300 HB
    exact hT0.out
end Go.Proofs.Ytemeajidcggniaa.PFnSketch
