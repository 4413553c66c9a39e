-- Written by a program of this project (xprint.py) out of the translation; Lean checks it.
import Derived.Test.YtjkpomphkfecmaaDoorPFnQuotedx0
import Derived.Test.YtjkpomphkfecmaaDoorPFnQuotedx2
import Derived.Test.YtjkpomphkfecmaaDoorPFnQuotedx3
import Derived.Test.YtjkpomphkfecmaaDoorPFnQuotedx4
import Derived.Test.YtjkpomphkfecmaaDoorPFnQuotedx5
import Derived.Test.YtjkpomphkfecmaaDoorPFnQuotedx6
import Derived.Test.YtjkpomphkfecmaaDoorPFnQuotedx8
import Derived.Test.YtjkpomphkfecmaaDoorPFnQuotedx10
import Derived.Test.YtjkpomphkfecmaaDoorPFnQuotedx11
import Derived.Test.YtjkpomphkfecmaaDoorPFnQuotedx12
namespace Go.Proofs.YtjkpomphkfecmaaDoor.PFnQuoted
open Go.RowKit Go.Proofs.YtjkpomphkfecmaaDoorW.PrintWords Go.Proofs.YtjkpomphkfecmaaDoorW.PrintLast Go.Proofs.YtjkpomphkfecmaaDoorW.PrintMore
attribute [local go_sem] max2_int min2_int max_two min_two max_three min_three max_four min_four   -- for this text's walks alone
set_option linter.unusedVariables false
set_option linter.unusedSimpArgs false

set_option maxHeartbeats 8000000 in
set_option maxRecDepth 100000 in
theorem laws_FnQuoted.calls2_0 (k : Nat) (A0 : Option Addr) (c0 : Nat) (l0 : List Int) (A1 : Option Addr) (c1 : Nat) (l1 : List Int) (r : Bool) (w : World) :
  laws_FnQuoted.calls1.1 k A0 c0 l0 A1 c1 l1 r w := by
 conv => whnf
 intro HT hu31 HR0 HC0 HR1 HC1 t349 A4 t350 t351 A5 t352 t353 A6 zcalls0_0 w8 w9 zcalls0_1 nd zcalls0_2 zcalls0_3 zcalls0_4 zcalls0_5 zcalls0_6 zcalls0_7 zcalls0_8 zcalls0_9 zcalls0_10 zcalls0_11 zcalls0_12 zcalls0_13 zcalls0_14 zcalls0_15 zcalls0_16 zcalls0_17 zcalls0_18 zcalls0_19 zcalls0_20 zcalls0_21 zcalls0_22 zcalls0_23 zcalls0_24 zcalls0_25 zcalls0_26 zcalls0_27 zcalls0_28 zcalls0_29 zcalls0_30 zcalls0_31 zcalls0_32 zcalls0_33 zcalls0_34 zcalls0_35 zcalls0_36 zcalls0_37 zcalls0_38 zcalls0_39 zcalls0_40 zcalls0_41 zcalls0_42 zcalls0_43 zcalls0_44 zcalls0_45 zcalls0_46 zcalls0_47 zcalls0_48 zcalls0_49 zcalls0_50 zcalls0_51 zcalls0_52 zcalls0_53 zcalls0_54 zcalls0_55 zcalls0_56 zcalls0_57 zcalls0_58 zcalls0_59 zcalls0_60 zcalls0_61 zcalls0_62 zcalls0_63 zcalls0_64 zcalls0_65 zcalls0_66 zcalls0_67 zcalls0_68 zcalls0_69 zcalls0_70 zcalls0_71 zcalls0_72 zcalls0_73 zcalls0_74 zcalls0_75 zcalls0_76 zcalls0_77 zcalls0_78 zcalls0_79 zcalls0_80 zcalls0_81 zcalls0_82 zcalls0_83 zcalls0_84 zcalls0_85 zcalls0_86 zcalls0_87 zcalls0_88 zcalls0_89 zcalls0_90 zcalls0_91 zcalls0_92 zcalls0_93 zcalls0_94 zcalls0_95 zcalls0_96 zcalls0_97 zcalls0_98 zcalls0_99 zcalls0_100 zcalls0_101 zcalls0_102 zcalls0_103 zcalls0_104 zcalls0_105 zcalls0_106 zcalls0_107 zcalls0_108 zcalls0_109 zcalls0_110 zcalls0_111 zcalls0_112 zcalls0_113 zcalls0_114 zcalls0_115 zcalls0_116 zcalls0_117 zcalls0_118 zcalls0_119 zcalls0_120 zcalls0_121 zcalls0_122 zcalls0_123 zcalls0_124 zcalls0_125 zcalls0_126 zcalls0_127 zcalls0_128 zcalls0_129 zcalls0_130 zcalls0_131 zcalls0_132 zcalls0_133 zcalls0_134 zcalls0_135 zcalls0_136 zcalls0_137 zcalls0_138 zcalls0_139 zcalls0_140 zcalls0_141 zcalls0_142 zcalls0_143 zcalls0_144 zcalls0_145 zcalls0_146 zcalls0_147 zcalls0_148 zcalls0_149 zcalls0_150 zcalls0_151 zcalls0_152 zcalls0_153 zcalls0_154 zcalls0_155 zcalls0_156 zcalls0_157 zcalls0_158 zcalls0_159 zcalls0_160 zcalls0_161 zcalls0_162 zcalls0_163 zcalls0_164 zcalls0_165 zcalls0_166 zcalls0_167 zcalls0_168 zcalls0_169 zcalls0_170 zcalls0_171 zcalls0_172 zcalls0_173 zcalls0_174 zcalls0_175 zcalls0_176 zcalls0_177 zcalls0_178 zcalls0_179 zcalls0_180 zcalls0_181 zcalls0_182 zcalls0_183 zcalls0_184 kj6 HJ6 zcalls0_185 zcalls0_186 wc u4 u10 u11 u12 u13 u32 u33 u34 u35 u36 u37 u38 u39 u40 u41 u42 u43 u44 u45 u46 u47 u48 u49 u50 u51 u52 u53 u54 u55 u56 u57 u58 u59 u60 u61 u62 u63 u64 u65 u66 u67 u68 u69 u70 u71 u72 u73 u74 u75 u76 u77 u78 u79 u80 u81 u82 u83 u84 u85 u86 u87 u88 u89 u90 u91 u92 u93 u94 u95 u96 u97 u98 u99 u100 u101 u102 u103 u104 u105 u106 u107 u108 u109 u110 u111 u112 u113 u114 u115 u116 u117 u118 u119 u120 u121 u122 u123 u124 u125 u126 u127 u128 u129 u130 u131 u132 u133 u134 u135 u136 u137 u138 u139 u140 u141 u142 u143 u144 u145 u146 u147 u148 u149 u150 u151 u152 u153 u154 u155 u156 u157 u158 u159 u160 u161 u162 u163 u164 u165 u166 u167 u168 u169 u170 u174 u175 u176 u177 u178 u179 u180 u181 u182 u183 u184 u185 u186 u187 u188 u189 u190 u191 u192 u193 u194 u195 u196 u197 u198 u199 u200 u201 u202 u203 u204 u205 u206 u207 u208 u209 u210 u211 u212 u213 u214 u215 u216 kq HA HJ11 HB
 cases kq with
 | zero => exact absurd HA.out (by simp [laws_FnQuoted.j1])
 | succ kj11 =>
  have H := HA.out
  clear HA
  simp only [laws_FnQuoted.j1] at H
  replace H := Option.bind_eq_some_iff.mp H
  obtain ⟨⟨t362, t365, t366⟩, A440, H⟩ := H
  replace H : ((impl_SetField.f kj11 t362 t365 t366).bind fun bt368 => ((spec_SetField.f kj11 t362 t365 t366).bind fun bt372 => (if (bt368.2 != bt372.2) = true then (laws_FnQuoted.j2 kj11 t362 bt368.1 bt368.2 true t365 t366) else ((laws_sameFields.f kj11 bt368.1 bt372.1).bind fun t376 => (laws_FnQuoted.j2 kj11 t362 bt368.1 bt368.2 (!t376) t365 t366))))) = some r := H
  have A44 := Aside0.mk A440
  clear A440
  replace H := Option.bind_eq_some_iff.mp H
  obtain ⟨⟨t368, t371⟩, A450, H⟩ := H
  replace H : ((spec_SetField.f kj11 t362 t365 t366).bind fun bt372 => (if (t371 != bt372.2) = true then (laws_FnQuoted.j2 kj11 t362 t368 t371 true t365 t366) else ((laws_sameFields.f kj11 t368 bt372.1).bind fun t376 => (laws_FnQuoted.j2 kj11 t362 t368 t371 (!t376) t365 t366)))) = some r := H
  have A45 := Aside0.mk A450
  clear A450
  replace H := Option.bind_eq_some_iff.mp H
  obtain ⟨⟨t372, t375⟩, A460, H⟩ := H
  replace H : (if (t371 != t375) = true then (laws_FnQuoted.j2 kj11 t362 t368 t371 true t365 t366) else ((laws_sameFields.f kj11 t368 t372).bind fun t376 => (laws_FnQuoted.j2 kj11 t362 t368 t371 (!t376) t365 t366))) = some r := H
  have A46 := Aside0.mk A460
  clear A460
  have HC47 := Aside0.mk H
  clear H
  go_upto_region 16 with (first | (go_at_call 9; (with_reducible refine (spec_DrawSetField.calls kj11 _ _ l1 t362 t365 t366 _ ?side1 ?side2 A44.out).mono ?_); (case side1 => exact xc_ ((Kd.C_below HR1.out HB.out))); (case side2 => exact HC1.out); rintro e w48 ⟨v363, rfl, ho0, hb⟩; have HO364 := Aside0.mk (Kd.R_lower ho0 (below_size (xw_ HB))); replace HB := xws_ HB hb; (try clear hb); (try clear hb2); (try clear hk); (try clear hi); (try clear ho0)) | ((with_reducible refine gate_dst (N := 15) rfl ?_); (try (refine gate_guard (by rfl) ?_; dsimp only)); refine xbe_ (N := 15) (cs := #[.string (⟨#[]⟩ : ByteArray), .string (⟨#[]⟩ : ByteArray)]) (t := 31) ?_; intro gb367 hg w49 hbox hb; replace HO364 := Aside0.mk (Kd.R_below (Kd.R_elderB (xr_ HO364) gb367 (Nat.le_of_eq hg.symm)) hb); have BK367 := Aside0.mk (hbox); have GW367 := xge_ HB hg; have GE367 := xge_ HB hg; replace HB := xws_ HB hb; clear hb hbox hg; have hcz50_0 : w49.cell? ⟨gb367, 0, none⟩ = some (.string (⟨#[]⟩ : ByteArray)) := xk_ BK367 0; have hcz50_1 : w49.cell? ⟨gb367, 1, none⟩ = some (.string (⟨#[]⟩ : ByteArray)) := xk_ BK367 1; have hfz50_0 := blk_frozen BK367.out 0; have hfz50_1 := blk_frozen BK367.out 1; obtain ⟨Ao51, co51, eo51⟩ := Kd.R_slice HO364.out; subst eo51) | (go_at_call 10; (with_reducible refine (impl_SetField.calls kj11 _ _ t362 t365 t366 t368 t371 _ ?side1 ?side2 A45.out).mono ?_); (case side1 => refine (Kd.R_reads' (e := 31) (base := w.heap.size) (ok := fun k_ => (True ∧ k_ ≠ gb367)) (n := t362.length) (c := co51) ?_).2.2; exact (xrt_ ((Kd.R_mono (Kd.R_far (p := ⟨gb367, 1, none⟩) (Kd.R_far (p := ⟨gb367, 0, none⟩) (Kd.R_mono HO364.out (fun k_ hk => (⟨hk, hk.2⟩ : _ ∧ k_ ≠ gb367))) (fun _ hk => hk.2) (.string t365)) (fun _ hk => hk.2) (.string t366)) (fun _ h_ => h_.1))))); (case side2 => exact (Kd.R_reads' HO364.out).2.1); rintro e w52 ⟨v369, rfl, ho0, hb⟩; have HO370 := Aside0.mk (Kd.R_lower (Kd.R_newB (Kd.R_new' ho0 (Kd.R_lt (xrt_ ((Kd.R_mono (Kd.R_far (p := ⟨gb367, 1, none⟩) (Kd.R_far (p := ⟨gb367, 0, none⟩) (Kd.R_mono HO364.out (fun k_ hk => (⟨hk, hk.2⟩ : _ ∧ k_ ≠ gb367))) (fun _ hk => hk.2) (.string t365)) (fun _ hk => hk.2) (.string t366)) (fun _ h_ => h_.1)))))) (g := gb367) (o := .cells #[.string t365, .string t366] 31 (0, 0)) (by (with_reducible repeat (first | refine blk_drewN ?_ _ | refine blk_drew ?_ | refine blk_alloc ?_ _)); refine blk_put (cs := #[.string t365, .string (⟨#[]⟩ : ByteArray)]) ?_ 1 _ rfl; (with_reducible repeat (first | refine blk_drewN ?_ _ | refine blk_drew ?_ | refine blk_alloc ?_ _)); refine blk_put (cs := #[.string (⟨#[]⟩ : ByteArray), .string (⟨#[]⟩ : ByteArray)]) ?_ 0 _ rfl; (with_reducible repeat (first | refine blk_drewN ?_ _ | refine blk_drew ?_ | refine blk_alloc ?_ _)); exact BK367.out)) (below_size (xw_ HB))); replace HO364 := Aside0.mk (Kd.R_elder' (xrt_ ((Kd.R_mono (Kd.R_far (p := ⟨gb367, 1, none⟩) (Kd.R_far (p := ⟨gb367, 0, none⟩) (Kd.R_mono HO364.out (fun k_ hk => (⟨hk, hk.2⟩ : _ ∧ k_ ≠ gb367))) (fun _ hk => hk.2) (.string t365)) (fun _ hk => hk.2) (.string t366)) (fun _ h_ => h_.1)))) (Kd.R_base ho0) hb); replace BK367 := Aside0.mk (blk_below (g := gb367) (o := .cells #[.string t365, .string t366] 31 (0, 0)) (by (with_reducible repeat (first | refine blk_drewN ?_ _ | refine blk_drew ?_ | refine blk_alloc ?_ _)); refine blk_put (cs := #[.string t365, .string (⟨#[]⟩ : ByteArray)]) ?_ 1 _ rfl; (with_reducible repeat (first | refine blk_drewN ?_ _ | refine blk_drew ?_ | refine blk_alloc ?_ _)); refine blk_put (cs := #[.string (⟨#[]⟩ : ByteArray), .string (⟨#[]⟩ : ByteArray)]) ?_ 0 _ rfl; (with_reducible repeat (first | refine blk_drewN ?_ _ | refine blk_drew ?_ | refine blk_alloc ?_ _)); exact BK367.out) hb); replace HB := xws_ HB hb; (try clear hb); (try clear hb2); (try clear hk); (try clear hi); (try clear ho0); have hcz53_0 : w52.cell? ⟨gb367, 0, none⟩ = some (.string t365) := xk_ BK367 0; have hcz53_1 : w52.cell? ⟨gb367, 1, none⟩ = some (.string t366) := xk_ BK367 1; have hfz53_0 := blk_frozen BK367.out 0; have hfz53_1 := blk_frozen BK367.out 1) | (go_at_call 11; (with_reducible refine (spec_SetField.calls kj11 _ _ t362 t365 t366 t372 t375 _ ?side1 ?side2 A46.out).mono ?_); (case side1 => exact xc_ ((Kd.R_reads' HO364.out).2.2)); (case side2 => exact (Kd.R_reads' HO364.out).2.1); rintro e w54 ⟨v373, rfl, ho0, hb⟩; have HO374 := Aside0.mk (Kd.R_lower (Kd.R_newB (Kd.R_new' (Kd.R_new' ho0 (Kd.R_lt (xr_ HO364))) (Kd.R_lt (xr_ HO370))) (g := gb367) (o := .cells #[.string t365, .string t366] 31 (0, 0)) (xb_ BK367)) (below_size (xw_ HB))); replace HO364 := xre_ HO364 ho0 hb; replace HO370 := xre_ HO370 ho0 hb; replace BK367 := xbb_ BK367 hb; replace HB := xws_ HB hb; (try clear hb); (try clear hb2); (try clear hk); (try clear hi); (try clear ho0)))
  repeat ((try simp only [List.append_eq, List.cons_append, List.nil_append, List.append]); go_quiet (first | (go_at_call 9; (with_reducible refine (spec_DrawSetField.calls kj11 _ _ l1 t362 t365 t366 _ ?side1 ?side2 A44.out).mono ?_); (case side1 => exact xc_ ((Kd.C_below HR1.out HB.out))); (case side2 => exact HC1.out); rintro e w48 ⟨v363, rfl, ho0, hb⟩; have HO364 := Aside0.mk (Kd.R_lower ho0 (below_size (xw_ HB))); replace HB := xws_ HB hb; (try clear hb); (try clear hb2); (try clear hk); (try clear hi); (try clear ho0)) | ((with_reducible refine gate_dst (N := 15) rfl ?_); (try (refine gate_guard (by rfl) ?_; dsimp only)); refine xbe_ (N := 15) (cs := #[.string (⟨#[]⟩ : ByteArray), .string (⟨#[]⟩ : ByteArray)]) (t := 31) ?_; intro gb367 hg w49 hbox hb; replace HO364 := Aside0.mk (Kd.R_below (Kd.R_elderB (xr_ HO364) gb367 (Nat.le_of_eq hg.symm)) hb); have BK367 := Aside0.mk (hbox); have GW367 := xge_ HB hg; have GE367 := xge_ HB hg; replace HB := xws_ HB hb; clear hb hbox hg; have hcz50_0 : w49.cell? ⟨gb367, 0, none⟩ = some (.string (⟨#[]⟩ : ByteArray)) := xk_ BK367 0; have hcz50_1 : w49.cell? ⟨gb367, 1, none⟩ = some (.string (⟨#[]⟩ : ByteArray)) := xk_ BK367 1; have hfz50_0 := blk_frozen BK367.out 0; have hfz50_1 := blk_frozen BK367.out 1; obtain ⟨Ao51, co51, eo51⟩ := Kd.R_slice HO364.out; subst eo51) | (go_at_call 10; (with_reducible refine (impl_SetField.calls kj11 _ _ t362 t365 t366 t368 t371 _ ?side1 ?side2 A45.out).mono ?_); (case side1 => refine (Kd.R_reads' (e := 31) (base := w.heap.size) (ok := fun k_ => (True ∧ k_ ≠ gb367)) (n := t362.length) (c := co51) ?_).2.2; exact (xrt_ ((Kd.R_mono (Kd.R_far (p := ⟨gb367, 1, none⟩) (Kd.R_far (p := ⟨gb367, 0, none⟩) (Kd.R_mono HO364.out (fun k_ hk => (⟨hk, hk.2⟩ : _ ∧ k_ ≠ gb367))) (fun _ hk => hk.2) (.string t365)) (fun _ hk => hk.2) (.string t366)) (fun _ h_ => h_.1))))); (case side2 => exact (Kd.R_reads' HO364.out).2.1); rintro e w52 ⟨v369, rfl, ho0, hb⟩; have HO370 := Aside0.mk (Kd.R_lower (Kd.R_newB (Kd.R_new' ho0 (Kd.R_lt (xrt_ ((Kd.R_mono (Kd.R_far (p := ⟨gb367, 1, none⟩) (Kd.R_far (p := ⟨gb367, 0, none⟩) (Kd.R_mono HO364.out (fun k_ hk => (⟨hk, hk.2⟩ : _ ∧ k_ ≠ gb367))) (fun _ hk => hk.2) (.string t365)) (fun _ hk => hk.2) (.string t366)) (fun _ h_ => h_.1)))))) (g := gb367) (o := .cells #[.string t365, .string t366] 31 (0, 0)) (by (with_reducible repeat (first | refine blk_drewN ?_ _ | refine blk_drew ?_ | refine blk_alloc ?_ _)); refine blk_put (cs := #[.string t365, .string (⟨#[]⟩ : ByteArray)]) ?_ 1 _ rfl; (with_reducible repeat (first | refine blk_drewN ?_ _ | refine blk_drew ?_ | refine blk_alloc ?_ _)); refine blk_put (cs := #[.string (⟨#[]⟩ : ByteArray), .string (⟨#[]⟩ : ByteArray)]) ?_ 0 _ rfl; (with_reducible repeat (first | refine blk_drewN ?_ _ | refine blk_drew ?_ | refine blk_alloc ?_ _)); exact BK367.out)) (below_size (xw_ HB))); replace HO364 := Aside0.mk (Kd.R_elder' (xrt_ ((Kd.R_mono (Kd.R_far (p := ⟨gb367, 1, none⟩) (Kd.R_far (p := ⟨gb367, 0, none⟩) (Kd.R_mono HO364.out (fun k_ hk => (⟨hk, hk.2⟩ : _ ∧ k_ ≠ gb367))) (fun _ hk => hk.2) (.string t365)) (fun _ hk => hk.2) (.string t366)) (fun _ h_ => h_.1)))) (Kd.R_base ho0) hb); replace BK367 := Aside0.mk (blk_below (g := gb367) (o := .cells #[.string t365, .string t366] 31 (0, 0)) (by (with_reducible repeat (first | refine blk_drewN ?_ _ | refine blk_drew ?_ | refine blk_alloc ?_ _)); refine blk_put (cs := #[.string t365, .string (⟨#[]⟩ : ByteArray)]) ?_ 1 _ rfl; (with_reducible repeat (first | refine blk_drewN ?_ _ | refine blk_drew ?_ | refine blk_alloc ?_ _)); refine blk_put (cs := #[.string (⟨#[]⟩ : ByteArray), .string (⟨#[]⟩ : ByteArray)]) ?_ 0 _ rfl; (with_reducible repeat (first | refine blk_drewN ?_ _ | refine blk_drew ?_ | refine blk_alloc ?_ _)); exact BK367.out) hb); replace HB := xws_ HB hb; (try clear hb); (try clear hb2); (try clear hk); (try clear hi); (try clear ho0); have hcz53_0 : w52.cell? ⟨gb367, 0, none⟩ = some (.string t365) := xk_ BK367 0; have hcz53_1 : w52.cell? ⟨gb367, 1, none⟩ = some (.string t366) := xk_ BK367 1; have hfz53_0 := blk_frozen BK367.out 0; have hfz53_1 := blk_frozen BK367.out 1) | (go_at_call 11; (with_reducible refine (spec_SetField.calls kj11 _ _ t362 t365 t366 t372 t375 _ ?side1 ?side2 A46.out).mono ?_); (case side1 => exact xc_ ((Kd.R_reads' HO364.out).2.2)); (case side2 => exact (Kd.R_reads' HO364.out).2.1); rintro e w54 ⟨v373, rfl, ho0, hb⟩; have HO374 := Aside0.mk (Kd.R_lower (Kd.R_newB (Kd.R_new' (Kd.R_new' ho0 (Kd.R_lt (xr_ HO364))) (Kd.R_lt (xr_ HO370))) (g := gb367) (o := .cells #[.string t365, .string t366] 31 (0, 0)) (xb_ BK367)) (below_size (xw_ HB))); replace HO364 := xre_ HO364 ho0 hb; replace HO370 := xre_ HO370 ho0 hb; replace BK367 := xbb_ BK367 hb; replace HB := xws_ HB hb; (try clear hb); (try clear hb2); (try clear hk); (try clear hi); (try clear ho0))); go_upto_region 16 with (first | (go_at_call 9; (with_reducible refine (spec_DrawSetField.calls kj11 _ _ l1 t362 t365 t366 _ ?side1 ?side2 A44.out).mono ?_); (case side1 => exact xc_ ((Kd.C_below HR1.out HB.out))); (case side2 => exact HC1.out); rintro e w48 ⟨v363, rfl, ho0, hb⟩; have HO364 := Aside0.mk (Kd.R_lower ho0 (below_size (xw_ HB))); replace HB := xws_ HB hb; (try clear hb); (try clear hb2); (try clear hk); (try clear hi); (try clear ho0)) | ((with_reducible refine gate_dst (N := 15) rfl ?_); (try (refine gate_guard (by rfl) ?_; dsimp only)); refine xbe_ (N := 15) (cs := #[.string (⟨#[]⟩ : ByteArray), .string (⟨#[]⟩ : ByteArray)]) (t := 31) ?_; intro gb367 hg w49 hbox hb; replace HO364 := Aside0.mk (Kd.R_below (Kd.R_elderB (xr_ HO364) gb367 (Nat.le_of_eq hg.symm)) hb); have BK367 := Aside0.mk (hbox); have GW367 := xge_ HB hg; have GE367 := xge_ HB hg; replace HB := xws_ HB hb; clear hb hbox hg; have hcz50_0 : w49.cell? ⟨gb367, 0, none⟩ = some (.string (⟨#[]⟩ : ByteArray)) := xk_ BK367 0; have hcz50_1 : w49.cell? ⟨gb367, 1, none⟩ = some (.string (⟨#[]⟩ : ByteArray)) := xk_ BK367 1; have hfz50_0 := blk_frozen BK367.out 0; have hfz50_1 := blk_frozen BK367.out 1; obtain ⟨Ao51, co51, eo51⟩ := Kd.R_slice HO364.out; subst eo51) | (go_at_call 10; (with_reducible refine (impl_SetField.calls kj11 _ _ t362 t365 t366 t368 t371 _ ?side1 ?side2 A45.out).mono ?_); (case side1 => refine (Kd.R_reads' (e := 31) (base := w.heap.size) (ok := fun k_ => (True ∧ k_ ≠ gb367)) (n := t362.length) (c := co51) ?_).2.2; exact (xrt_ ((Kd.R_mono (Kd.R_far (p := ⟨gb367, 1, none⟩) (Kd.R_far (p := ⟨gb367, 0, none⟩) (Kd.R_mono HO364.out (fun k_ hk => (⟨hk, hk.2⟩ : _ ∧ k_ ≠ gb367))) (fun _ hk => hk.2) (.string t365)) (fun _ hk => hk.2) (.string t366)) (fun _ h_ => h_.1))))); (case side2 => exact (Kd.R_reads' HO364.out).2.1); rintro e w52 ⟨v369, rfl, ho0, hb⟩; have HO370 := Aside0.mk (Kd.R_lower (Kd.R_newB (Kd.R_new' ho0 (Kd.R_lt (xrt_ ((Kd.R_mono (Kd.R_far (p := ⟨gb367, 1, none⟩) (Kd.R_far (p := ⟨gb367, 0, none⟩) (Kd.R_mono HO364.out (fun k_ hk => (⟨hk, hk.2⟩ : _ ∧ k_ ≠ gb367))) (fun _ hk => hk.2) (.string t365)) (fun _ hk => hk.2) (.string t366)) (fun _ h_ => h_.1)))))) (g := gb367) (o := .cells #[.string t365, .string t366] 31 (0, 0)) (by (with_reducible repeat (first | refine blk_drewN ?_ _ | refine blk_drew ?_ | refine blk_alloc ?_ _)); refine blk_put (cs := #[.string t365, .string (⟨#[]⟩ : ByteArray)]) ?_ 1 _ rfl; (with_reducible repeat (first | refine blk_drewN ?_ _ | refine blk_drew ?_ | refine blk_alloc ?_ _)); refine blk_put (cs := #[.string (⟨#[]⟩ : ByteArray), .string (⟨#[]⟩ : ByteArray)]) ?_ 0 _ rfl; (with_reducible repeat (first | refine blk_drewN ?_ _ | refine blk_drew ?_ | refine blk_alloc ?_ _)); exact BK367.out)) (below_size (xw_ HB))); replace HO364 := Aside0.mk (Kd.R_elder' (xrt_ ((Kd.R_mono (Kd.R_far (p := ⟨gb367, 1, none⟩) (Kd.R_far (p := ⟨gb367, 0, none⟩) (Kd.R_mono HO364.out (fun k_ hk => (⟨hk, hk.2⟩ : _ ∧ k_ ≠ gb367))) (fun _ hk => hk.2) (.string t365)) (fun _ hk => hk.2) (.string t366)) (fun _ h_ => h_.1)))) (Kd.R_base ho0) hb); replace BK367 := Aside0.mk (blk_below (g := gb367) (o := .cells #[.string t365, .string t366] 31 (0, 0)) (by (with_reducible repeat (first | refine blk_drewN ?_ _ | refine blk_drew ?_ | refine blk_alloc ?_ _)); refine blk_put (cs := #[.string t365, .string (⟨#[]⟩ : ByteArray)]) ?_ 1 _ rfl; (with_reducible repeat (first | refine blk_drewN ?_ _ | refine blk_drew ?_ | refine blk_alloc ?_ _)); refine blk_put (cs := #[.string (⟨#[]⟩ : ByteArray), .string (⟨#[]⟩ : ByteArray)]) ?_ 0 _ rfl; (with_reducible repeat (first | refine blk_drewN ?_ _ | refine blk_drew ?_ | refine blk_alloc ?_ _)); exact BK367.out) hb); replace HB := xws_ HB hb; (try clear hb); (try clear hb2); (try clear hk); (try clear hi); (try clear ho0); have hcz53_0 : w52.cell? ⟨gb367, 0, none⟩ = some (.string t365) := xk_ BK367 0; have hcz53_1 : w52.cell? ⟨gb367, 1, none⟩ = some (.string t366) := xk_ BK367 1; have hfz53_0 := blk_frozen BK367.out 0; have hfz53_1 := blk_frozen BK367.out 1) | (go_at_call 11; (with_reducible refine (spec_SetField.calls kj11 _ _ t362 t365 t366 t372 t375 _ ?side1 ?side2 A46.out).mono ?_); (case side1 => exact xc_ ((Kd.R_reads' HO364.out).2.2)); (case side2 => exact (Kd.R_reads' HO364.out).2.1); rintro e w54 ⟨v373, rfl, ho0, hb⟩; have HO374 := Aside0.mk (Kd.R_lower (Kd.R_newB (Kd.R_new' (Kd.R_new' ho0 (Kd.R_lt (xr_ HO364))) (Kd.R_lt (xr_ HO370))) (g := gb367) (o := .cells #[.string t365, .string t366] 31 (0, 0)) (xb_ BK367)) (below_size (xw_ HB))); replace HO364 := xre_ HO364 ho0 hb; replace HO370 := xre_ HO370 ho0 hb; replace BK367 := xbb_ BK367 hb; replace HB := xws_ HB hb; (try clear hb); (try clear hb2); (try clear hk); (try clear hi); (try clear ho0))))
  (try simp only [Act.put, List.setIfInBounds_toArray, List.set_cons_zero, List.set_cons_succ])
  go_cut [126] (fun v126 wc => ∃ (kq : Nat) (x126_46 : Bool), v126 = .bool x126_46 ∧ Aside0 (laws_FnQuoted.j2 kq t362 t368 t371 x126_46 t365 t366 = some r) ∧ Aside0 (kq ≤ kj11) ∧ Aside0 (Kd.R k31 31 wc w.heap.size (fun k_ => some k_ ≠ (v369 : Value).ownBlock ∧ k_ ≠ gb367) (.slice Ao51 t362.length co51) t362) ∧ Aside0 (Kd.R k31 31 wc w.heap.size (fun k_ => some k_ ≠ ((.slice Ao51 t362.length co51) : Value).ownBlock ∧ k_ ≠ gb367) v369 t368) ∧ Aside0 (wc.heap[gb367]? = some (.cells #[.string t365, .string t366] 31 (0, 0))) ∧ Aside0 (Below w.heap.size w wc))
  case first =>
   have H := HC47.out
   clear HC47
   by_cases c55 : (t371 != t375) = true
   ·rw [if_pos c55] at H
    have c55b0 : (t371 != t375) = true := c55
    (try (have c55b1 : decide (t371 = t375) = false := by simpa using c55))
    (try (have c55b2 : (t371 == t375) = false := by simpa using c55))
    (try (have c55b3 : ¬ (t371 = t375) := by simpa using c55))
    clear c55
    (first | rw [c55b0] | (simp only [i64_w, i32_w]; rw [c55b0]) | skip)
    have H' := Aside0.mk H
    clear H
    go_wp2
    repeat ((try simp only [List.append_eq, List.cons_append, List.nil_append, List.append]); go_quiet (fail); try go_wp2)
    go_meet
    case rel => exact ⟨_, (true), (by first | rfl | (simp; done) | (simp [*]; done)), H', ⟨by have := HJ6.out; have := HJ11.out; first | omega | exact Nat.le_refl _⟩, ⟨xrt_ (Kd.R_mono HO364.out (fun _ hk => ⟨hk.1.2, hk.1.1.2⟩))⟩, ⟨xrt_ (Kd.R_mono HO370.out (fun _ hk => ⟨hk.1.1.2, hk.1.2⟩))⟩, ⟨xb_ BK367⟩, ⟨xw_ HB⟩⟩
   ·rw [if_neg c55] at H
    have c55b0 : (t371 != t375) = false := by simpa using c55
    (try (have c55b1 : decide (t371 = t375) = true := by simpa using c55))
    (try (have c55b2 : (t371 == t375) = true := by simpa using c55))
    clear c55
    (first | rw [c55b0] | (simp only [i64_w, i32_w]; rw [c55b0]) | skip)
    replace H := Option.bind_eq_some_iff.mp H
    obtain ⟨t376, A560, H⟩ := H
    replace H : (laws_FnQuoted.j2 kj11 t362 t368 t371 (!t376) t365 t366) = some r := H
    have A56 := Aside0.mk A560
    clear A560
    have H' := Aside0.mk H
    clear H
    obtain ⟨Ao57, co57, eo57⟩ := Kd.R_slice HO370.out
    subst eo57
    obtain ⟨Ao58, co58, eo58⟩ := Kd.R_slice HO374.out
    subst eo58
    go_wp2_with (first | (go_at_call 12; (with_reducible refine (laws_sameFields.calls kj11 _ _ t368 _ _ t372 t376 _ ?side1 ?side2 ?side3 ?side4 A56.out).mono ?_); (case side1 => exact xc_ ((Kd.R_reads' HO370.out).2.2)); (case side2 => exact (Kd.R_reads' HO370.out).2.1); (case side3 => exact xc_ ((Kd.R_reads' HO374.out).2.2)); (case side4 => exact (Kd.R_reads' HO374.out).2.1); rintro e w' ⟨rfl, ⟨nd, rfl⟩⟩; (try first | exact ⟨rfl, _, World.drewN_drewN _ _ _⟩ | exact ⟨rfl, _, Eq.trans (World.drewN_drewN _ _ _) (congrArg (World.drewN _) (Nat.add_assoc _ _ _))⟩)))
    repeat ((try simp only [List.append_eq, List.cons_append, List.nil_append, List.append]); go_quiet (first | (go_at_call 12; (with_reducible refine (laws_sameFields.calls kj11 _ _ t368 _ _ t372 t376 _ ?side1 ?side2 ?side3 ?side4 A56.out).mono ?_); (case side1 => exact xc_ ((Kd.R_reads' HO370.out).2.2)); (case side2 => exact (Kd.R_reads' HO370.out).2.1); (case side3 => exact xc_ ((Kd.R_reads' HO374.out).2.2)); (case side4 => exact (Kd.R_reads' HO374.out).2.1); rintro e w' ⟨rfl, ⟨nd, rfl⟩⟩; (try first | exact ⟨rfl, _, World.drewN_drewN _ _ _⟩ | exact ⟨rfl, _, Eq.trans (World.drewN_drewN _ _ _) (congrArg (World.drewN _) (Nat.add_assoc _ _ _))⟩))); try go_wp2_with (first | (go_at_call 12; (with_reducible refine (laws_sameFields.calls kj11 _ _ t368 _ _ t372 t376 _ ?side1 ?side2 ?side3 ?side4 A56.out).mono ?_); (case side1 => exact xc_ ((Kd.R_reads' HO370.out).2.2)); (case side2 => exact (Kd.R_reads' HO370.out).2.1); (case side3 => exact xc_ ((Kd.R_reads' HO374.out).2.2)); (case side4 => exact (Kd.R_reads' HO374.out).2.1); rintro e w' ⟨rfl, ⟨nd, rfl⟩⟩; (try first | exact ⟨rfl, _, World.drewN_drewN _ _ _⟩ | exact ⟨rfl, _, Eq.trans (World.drewN_drewN _ _ _) (congrArg (World.drewN _) (Nat.add_assoc _ _ _))⟩))))
    go_meet
    case rel => exact ⟨_, (!t376), (by first | rfl | (simp; done) | (simp [*]; done)), H', ⟨by have := HJ6.out; have := HJ11.out; first | omega | exact Nat.le_refl _⟩, ⟨xrt_ (Kd.R_mono HO364.out (fun _ hk => ⟨hk.1.2, hk.1.1.2⟩))⟩, ⟨xrt_ (Kd.R_mono HO370.out (fun _ hk => ⟨hk.1.1.2, hk.1.2⟩))⟩, ⟨xb_ BK367⟩, ⟨xw_ HB⟩⟩
  case rest =>
   clear HC47
   try clear c1
   try clear c2
   try clear p2
   try clear c3
   try clear c3b0
   try clear p3
   try clear q3
   try clear hx3
   try clear qi3
   try clear c5
   try clear p6
   try clear c10
   try clear c10b0
   try clear c10b1
   try clear c10b2
   try clear c11
   try clear c13
   try clear c15
   try clear c15b0
   try clear c15b1
   try clear c15b2
   try clear c16
   try clear c16b0
   try clear c16b1
   try clear c16b2
   try clear c18
   try clear c19
   try clear c19b0
   try clear c19b1
   try clear c20
   try clear c21
   try clear c21b0
   try clear c21b1
   try clear c22
   try clear c22b0
   try clear c22b1
   try clear c23
   try clear c23b0
   try clear c23b1
   try clear c24
   try clear c24b0
   try clear c24b1
   try clear c25
   try clear c25b0
   try clear c25b1
   try clear p36
   try clear q36
   try clear hx36
   try clear qi36
   try clear c55
   try clear c55b0
   try clear c55b1
   try clear c55b2
   try clear hcz50_0
   try clear hcz50_1
   try clear hcz53_0
   try clear hcz53_1
   try clear hfz50_0
   try clear hfz50_1
   try clear hfz53_0
   try clear hfz53_1
   try clear hx360_0
   try clear hx361_0
   try clear p2
   try clear p3
   try clear p36
   try clear p360
   try clear p361
   try clear p6
   try clear q3
   try clear q36
   try clear q360
   try clear q361
   obtain ⟨kq, x126_46, rfl, HA, HJ46, HO_14, HO_16, BK367, HB⟩ := hcut
   cases kq with
   | zero => exact absurd HA.out (by simp [laws_FnQuoted.j2])
   | succ kj46 =>
    have H := HA.out
    clear HA
    simp only [laws_FnQuoted.j2] at H
    by_cases c59 : x126_46 = true
    ·subst c59
     have H1 : (some false) = some r := by rw [if_pos rfl] at H; exact H
     clear H
     have H := H1
     clear H1
     exact absurd ((Option.some.inj H).trans HT.out) Bool.false_ne_true
    ·replace c59 := Bool.eq_false_iff.mpr c59
     subst c59
     have H1 : (if t371 = true then ((impl_ValuesOf.f kj46 t368 t365).bind fun bt377 => ((impl_JoinedOf.f kj46 t368 t365).bind fun bt381 => (if bt377.2 = true then (if bt381.2 = true then (if (bt377.1.length : Int) = 1 then (if 0 < (bt377.1.length : Int) then (if (rdOf ByteArray.empty bt377.1 0).toList = t366.toList then (laws_FnQuoted.j3 kj46 t362 t368 (bt381.1.toList != t366.toList) t365 t366) else (laws_FnQuoted.j3 kj46 t362 t368 true t365 t366)) else (none)) else (laws_FnQuoted.j3 kj46 t362 t368 true t365 t366)) else (laws_FnQuoted.j3 kj46 t362 t368 true t365 t366)) else (laws_FnQuoted.j3 kj46 t362 t368 true t365 t366)))) else (some ((t368.length : Int) == 0))) = some r := by rw [if_neg (show ¬ (false = true) by decide)] at H; exact H
     clear H
     have H := H1
     clear H1
     by_cases c60 : t371 = true
     ·subst c60
      have H1 : ((impl_ValuesOf.f kj46 t368 t365).bind fun bt377 => ((impl_JoinedOf.f kj46 t368 t365).bind fun bt381 => (if bt377.2 = true then (if bt381.2 = true then (if (bt377.1.length : Int) = 1 then (if 0 < (bt377.1.length : Int) then (if (rdOf ByteArray.empty bt377.1 0).toList = t366.toList then (laws_FnQuoted.j3 kj46 t362 t368 (bt381.1.toList != t366.toList) t365 t366) else (laws_FnQuoted.j3 kj46 t362 t368 true t365 t366)) else (none)) else (laws_FnQuoted.j3 kj46 t362 t368 true t365 t366)) else (laws_FnQuoted.j3 kj46 t362 t368 true t365 t366)) else (laws_FnQuoted.j3 kj46 t362 t368 true t365 t366)))) = some r := by rw [if_pos rfl] at H; exact H
      clear H
      have H := H1
      clear H1
      replace H := Option.bind_eq_some_iff.mp H
      obtain ⟨⟨t377, t378⟩, A610, H⟩ := H
      replace H : ((impl_JoinedOf.f kj46 t368 t365).bind fun bt381 => (if t378 = true then (if bt381.2 = true then (if (t377.length : Int) = 1 then (if 0 < (t377.length : Int) then (if (rdOf ByteArray.empty t377 0).toList = t366.toList then (laws_FnQuoted.j3 kj46 t362 t368 (bt381.1.toList != t366.toList) t365 t366) else (laws_FnQuoted.j3 kj46 t362 t368 true t365 t366)) else (none)) else (laws_FnQuoted.j3 kj46 t362 t368 true t365 t366)) else (laws_FnQuoted.j3 kj46 t362 t368 true t365 t366)) else (laws_FnQuoted.j3 kj46 t362 t368 true t365 t366))) = some r := H
      have A61 := Aside0.mk A610
      clear A610
      replace H := Option.bind_eq_some_iff.mp H
      obtain ⟨⟨t381, t382⟩, A620, H⟩ := H
      replace H : (if t378 = true then (if t382 = true then (if (t377.length : Int) = 1 then (if 0 < (t377.length : Int) then (if (rdOf ByteArray.empty t377 0).toList = t366.toList then (laws_FnQuoted.j3 kj46 t362 t368 (t381.toList != t366.toList) t365 t366) else (laws_FnQuoted.j3 kj46 t362 t368 true t365 t366)) else (none)) else (laws_FnQuoted.j3 kj46 t362 t368 true t365 t366)) else (laws_FnQuoted.j3 kj46 t362 t368 true t365 t366)) else (laws_FnQuoted.j3 kj46 t362 t368 true t365 t366)) = some r := H
      have A62 := Aside0.mk A620
      clear A620
      have HC63 := Aside0.mk H
      clear H
      have hcz64_0 : wc.cell? ⟨gb367, 0, none⟩ = some (.string t365) := xk_ BK367 0
      have hcz64_1 : wc.cell? ⟨gb367, 1, none⟩ = some (.string t366) := xk_ BK367 1
      have hfz64_0 := blk_frozen BK367.out 0
      have hfz64_1 := blk_frozen BK367.out 1
      obtain ⟨Ao65, co65, eo65⟩ := Kd.R_slice HO_16.out
      subst eo65
      go_upto_region 22 with (first | (go_at_call 13; (with_reducible refine (impl_ValuesOf.calls kj46 _ _ t368 t365 t377 t378 _ ?side1 ?side2 A61.out).mono ?_); (case side1 => exact xc_ ((Kd.R_reads' HO_16.out).2.2)); (case side2 => exact (Kd.R_reads' HO_16.out).2.1); rintro e w66 ⟨v379, rfl, ho0, hb⟩; replace HO_14 := xrb_ HO_14 hb; replace HO_16 := xrb_ HO_16 hb; have HO380 := Aside0.mk (Kd.R_lower ho0 (below_size (xw_ HB))); replace BK367 := xbb_ BK367 hb; replace HB := xws_ HB hb; (try clear hb); (try clear hb2); (try clear hk); (try clear hi); (try clear ho0); have hcz67_0 : w66.cell? ⟨gb367, 0, none⟩ = some (.string t365) := xk_ BK367 0; have hcz67_1 : w66.cell? ⟨gb367, 1, none⟩ = some (.string t366) := xk_ BK367 1; have hfz67_0 := blk_frozen BK367.out 0; have hfz67_1 := blk_frozen BK367.out 1) | (go_at_call 14; (with_reducible refine (impl_JoinedOf.calls kj46 _ _ t368 t365 t381 t382 _ ?side1 ?side2 A62.out).mono ?_); (case side1 => exact xc_ ((Kd.R_reads' HO_16.out).2.2)); (case side2 => exact (Kd.R_reads' HO_16.out).2.1); rintro e w68 ⟨rfl, hb⟩; replace HO_14 := xrb_ HO_14 hb; replace HO_16 := xrb_ HO_16 hb; replace HO380 := xrb_ HO380 hb; replace BK367 := xbb_ BK367 hb; replace HB := xws_ HB hb; (try clear hb); (try clear hb2); (try clear hk); (try clear hi)))
      repeat ((try simp only [List.append_eq, List.cons_append, List.nil_append, List.append]); go_quiet (first | (go_at_call 13; (with_reducible refine (impl_ValuesOf.calls kj46 _ _ t368 t365 t377 t378 _ ?side1 ?side2 A61.out).mono ?_); (case side1 => exact xc_ ((Kd.R_reads' HO_16.out).2.2)); (case side2 => exact (Kd.R_reads' HO_16.out).2.1); rintro e w66 ⟨v379, rfl, ho0, hb⟩; replace HO_14 := xrb_ HO_14 hb; replace HO_16 := xrb_ HO_16 hb; have HO380 := Aside0.mk (Kd.R_lower ho0 (below_size (xw_ HB))); replace BK367 := xbb_ BK367 hb; replace HB := xws_ HB hb; (try clear hb); (try clear hb2); (try clear hk); (try clear hi); (try clear ho0); have hcz67_0 : w66.cell? ⟨gb367, 0, none⟩ = some (.string t365) := xk_ BK367 0; have hcz67_1 : w66.cell? ⟨gb367, 1, none⟩ = some (.string t366) := xk_ BK367 1; have hfz67_0 := blk_frozen BK367.out 0; have hfz67_1 := blk_frozen BK367.out 1) | (go_at_call 14; (with_reducible refine (impl_JoinedOf.calls kj46 _ _ t368 t365 t381 t382 _ ?side1 ?side2 A62.out).mono ?_); (case side1 => exact xc_ ((Kd.R_reads' HO_16.out).2.2)); (case side2 => exact (Kd.R_reads' HO_16.out).2.1); rintro e w68 ⟨rfl, hb⟩; replace HO_14 := xrb_ HO_14 hb; replace HO_16 := xrb_ HO_16 hb; replace HO380 := xrb_ HO380 hb; replace BK367 := xbb_ BK367 hb; replace HB := xws_ HB hb; (try clear hb); (try clear hb2); (try clear hk); (try clear hi))); go_upto_region 22 with (first | (go_at_call 13; (with_reducible refine (impl_ValuesOf.calls kj46 _ _ t368 t365 t377 t378 _ ?side1 ?side2 A61.out).mono ?_); (case side1 => exact xc_ ((Kd.R_reads' HO_16.out).2.2)); (case side2 => exact (Kd.R_reads' HO_16.out).2.1); rintro e w66 ⟨v379, rfl, ho0, hb⟩; replace HO_14 := xrb_ HO_14 hb; replace HO_16 := xrb_ HO_16 hb; have HO380 := Aside0.mk (Kd.R_lower ho0 (below_size (xw_ HB))); replace BK367 := xbb_ BK367 hb; replace HB := xws_ HB hb; (try clear hb); (try clear hb2); (try clear hk); (try clear hi); (try clear ho0); have hcz67_0 : w66.cell? ⟨gb367, 0, none⟩ = some (.string t365) := xk_ BK367 0; have hcz67_1 : w66.cell? ⟨gb367, 1, none⟩ = some (.string t366) := xk_ BK367 1; have hfz67_0 := blk_frozen BK367.out 0; have hfz67_1 := blk_frozen BK367.out 1) | (go_at_call 14; (with_reducible refine (impl_JoinedOf.calls kj46 _ _ t368 t365 t381 t382 _ ?side1 ?side2 A62.out).mono ?_); (case side1 => exact xc_ ((Kd.R_reads' HO_16.out).2.2)); (case side2 => exact (Kd.R_reads' HO_16.out).2.1); rintro e w68 ⟨rfl, hb⟩; replace HO_14 := xrb_ HO_14 hb; replace HO_16 := xrb_ HO_16 hb; replace HO380 := xrb_ HO380 hb; replace BK367 := xbb_ BK367 hb; replace HB := xws_ HB hb; (try clear hb); (try clear hb2); (try clear hk); (try clear hi))))
      (try simp only [Act.put, List.setIfInBounds_toArray, List.set_cons_zero, List.set_cons_succ])
      go_cut [170] (fun v170 wc => ∃ (kq : Nat) (x170_62 : Bool), v170 = .bool x170_62 ∧ Aside0 (laws_FnQuoted.j3 kq t362 t368 x170_62 t365 t366 = some r) ∧ Aside0 (kq ≤ kj46) ∧ Aside0 (Kd.R k31 31 wc w.heap.size (fun k_ => some k_ ≠ ((.slice Ao65 t368.length co65) : Value).ownBlock ∧ k_ ≠ gb367) (.slice Ao51 t362.length co51) t362) ∧ Aside0 (Kd.R k31 31 wc w.heap.size (fun k_ => some k_ ≠ ((.slice Ao51 t362.length co51) : Value).ownBlock ∧ k_ ≠ gb367) (.slice Ao65 t368.length co65) t368) ∧ Aside0 (wc.heap[gb367]? = some (.cells #[.string t365, .string t366] 31 (0, 0))) ∧ Aside0 (Below w.heap.size w wc))
      case first =>
       have H := HC63.out
       clear HC63
       by_cases c69 : t378 = true
       ·subst c69
        have H1 : (if t382 = true then (if (t377.length : Int) = 1 then (if 0 < (t377.length : Int) then (if (rdOf ByteArray.empty t377 0).toList = t366.toList then (laws_FnQuoted.j3 kj46 t362 t368 (t381.toList != t366.toList) t365 t366) else (laws_FnQuoted.j3 kj46 t362 t368 true t365 t366)) else (none)) else (laws_FnQuoted.j3 kj46 t362 t368 true t365 t366)) else (laws_FnQuoted.j3 kj46 t362 t368 true t365 t366)) = some r := by rw [if_pos rfl] at H; exact H
        clear H
        have H := H1
        clear H1
        by_cases c70 : t382 = true
        ·subst c70
         have H1 : (if (t377.length : Int) = 1 then (if 0 < (t377.length : Int) then (if (rdOf ByteArray.empty t377 0).toList = t366.toList then (laws_FnQuoted.j3 kj46 t362 t368 (t381.toList != t366.toList) t365 t366) else (laws_FnQuoted.j3 kj46 t362 t368 true t365 t366)) else (none)) else (laws_FnQuoted.j3 kj46 t362 t368 true t365 t366)) = some r := by rw [if_pos rfl] at H; exact H
         clear H
         have H := H1
         clear H1
         by_cases c71 : (t377.length : Int) = 1
         ·rw [if_pos c71] at H
          have c71b0 : ((t377.length : Int) == 1) = true := beq_iff_eq.mpr c71
          have c71b1 : ((t377.length : Int) != 1) = false := bne_eq_false_iff_eq.mpr c71
          clear c71
          (first | rw [c71b0] | (simp only [i64_w, i32_w]; rw [c71b0]) | skip)
          by_cases c72 : 0 < (t377.length : Int)
          ·rw [if_pos c72] at H
           have c72b0 : decide (0 < (t377.length : Int)) = true := decide_eq_true c72
           have c72b1 : decide (0 < t377.length) = true := decide_eq_true (by omega)
           clear c72
           by_cases c73 : (rdOf ByteArray.empty t377 0).toList = t366.toList
           ·rw [if_pos c73] at H
            have c73b0 : ((rdOf ByteArray.empty t377 0).toList == t366.toList) = true := beq_iff_eq.mpr c73
            have c73b1 : ((rdOf ByteArray.empty t377 0).toList != t366.toList) = false := bne_eq_false_iff_eq.mpr c73
            clear c73
            have H' := Aside0.mk H
            clear H
            obtain ⟨Ao74, co74, eo74⟩ := Kd.R_slice HO380.out
            subst eo74
            have p383 : 0 ≤ (0 : Int) := (by omega)
            have q383 : 0 < (t377.length : Int) := of_decide_eq_true (by first | (with_reducible assumption) | assumption)
            obtain ⟨ad383, e383, hx383_0⟩ := Kd.at_string (Kd.R_reads' HO380.out).2.2 0 p383 q383
            cases e383
            have qi383 : (0 < t377.length) = True := eq_true (by omega)
            (try rw [show ((0 : Int)).toNat = 0 from rfl] at hx383_0)
            (try rw [Addr.add_zero'] at hx383_0)
            replace p383 := eq_true p383
            replace q383 := eq_true q383
            have hcz75_0 : w68.cell? ⟨gb367, 0, none⟩ = some (.string t365) := xk_ BK367 0
            have hcz75_1 : w68.cell? ⟨gb367, 1, none⟩ = some (.string t366) := xk_ BK367 1
            have hfz75_0 := blk_frozen BK367.out 0
            have hfz75_1 := blk_frozen BK367.out 1
            go_wp2
            repeat ((try simp only [List.append_eq, List.cons_append, List.nil_append, List.append]); go_quiet (fail); try go_wp2)
            go_meet
            case rel => exact ⟨_, ((t381.toList != t366.toList)), (by first | rfl | (simp; done) | (simp [*]; done)), H', ⟨by have := HJ6.out; have := HJ11.out; have := HJ46.out; first | omega | exact Nat.le_refl _⟩, ⟨xr_ HO_14⟩, ⟨xr_ HO_16⟩, ⟨xb_ BK367⟩, ⟨xw_ HB⟩⟩
           ·rw [if_neg c73] at H
            have c73b0 : ((rdOf ByteArray.empty t377 0).toList == t366.toList) = false := beq_eq_false_iff_ne.mpr c73
            have c73b1 : ((rdOf ByteArray.empty t377 0).toList != t366.toList) = true := bne_iff_ne.mpr c73
            have H' := Aside0.mk H
            clear H
            obtain ⟨Ao76, co76, eo76⟩ := Kd.R_slice HO380.out
            subst eo76
            have p383 : 0 ≤ (0 : Int) := (by omega)
            have q383 : 0 < (t377.length : Int) := of_decide_eq_true (by first | (with_reducible assumption) | assumption)
            obtain ⟨ad383, e383, hx383_0⟩ := Kd.at_string (Kd.R_reads' HO380.out).2.2 0 p383 q383
            cases e383
            have qi383 : (0 < t377.length) = True := eq_true (by omega)
            (try rw [show ((0 : Int)).toNat = 0 from rfl] at hx383_0)
            (try rw [Addr.add_zero'] at hx383_0)
            replace p383 := eq_true p383
            replace q383 := eq_true q383
            have hcz77_0 : w68.cell? ⟨gb367, 0, none⟩ = some (.string t365) := xk_ BK367 0
            have hcz77_1 : w68.cell? ⟨gb367, 1, none⟩ = some (.string t366) := xk_ BK367 1
            have hfz77_0 := blk_frozen BK367.out 0
            have hfz77_1 := blk_frozen BK367.out 1
            go_wp2
            repeat ((try simp only [List.append_eq, List.cons_append, List.nil_append, List.append]); go_quiet (fail); try go_wp2)
            go_meet
            case rel => exact ⟨_, (true), (by first | rfl | (simp; done) | (simp [*]; done)), H', ⟨by have := HJ6.out; have := HJ11.out; have := HJ46.out; first | omega | exact Nat.le_refl _⟩, ⟨xr_ HO_14⟩, ⟨xr_ HO_16⟩, ⟨xb_ BK367⟩, ⟨xw_ HB⟩⟩
          ·rw [if_neg c72] at H
           exact absurd H (by simp)
         ·rw [if_neg c71] at H
          have c71b0 : ((t377.length : Int) == 1) = false := beq_eq_false_iff_ne.mpr c71
          have c71b1 : ((t377.length : Int) != 1) = true := bne_iff_ne.mpr c71
          (first | rw [c71b0] | (simp only [i64_w, i32_w]; rw [c71b0]) | skip)
          have H' := Aside0.mk H
          clear H
          obtain ⟨Ao78, co78, eo78⟩ := Kd.R_slice HO380.out
          subst eo78
          go_wp2
          repeat ((try simp only [List.append_eq, List.cons_append, List.nil_append, List.append]); go_quiet (fail); try go_wp2)
          go_meet
          case rel => exact ⟨_, (true), (by first | rfl | (simp; done) | (simp [*]; done)), H', ⟨by have := HJ6.out; have := HJ11.out; have := HJ46.out; first | omega | exact Nat.le_refl _⟩, ⟨xr_ HO_14⟩, ⟨xr_ HO_16⟩, ⟨xb_ BK367⟩, ⟨xw_ HB⟩⟩
        ·replace c70 := Bool.eq_false_iff.mpr c70
         subst c70
         have H1 : (laws_FnQuoted.j3 kj46 t362 t368 true t365 t366) = some r := by rw [if_neg (show ¬ (false = true) by decide)] at H; exact H
         clear H
         have H := H1
         clear H1
         have H' := Aside0.mk H
         clear H
         go_wp2
         repeat ((try simp only [List.append_eq, List.cons_append, List.nil_append, List.append]); go_quiet (fail); try go_wp2)
         go_meet
         case rel => exact ⟨_, (true), (by first | rfl | (simp; done) | (simp [*]; done)), H', ⟨by have := HJ6.out; have := HJ11.out; have := HJ46.out; first | omega | exact Nat.le_refl _⟩, ⟨xr_ HO_14⟩, ⟨xr_ HO_16⟩, ⟨xb_ BK367⟩, ⟨xw_ HB⟩⟩
       ·replace c69 := Bool.eq_false_iff.mpr c69
        subst c69
        have H1 : (laws_FnQuoted.j3 kj46 t362 t368 true t365 t366) = some r := by rw [if_neg (show ¬ (false = true) by decide)] at H; exact H
        clear H
        have H := H1
        clear H1
        have H' := Aside0.mk H
        clear H
        go_wp2
        repeat ((try simp only [List.append_eq, List.cons_append, List.nil_append, List.append]); go_quiet (fail); try go_wp2)
        go_meet
        case rel => exact ⟨_, (true), (by first | rfl | (simp; done) | (simp [*]; done)), H', ⟨by have := HJ6.out; have := HJ11.out; have := HJ46.out; first | omega | exact Nat.le_refl _⟩, ⟨xr_ HO_14⟩, ⟨xr_ HO_16⟩, ⟨xb_ BK367⟩, ⟨xw_ HB⟩⟩
      case rest =>
       clear HC63
       try clear c1
       try clear c2
       try clear p2
       try clear c3
       try clear c3b0
       try clear p3
       try clear q3
       try clear hx3
       try clear qi3
       try clear c5
       try clear c6
       try clear p6
       try clear c7
       try clear c10
       try clear c10b0
       try clear c10b1
       try clear c10b2
       try clear c11
       try clear c13
       try clear c15
       try clear c15b0
       try clear c15b1
       try clear c15b2
       try clear c16
       try clear c16b0
       try clear c16b1
       try clear c16b2
       try clear c18
       try clear c19
       try clear c19b0
       try clear c19b1
       try clear c20
       try clear c21
       try clear c21b0
       try clear c21b1
       try clear c22
       try clear c22b0
       try clear c22b1
       try clear c23
       try clear c23b0
       try clear c23b1
       try clear c24
       try clear c24b0
       try clear c24b1
       try clear c25
       try clear c25b0
       try clear c25b1
       try clear p36
       try clear q36
       try clear hx36
       try clear qi36
       try clear p38
       try clear q38
       try clear hx38
       try clear qi38
       try clear c55
       try clear c55b0
       try clear c55b1
       try clear c55b2
       try clear c59
       try clear c60
       try clear c69
       try clear c70
       try clear c71
       try clear c71b0
       try clear c71b1
       try clear c72
       try clear c72b0
       try clear c72b1
       try clear c73
       try clear c73b0
       try clear c73b1
       try clear hcz50_0
       try clear hcz50_1
       try clear hcz53_0
       try clear hcz53_1
       try clear hcz64_0
       try clear hcz64_1
       try clear hcz67_0
       try clear hcz67_1
       try clear hcz75_0
       try clear hcz75_1
       try clear hcz77_0
       try clear hcz77_1
       try clear hfz50_0
       try clear hfz50_1
       try clear hfz53_0
       try clear hfz53_1
       try clear hfz64_0
       try clear hfz64_1
       try clear hfz67_0
       try clear hfz67_1
       try clear hfz75_0
       try clear hfz75_1
       try clear hfz77_0
       try clear hfz77_1
       try clear hx360_0
       try clear hx361_0
       try clear hx383_0
       try clear p2
       try clear p3
       try clear p36
       try clear p360
       try clear p361
       try clear p383
       try clear p6
       try clear q3
       try clear q36
       try clear q360
       try clear q361
       try clear q383
       obtain ⟨kq, x170_62, rfl, HA, HJ62, HO_14, HO_16, BK367, HB⟩ := hcut
       cases kq with
       | zero => exact absurd HA.out (by simp [laws_FnQuoted.j3])
       | succ kj62 =>
        have H := HA.out
        clear HA
        simp only [laws_FnQuoted.j3] at H
        by_cases c79 : x170_62 = true
        ·subst c79
         have H1 : (some false) = some r := by rw [if_pos rfl] at H; exact H
         clear H
         have H := H1
         clear H1
         exact absurd ((Option.some.inj H).trans HT.out) Bool.false_ne_true
        ·replace c79 := Bool.eq_false_iff.mpr c79
         subst c79
         have H1 : (laws_FnQuoted.l0 kj62 t362 t368 t362 (t362.length : Int) 0 t365 t366) = some r := by rw [if_neg (show ¬ (false = true) by decide)] at H; exact H
         clear H
         have H := H1
         clear H1
         have H' := Aside0.mk H
         clear H
         go_wp2
         repeat ((try simp only [List.append_eq, List.cons_append, List.nil_append, List.append]); go_quiet (fail); try go_wp2)
         go_loopg [173] kj62 (fun kq v173 w' => ∃ (x173_5 : Int), v173 = .int .i64 x173_5 ∧ Aside0 (laws_FnQuoted.l0 kq t362 t368 t362 (t362.length : Int) x173_5 t365 t366 = some r) ∧ Aside0 (kq ≤ kj62) ∧ Aside0 (Kd.R k31 31 w' w.heap.size (fun k_ => some k_ ≠ ((.slice Ao65 t368.length co65) : Value).ownBlock ∧ k_ ≠ gb367) (.slice Ao51 t362.length co51) t362) ∧ Aside0 (Kd.R k31 31 w' w.heap.size (fun k_ => some k_ ≠ ((.slice Ao51 t362.length co51) : Value).ownBlock ∧ some k_ ≠ ((.slice Ao51 t362.length co51) : Value).ownBlock ∧ k_ ≠ gb367) (.slice Ao65 t368.length co65) t368) ∧ Aside0 (Kd.R k31 31 w' w.heap.size (fun k_ => some k_ ≠ ((.slice Ao65 t368.length co65) : Value).ownBlock ∧ k_ ≠ gb367) (.slice Ao51 t362.length co51) t362) ∧ Aside0 (w'.heap[gb367]? = some (.cells #[.string t365, .string t366] 31 (0, 0))) ∧ Aside0 (Below w.heap.size w w'))
         case atStart => exact ⟨(0), (by first | rfl | (simp; done) | (simp [*]; done)), H', ⟨Nat.le_refl _⟩, ⟨xr_ HO_14⟩, ⟨xrt_ (Kd.R_mono HO_16.out (fun _ hk => ⟨hk.1, ⟨hk.1, hk.2⟩⟩))⟩, ⟨xr_ HO_14⟩, ⟨xb_ BK367⟩, ⟨xw_ HB⟩⟩
         case round =>
          clear H'
          try clear c1
          try clear c2
          try clear p2
          try clear c3
          try clear c3b0
          try clear p3
          try clear q3
          try clear hx3
          try clear qi3
          try clear c5
          try clear c6
          try clear p6
          try clear c7
          try clear c10
          try clear c10b0
          try clear c10b1
          try clear c10b2
          try clear c11
          try clear c13
          try clear c15
          try clear c15b0
          try clear c15b1
          try clear c15b2
          try clear c16
          try clear c16b0
          try clear c16b1
          try clear c16b2
          try clear c18
          try clear c19
          try clear c19b0
          try clear c19b1
          try clear c20
          try clear c21
          try clear c21b0
          try clear c21b1
          try clear c22
          try clear c22b0
          try clear c22b1
          try clear c23
          try clear c23b0
          try clear c23b1
          try clear c24
          try clear c24b0
          try clear c24b1
          try clear c25
          try clear c25b0
          try clear c25b1
          try clear p36
          try clear q36
          try clear hx36
          try clear qi36
          try clear p38
          try clear q38
          try clear hx38
          try clear qi38
          try clear c55
          try clear c55b0
          try clear c55b1
          try clear c55b2
          try clear c59
          try clear c60
          try clear c69
          try clear c70
          try clear c71
          try clear c71b0
          try clear c71b1
          try clear c72
          try clear c72b0
          try clear c72b1
          try clear c73
          try clear c73b0
          try clear c73b1
          try clear c79
          try clear hcz50_0
          try clear hcz50_1
          try clear hcz53_0
          try clear hcz53_1
          try clear hcz64_0
          try clear hcz64_1
          try clear hcz67_0
          try clear hcz67_1
          try clear hcz75_0
          try clear hcz75_1
          try clear hcz77_0
          try clear hcz77_1
          try clear hfz50_0
          try clear hfz50_1
          try clear hfz53_0
          try clear hfz53_1
          try clear hfz64_0
          try clear hfz64_1
          try clear hfz67_0
          try clear hfz67_1
          try clear hfz75_0
          try clear hfz75_1
          try clear hfz77_0
          try clear hfz77_1
          try clear hx360_0
          try clear hx361_0
          try clear hx383_0
          try clear p2
          try clear p3
          try clear p36
          try clear p360
          try clear p361
          try clear p38
          try clear p383
          try clear p6
          try clear q3
          try clear q36
          try clear q360
          try clear q361
          try clear q38
          try clear q383
          obtain ⟨x173_5, rfl, HA, HK5, HO_14, HO_16, HO_171, BK367, HB⟩ := hrel
          cases gk with
          | zero => exact absurd HA.out (by simp [laws_FnQuoted.l0])
          | succ k5 =>
           have H := HA.out
           clear HA
           simp only [laws_FnQuoted.l0] at H
           by_cases c80 : x173_5 < (t362.length : Int)
           ·rw [if_pos c80] at H
            have c80b0 : decide (x173_5 < (t362.length : Int)) = true := decide_eq_true c80
            clear c80
            by_cases c81 : 0 ≤ x173_5
            ·rw [if_pos c81] at H
             have c81b0 : decide (0 ≤ x173_5) = true := decide_eq_true c81
             clear c81
             by_cases c82 : x173_5 < (t362.length : Int)
             ·rw [if_pos c82] at H
              have c82b0 : decide (x173_5 < (t362.length : Int)) = true := decide_eq_true c82
              clear c82
              replace H := Option.bind_eq_some_iff.mp H
              obtain ⟨⟨t386, t387⟩, A830, H⟩ := H
              replace H : ((impl_ValuesOf.f k5 t368 ((rd_T31 t362 x173_5).f0)).bind fun bt390 => ((spec_ValuesOf.f k5 (([(⟨t365, t366⟩ : S31)] : List (S31))) ((rd_T31 t362 x173_5).f0)).bind fun bt397 => (if t387 = true then (if bt390.2 = true then (if (bt397.1.length : Int) = 0 then ((laws_sameTexts.f k5 t386 bt390.1).bind fun t401 => (if t401 = true then (laws_FnQuoted.l0 k5 t362 t368 t362 (t362.length : Int) (wrap64 (x173_5 + 1)) t365 t366) else (some false))) else (laws_FnQuoted.l0 k5 t362 t368 t362 (t362.length : Int) (wrap64 (x173_5 + 1)) t365 t366)) else (some false)) else (some false)))) = some r := H
              have A83 := Aside0.mk A830
              clear A830
              replace H := Option.bind_eq_some_iff.mp H
              obtain ⟨⟨t390, t391⟩, A840, H⟩ := H
              replace H : ((spec_ValuesOf.f k5 (([(⟨t365, t366⟩ : S31)] : List (S31))) ((rd_T31 t362 x173_5).f0)).bind fun bt397 => (if t387 = true then (if t391 = true then (if (bt397.1.length : Int) = 0 then ((laws_sameTexts.f k5 t386 t390).bind fun t401 => (if t401 = true then (laws_FnQuoted.l0 k5 t362 t368 t362 (t362.length : Int) (wrap64 (x173_5 + 1)) t365 t366) else (some false))) else (laws_FnQuoted.l0 k5 t362 t368 t362 (t362.length : Int) (wrap64 (x173_5 + 1)) t365 t366)) else (some false)) else (some false))) = some r := H
              have A84 := Aside0.mk A840
              clear A840
              obtain ⟨y394, hy394⟩ : ∃ y_ : List (S31), y_ = (([(⟨t365, t366⟩ : S31)] : List (S31))) := ⟨_, rfl⟩
              replace H : ((spec_ValuesOf.f k5 y394 ((rd_T31 t362 x173_5).f0)).bind fun bt397 => (if t387 = true then (if t391 = true then (if (bt397.1.length : Int) = 0 then ((laws_sameTexts.f k5 t386 t390).bind fun t401 => (if t401 = true then (laws_FnQuoted.l0 k5 t362 t368 t362 (t362.length : Int) (wrap64 (x173_5 + 1)) t365 t366) else (some false))) else (laws_FnQuoted.l0 k5 t362 t368 t362 (t362.length : Int) (wrap64 (x173_5 + 1)) t365 t366)) else (some false)) else (some false))) = some r := by first | (rw [hy394]; with_reducible exact H) | (have H2_ := (Option.bind_some _ _).symm.trans H; rw [hy394]; with_reducible exact H2_) | (have H2_ := (Option.bind_some _ _).symm.trans H; with_reducible exact H2_) | with_reducible exact H | (rw [hy394]; exact H) | exact H
              have Ny394 := Aside0.mk hy394
              clear hy394
              replace H := Option.bind_eq_some_iff.mp H
              obtain ⟨⟨t397, t398⟩, A850, H⟩ := H
              replace H : (if t387 = true then (if t391 = true then (if (t397.length : Int) = 0 then ((laws_sameTexts.f k5 t386 t390).bind fun t401 => (if t401 = true then (laws_FnQuoted.l0 k5 t362 t368 t362 (t362.length : Int) (wrap64 (x173_5 + 1)) t365 t366) else (some false))) else (laws_FnQuoted.l0 k5 t362 t368 t362 (t362.length : Int) (wrap64 (x173_5 + 1)) t365 t366)) else (some false)) else (some false)) = some r := H
              have A85 := Aside0.mk A850
              clear A850
              by_cases c86 : t387 = true
              ·subst c86
               have H1 : (if t391 = true then (if (t397.length : Int) = 0 then ((laws_sameTexts.f k5 t386 t390).bind fun t401 => (if t401 = true then (laws_FnQuoted.l0 k5 t362 t368 t362 (t362.length : Int) (wrap64 (x173_5 + 1)) t365 t366) else (some false))) else (laws_FnQuoted.l0 k5 t362 t368 t362 (t362.length : Int) (wrap64 (x173_5 + 1)) t365 t366)) else (some false)) = some r := by rw [if_pos rfl] at H; exact H
               clear H
               have H := H1
               clear H1
               by_cases c87 : t391 = true
               ·subst c87
                have H1 : (if (t397.length : Int) = 0 then ((laws_sameTexts.f k5 t386 t390).bind fun t401 => (if t401 = true then (laws_FnQuoted.l0 k5 t362 t368 t362 (t362.length : Int) (wrap64 (x173_5 + 1)) t365 t366) else (some false))) else (laws_FnQuoted.l0 k5 t362 t368 t362 (t362.length : Int) (wrap64 (x173_5 + 1)) t365 t366)) = some r := by rw [if_pos rfl] at H; exact H
                clear H
                have H := H1
                clear H1
                by_cases c88 : (t397.length : Int) = 0
                ·rw [if_pos c88] at H
                 have c88b0 : ((t397.length : Int) == 0) = true := beq_iff_eq.mpr c88
                 have c88b1 : ((t397.length : Int) != 0) = false := bne_eq_false_iff_eq.mpr c88
                 clear c88
                 replace H := Option.bind_eq_some_iff.mp H
                 obtain ⟨t401, A890, H⟩ := H
                 replace H : (if t401 = true then (laws_FnQuoted.l0 k5 t362 t368 t362 (t362.length : Int) (wrap64 (x173_5 + 1)) t365 t366) else (some false)) = some r := H
                 have A89 := Aside0.mk A890
                 clear A890
                 by_cases c90 : t401 = true
                 ·subst c90
                  have H1 : (laws_FnQuoted.l0 k5 t362 t368 t362 (t362.length : Int) (wrap64 (x173_5 + 1)) t365 t366) = some r := by rw [if_pos rfl] at H; exact H
                  clear H
                  have H := H1
                  clear H1
                  have H' := Aside0.mk H
                  clear H
                  have p384 : 0 ≤ (x173_5 : Int) := of_decide_eq_true (by first | (with_reducible assumption) | assumption)
                  have q384 : x173_5 < (t362.length : Int) := of_decide_eq_true (by first | (with_reducible assumption) | assumption)
                  obtain ⟨ad384, e384, hx384_0, hx384_1⟩ := at_T31 (Kd.R_reads' HO_171.out).2.2 x173_5 p384 q384
                  cases e384
                  replace p384 := eq_true p384
                  replace q384 := eq_true q384
                  go_wp2_with (first | ((with_reducible refine gate_dst (N := 25) rfl ?_); (try (refine gate_guard (by rfl) ?_; dsimp only)); refine xbe_ (N := 25) (cs := #[.string (⟨#[]⟩ : ByteArray), .string (⟨#[]⟩ : ByteArray)]) (t := 31) ?_; intro gb385 hg w91 hbox hb; replace HO_14 := Aside0.mk (Kd.R_below (Kd.R_elderB (xr_ HO_14) gb385 (Nat.le_of_eq hg.symm)) hb); replace HO_16 := Aside0.mk (Kd.R_below (Kd.R_elderB (xr_ HO_16) gb385 (Nat.le_of_eq hg.symm)) hb); replace HO_171 := Aside0.mk (Kd.R_below (Kd.R_elderB (xr_ HO_171) gb385 (Nat.le_of_eq hg.symm)) hb); have BK385 := Aside0.mk (hbox); have GW385 := xge_ HB hg; have GE385 := xge_ HB hg; replace HB := xws_ HB hb; have NB367_385 := xlt_ BK367 hg; have NB385_367 := xgt_ BK367 hg; replace BK367 := xbb_ BK367 hb; clear hb hbox hg; have hnb92 := NB385_367.out; have hnc92 := NB367_385.out; have hcz93_0 : w91.cell? ⟨gb385, 0, none⟩ = some (.string (⟨#[]⟩ : ByteArray)) := xk_ BK385 0; have hcz93_1 : w91.cell? ⟨gb385, 1, none⟩ = some (.string (⟨#[]⟩ : ByteArray)) := xk_ BK385 1; have hfz93_0 := blk_frozen BK385.out 0; have hfz93_1 := blk_frozen BK385.out 1) | (go_at_call 15; (with_reducible refine (spec_ValuesOf.calls k5 _ _ t362 ((rd_T31 t362 x173_5).f0) t386 true _ ?side1 ?side2 A83.out).mono ?_); (case side1 => refine (Kd.R_reads' (e := 31) (base := w.heap.size) (ok := fun k_ => ((some k_ ≠ (.slice Ao65 t368.length co65 : Value).ownBlock ∧ k_ ≠ gb367) ∧ k_ ≠ gb385)) (n := t362.length) (c := co51) ?_).2.2; exact (xrt_ ((Kd.R_mono (Kd.R_far (p := ⟨gb385, 1, none⟩) (Kd.R_far (p := ⟨gb385, 0, none⟩) (Kd.R_mono HO_14.out (fun k_ hk => (⟨hk, hk.2⟩ : _ ∧ k_ ≠ gb385))) (fun _ hk => hk.2) (.string ((rd_T31 t362 x173_5).f0))) (fun _ hk => hk.2) (.string ((rd_T31 t362 x173_5).f1))) (fun _ h_ => h_.1))))); (case side2 => exact (Kd.R_reads' HO_14.out).2.1); rintro e w94 ⟨v388, rfl, ho0, hb⟩; replace HO_14 := Aside0.mk (Kd.R_below (xrt_ ((Kd.R_mono (Kd.R_far (p := ⟨gb385, 1, none⟩) (Kd.R_far (p := ⟨gb385, 0, none⟩) (Kd.R_mono HO_14.out (fun k_ hk => (⟨hk, hk.2⟩ : _ ∧ k_ ≠ gb385))) (fun _ hk => hk.2) (.string ((rd_T31 t362 x173_5).f0))) (fun _ hk => hk.2) (.string ((rd_T31 t362 x173_5).f1))) (fun _ h_ => h_.1)))) hb); replace HO_16 := Aside0.mk (Kd.R_below (xrt_ ((Kd.R_mono (Kd.R_far (p := ⟨gb385, 1, none⟩) (Kd.R_far (p := ⟨gb385, 0, none⟩) (Kd.R_mono HO_16.out (fun k_ hk => (⟨hk, hk.2⟩ : _ ∧ k_ ≠ gb385))) (fun _ hk => hk.2) (.string ((rd_T31 t362 x173_5).f0))) (fun _ hk => hk.2) (.string ((rd_T31 t362 x173_5).f1))) (fun _ h_ => h_.1)))) hb); replace HO_171 := Aside0.mk (Kd.R_below (xrt_ ((Kd.R_mono (Kd.R_far (p := ⟨gb385, 1, none⟩) (Kd.R_far (p := ⟨gb385, 0, none⟩) (Kd.R_mono HO_171.out (fun k_ hk => (⟨hk, hk.2⟩ : _ ∧ k_ ≠ gb385))) (fun _ hk => hk.2) (.string ((rd_T31 t362 x173_5).f0))) (fun _ hk => hk.2) (.string ((rd_T31 t362 x173_5).f1))) (fun _ h_ => h_.1)))) hb); have HO389 := Aside0.mk (Kd.R_lower ho0 (below_size (xw_ HB))); replace BK367 := Aside0.mk (blk_below (g := gb367) (o := .cells #[.string t365, .string t366] 31 (0, 0)) (by (with_reducible repeat (first | refine blk_drewN ?_ _ | refine blk_drew ?_ | refine blk_alloc ?_ _)); refine blk_far ?_ NB367_385.out _; (with_reducible repeat (first | refine blk_drewN ?_ _ | refine blk_drew ?_ | refine blk_alloc ?_ _)); refine blk_far ?_ NB367_385.out _; (with_reducible repeat (first | refine blk_drewN ?_ _ | refine blk_drew ?_ | refine blk_alloc ?_ _)); exact BK367.out) hb); replace BK385 := Aside0.mk (blk_below (g := gb385) (o := .cells #[.string ((rd_T31 t362 x173_5).f0), .string ((rd_T31 t362 x173_5).f1)] 31 (0, 0)) (by (with_reducible repeat (first | refine blk_drewN ?_ _ | refine blk_drew ?_ | refine blk_alloc ?_ _)); refine blk_put (cs := #[.string ((rd_T31 t362 x173_5).f0), .string (⟨#[]⟩ : ByteArray)]) ?_ 1 _ rfl; (with_reducible repeat (first | refine blk_drewN ?_ _ | refine blk_drew ?_ | refine blk_alloc ?_ _)); refine blk_put (cs := #[.string (⟨#[]⟩ : ByteArray), .string (⟨#[]⟩ : ByteArray)]) ?_ 0 _ rfl; (with_reducible repeat (first | refine blk_drewN ?_ _ | refine blk_drew ?_ | refine blk_alloc ?_ _)); exact BK385.out) hb); replace HB := xws_ HB hb; (try clear hb); (try clear hb2); (try clear hk); (try clear hi); (try clear ho0); have hcz95_0 : w94.cell? ⟨gb385, 0, none⟩ = some (.string ((rd_T31 t362 x173_5).f0)) := xk_ BK385 0; have hcz95_1 : w94.cell? ⟨gb385, 1, none⟩ = some (.string ((rd_T31 t362 x173_5).f1)) := xk_ BK385 1; have hfz95_0 := blk_frozen BK385.out 0; have hfz95_1 := blk_frozen BK385.out 1) | (go_at_call 13; (with_reducible refine (impl_ValuesOf.calls k5 _ _ t368 ((rd_T31 t362 x173_5).f0) t390 true _ ?side1 ?side2 A84.out).mono ?_); (case side1 => exact xc_ ((Kd.R_reads' HO_16.out).2.2)); (case side2 => exact (Kd.R_reads' HO_16.out).2.1); rintro e w96 ⟨v392, rfl, ho0, hb⟩; replace HO_14 := xrb_ HO_14 hb; replace HO_16 := xrb_ HO_16 hb; replace HO_171 := xrb_ HO_171 hb; have HO393 := Aside0.mk (Kd.R_lower (Kd.R_new' ho0 (Kd.R_lt (xr_ HO389))) (below_size (xw_ HB))); replace HO389 := xre_ HO389 ho0 hb; replace BK367 := xbb_ BK367 hb; replace BK385 := xbb_ BK385 hb; replace HB := xws_ HB hb; (try clear hb); (try clear hb2); (try clear hk); (try clear hi); (try clear ho0); have hcz97_0 : w96.cell? ⟨gb367, 0, none⟩ = some (.string t365) := xk_ BK367 0; have hcz97_1 : w96.cell? ⟨gb367, 1, none⟩ = some (.string t366) := xk_ BK367 1; have hfz97_0 := blk_frozen BK367.out 0; have hfz97_1 := blk_frozen BK367.out 1) | ((with_reducible refine gate_dst (N := 193) rfl ?_); (try (refine gate_guard (by rfl) ?_; dsimp only)); refine Kd.R_lit k31 _ 31 ?hg (N := 193) ?hd (xs := ([(⟨t365, t366⟩ : S31)] : List (S31))) (inner := [.string t365, .string t366]) (ok := fun _ => True) (okp := fun _ => True) ?hr ?hp (fun _ hk => hk) trivial (Below.refl _ _) (Nat.le_refl _) (by simp) ?_; (case hd => rfl); (case hg => rfl); (case hr => first | (go_simp; done) | (go_simp; rfl)); (case hp => exact (Reps.c2 (show Kd.M k31 _ _ _ (⟨t365, t366⟩ : S31) [.string t365, .string t366] from (k31_mkM _ _ _ (⟨t365, t366⟩ : S31) )) (Reps.none _ _))); intro v395 w98 ho99 hb hg_ hnew_; clear hg_ hnew_; (first | rw [← Ny394.out] at ho99 | (simp only [Int.reduceToNat] at ho99; rw [← Ny394.out] at ho99)); replace HO389 := xrb_ HO389 hb; replace HO393 := xrb_ HO393 hb; have HO396 := Aside0.mk (Kd.R_lower (Kd.R_newB (Kd.R_newB (Kd.R_new' (Kd.R_new' (Kd.R_new' ho99 (Kd.R_lt (xr_ HO_14))) (Kd.R_lt (xr_ HO_16))) (Kd.R_lt (xr_ HO_171))) (g := gb367) (o := .cells #[.string t365, .string t366] 31 (0, 0)) (xb_ BK367)) (g := gb385) (o := .cells #[.string ((rd_T31 t362 x173_5).f0), .string ((rd_T31 t362 x173_5).f1)] 31 (0, 0)) (xb_ BK385)) (below_size (xw_ HB))); replace HO_14 := Aside0.mk (Kd.R_elder' (xr_ HO_14) (Kd.R_base ho99) hb); replace HO_16 := Aside0.mk (Kd.R_elder' (xr_ HO_16) (Kd.R_base ho99) hb); replace HO_171 := Aside0.mk (Kd.R_elder' (xr_ HO_171) (Kd.R_base ho99) hb); replace BK367 := xbb_ BK367 hb; replace BK385 := xbb_ BK385 hb; replace HB := xws_ HB hb; clear hb ho99; have hcz100_0 : w98.cell? ⟨gb385, 0, none⟩ = some (.string ((rd_T31 t362 x173_5).f0)) := xk_ BK385 0; have hcz100_1 : w98.cell? ⟨gb385, 1, none⟩ = some (.string ((rd_T31 t362 x173_5).f1)) := xk_ BK385 1; have hfz100_0 := blk_frozen BK385.out 0; have hfz100_1 := blk_frozen BK385.out 1; obtain ⟨Ao101, co101, eo101⟩ := Kd.R_slice HO396.out; subst eo101) | (go_at_call 15; (with_reducible refine (spec_ValuesOf.calls k5 _ _ y394 ((rd_T31 t362 x173_5).f0) t397 t398 _ ?side1 ?side2 A85.out).mono ?_); (case side1 => exact xc_ ((Kd.R_reads' HO396.out).2.2)); (case side2 => exact (Kd.R_reads' HO396.out).2.1); rintro e w102 ⟨v399, rfl, ho0, hb⟩; replace HO_14 := xrb_ HO_14 hb; replace HO_16 := xrb_ HO_16 hb; replace HO_171 := xrb_ HO_171 hb; replace HO396 := xrb_ HO396 hb; have HO400 := Aside0.mk (Kd.R_lower (Kd.R_new' (Kd.R_new' ho0 (Kd.R_lt (xr_ HO389))) (Kd.R_lt (xr_ HO393))) (below_size (xw_ HB))); replace HO389 := xre_ HO389 ho0 hb; replace HO393 := xre_ HO393 ho0 hb; replace BK367 := xbb_ BK367 hb; replace BK385 := xbb_ BK385 hb; replace HB := xws_ HB hb; (try clear hb); (try clear hb2); (try clear hk); (try clear hi); (try clear ho0); obtain ⟨Ao103, co103, eo103⟩ := Kd.R_slice HO400.out; subst eo103; obtain ⟨Ao104, co104, eo104⟩ := Kd.R_slice HO389.out; subst eo104; obtain ⟨Ao105, co105, eo105⟩ := Kd.R_slice HO393.out; subst eo105) | (go_at_call 16; (with_reducible refine (laws_sameTexts.calls k5 _ _ t386 _ _ t390 true _ ?side1 ?side2 ?side3 ?side4 A89.out).mono ?_); (case side1 => exact xc_ ((Kd.R_reads' HO389.out).2.2)); (case side2 => exact (Kd.R_reads' HO389.out).2.1); (case side3 => exact xc_ ((Kd.R_reads' HO393.out).2.2)); (case side4 => exact (Kd.R_reads' HO393.out).2.1); rintro e w' ⟨rfl, ⟨nd, rfl⟩⟩; (try first | exact ⟨rfl, _, World.drewN_drewN _ _ _⟩ | exact ⟨rfl, _, Eq.trans (World.drewN_drewN _ _ _) (congrArg (World.drewN _) (Nat.add_assoc _ _ _))⟩)))
                  repeat ((try simp only [List.append_eq, List.cons_append, List.nil_append, List.append]); go_quiet (first | ((with_reducible refine gate_dst (N := 25) rfl ?_); (try (refine gate_guard (by rfl) ?_; dsimp only)); refine xbe_ (N := 25) (cs := #[.string (⟨#[]⟩ : ByteArray), .string (⟨#[]⟩ : ByteArray)]) (t := 31) ?_; intro gb385 hg w91 hbox hb; replace HO_14 := Aside0.mk (Kd.R_below (Kd.R_elderB (xr_ HO_14) gb385 (Nat.le_of_eq hg.symm)) hb); replace HO_16 := Aside0.mk (Kd.R_below (Kd.R_elderB (xr_ HO_16) gb385 (Nat.le_of_eq hg.symm)) hb); replace HO_171 := Aside0.mk (Kd.R_below (Kd.R_elderB (xr_ HO_171) gb385 (Nat.le_of_eq hg.symm)) hb); have BK385 := Aside0.mk (hbox); have GW385 := xge_ HB hg; have GE385 := xge_ HB hg; replace HB := xws_ HB hb; have NB367_385 := xlt_ BK367 hg; have NB385_367 := xgt_ BK367 hg; replace BK367 := xbb_ BK367 hb; clear hb hbox hg; have hnb92 := NB385_367.out; have hnc92 := NB367_385.out; have hcz93_0 : w91.cell? ⟨gb385, 0, none⟩ = some (.string (⟨#[]⟩ : ByteArray)) := xk_ BK385 0; have hcz93_1 : w91.cell? ⟨gb385, 1, none⟩ = some (.string (⟨#[]⟩ : ByteArray)) := xk_ BK385 1; have hfz93_0 := blk_frozen BK385.out 0; have hfz93_1 := blk_frozen BK385.out 1) | (go_at_call 15; (with_reducible refine (spec_ValuesOf.calls k5 _ _ t362 ((rd_T31 t362 x173_5).f0) t386 true _ ?side1 ?side2 A83.out).mono ?_); (case side1 => refine (Kd.R_reads' (e := 31) (base := w.heap.size) (ok := fun k_ => ((some k_ ≠ (.slice Ao65 t368.length co65 : Value).ownBlock ∧ k_ ≠ gb367) ∧ k_ ≠ gb385)) (n := t362.length) (c := co51) ?_).2.2; exact (xrt_ ((Kd.R_mono (Kd.R_far (p := ⟨gb385, 1, none⟩) (Kd.R_far (p := ⟨gb385, 0, none⟩) (Kd.R_mono HO_14.out (fun k_ hk => (⟨hk, hk.2⟩ : _ ∧ k_ ≠ gb385))) (fun _ hk => hk.2) (.string ((rd_T31 t362 x173_5).f0))) (fun _ hk => hk.2) (.string ((rd_T31 t362 x173_5).f1))) (fun _ h_ => h_.1))))); (case side2 => exact (Kd.R_reads' HO_14.out).2.1); rintro e w94 ⟨v388, rfl, ho0, hb⟩; replace HO_14 := Aside0.mk (Kd.R_below (xrt_ ((Kd.R_mono (Kd.R_far (p := ⟨gb385, 1, none⟩) (Kd.R_far (p := ⟨gb385, 0, none⟩) (Kd.R_mono HO_14.out (fun k_ hk => (⟨hk, hk.2⟩ : _ ∧ k_ ≠ gb385))) (fun _ hk => hk.2) (.string ((rd_T31 t362 x173_5).f0))) (fun _ hk => hk.2) (.string ((rd_T31 t362 x173_5).f1))) (fun _ h_ => h_.1)))) hb); replace HO_16 := Aside0.mk (Kd.R_below (xrt_ ((Kd.R_mono (Kd.R_far (p := ⟨gb385, 1, none⟩) (Kd.R_far (p := ⟨gb385, 0, none⟩) (Kd.R_mono HO_16.out (fun k_ hk => (⟨hk, hk.2⟩ : _ ∧ k_ ≠ gb385))) (fun _ hk => hk.2) (.string ((rd_T31 t362 x173_5).f0))) (fun _ hk => hk.2) (.string ((rd_T31 t362 x173_5).f1))) (fun _ h_ => h_.1)))) hb); replace HO_171 := Aside0.mk (Kd.R_below (xrt_ ((Kd.R_mono (Kd.R_far (p := ⟨gb385, 1, none⟩) (Kd.R_far (p := ⟨gb385, 0, none⟩) (Kd.R_mono HO_171.out (fun k_ hk => (⟨hk, hk.2⟩ : _ ∧ k_ ≠ gb385))) (fun _ hk => hk.2) (.string ((rd_T31 t362 x173_5).f0))) (fun _ hk => hk.2) (.string ((rd_T31 t362 x173_5).f1))) (fun _ h_ => h_.1)))) hb); have HO389 := Aside0.mk (Kd.R_lower ho0 (below_size (xw_ HB))); replace BK367 := Aside0.mk (blk_below (g := gb367) (o := .cells #[.string t365, .string t366] 31 (0, 0)) (by (with_reducible repeat (first | refine blk_drewN ?_ _ | refine blk_drew ?_ | refine blk_alloc ?_ _)); refine blk_far ?_ NB367_385.out _; (with_reducible repeat (first | refine blk_drewN ?_ _ | refine blk_drew ?_ | refine blk_alloc ?_ _)); refine blk_far ?_ NB367_385.out _; (with_reducible repeat (first | refine blk_drewN ?_ _ | refine blk_drew ?_ | refine blk_alloc ?_ _)); exact BK367.out) hb); replace BK385 := Aside0.mk (blk_below (g := gb385) (o := .cells #[.string ((rd_T31 t362 x173_5).f0), .string ((rd_T31 t362 x173_5).f1)] 31 (0, 0)) (by (with_reducible repeat (first | refine blk_drewN ?_ _ | refine blk_drew ?_ | refine blk_alloc ?_ _)); refine blk_put (cs := #[.string ((rd_T31 t362 x173_5).f0), .string (⟨#[]⟩ : ByteArray)]) ?_ 1 _ rfl; (with_reducible repeat (first | refine blk_drewN ?_ _ | refine blk_drew ?_ | refine blk_alloc ?_ _)); refine blk_put (cs := #[.string (⟨#[]⟩ : ByteArray), .string (⟨#[]⟩ : ByteArray)]) ?_ 0 _ rfl; (with_reducible repeat (first | refine blk_drewN ?_ _ | refine blk_drew ?_ | refine blk_alloc ?_ _)); exact BK385.out) hb); replace HB := xws_ HB hb; (try clear hb); (try clear hb2); (try clear hk); (try clear hi); (try clear ho0); have hcz95_0 : w94.cell? ⟨gb385, 0, none⟩ = some (.string ((rd_T31 t362 x173_5).f0)) := xk_ BK385 0; have hcz95_1 : w94.cell? ⟨gb385, 1, none⟩ = some (.string ((rd_T31 t362 x173_5).f1)) := xk_ BK385 1; have hfz95_0 := blk_frozen BK385.out 0; have hfz95_1 := blk_frozen BK385.out 1) | (go_at_call 13; (with_reducible refine (impl_ValuesOf.calls k5 _ _ t368 ((rd_T31 t362 x173_5).f0) t390 true _ ?side1 ?side2 A84.out).mono ?_); (case side1 => exact xc_ ((Kd.R_reads' HO_16.out).2.2)); (case side2 => exact (Kd.R_reads' HO_16.out).2.1); rintro e w96 ⟨v392, rfl, ho0, hb⟩; replace HO_14 := xrb_ HO_14 hb; replace HO_16 := xrb_ HO_16 hb; replace HO_171 := xrb_ HO_171 hb; have HO393 := Aside0.mk (Kd.R_lower (Kd.R_new' ho0 (Kd.R_lt (xr_ HO389))) (below_size (xw_ HB))); replace HO389 := xre_ HO389 ho0 hb; replace BK367 := xbb_ BK367 hb; replace BK385 := xbb_ BK385 hb; replace HB := xws_ HB hb; (try clear hb); (try clear hb2); (try clear hk); (try clear hi); (try clear ho0); have hcz97_0 : w96.cell? ⟨gb367, 0, none⟩ = some (.string t365) := xk_ BK367 0; have hcz97_1 : w96.cell? ⟨gb367, 1, none⟩ = some (.string t366) := xk_ BK367 1; have hfz97_0 := blk_frozen BK367.out 0; have hfz97_1 := blk_frozen BK367.out 1) | ((with_reducible refine gate_dst (N := 193) rfl ?_); (try (refine gate_guard (by rfl) ?_; dsimp only)); refine Kd.R_lit k31 _ 31 ?hg (N := 193) ?hd (xs := ([(⟨t365, t366⟩ : S31)] : List (S31))) (inner := [.string t365, .string t366]) (ok := fun _ => True) (okp := fun _ => True) ?hr ?hp (fun _ hk => hk) trivial (Below.refl _ _) (Nat.le_refl _) (by simp) ?_; (case hd => rfl); (case hg => rfl); (case hr => first | (go_simp; done) | (go_simp; rfl)); (case hp => exact (Reps.c2 (show Kd.M k31 _ _ _ (⟨t365, t366⟩ : S31) [.string t365, .string t366] from (k31_mkM _ _ _ (⟨t365, t366⟩ : S31) )) (Reps.none _ _))); intro v395 w98 ho99 hb hg_ hnew_; clear hg_ hnew_; (first | rw [← Ny394.out] at ho99 | (simp only [Int.reduceToNat] at ho99; rw [← Ny394.out] at ho99)); replace HO389 := xrb_ HO389 hb; replace HO393 := xrb_ HO393 hb; have HO396 := Aside0.mk (Kd.R_lower (Kd.R_newB (Kd.R_newB (Kd.R_new' (Kd.R_new' (Kd.R_new' ho99 (Kd.R_lt (xr_ HO_14))) (Kd.R_lt (xr_ HO_16))) (Kd.R_lt (xr_ HO_171))) (g := gb367) (o := .cells #[.string t365, .string t366] 31 (0, 0)) (xb_ BK367)) (g := gb385) (o := .cells #[.string ((rd_T31 t362 x173_5).f0), .string ((rd_T31 t362 x173_5).f1)] 31 (0, 0)) (xb_ BK385)) (below_size (xw_ HB))); replace HO_14 := Aside0.mk (Kd.R_elder' (xr_ HO_14) (Kd.R_base ho99) hb); replace HO_16 := Aside0.mk (Kd.R_elder' (xr_ HO_16) (Kd.R_base ho99) hb); replace HO_171 := Aside0.mk (Kd.R_elder' (xr_ HO_171) (Kd.R_base ho99) hb); replace BK367 := xbb_ BK367 hb; replace BK385 := xbb_ BK385 hb; replace HB := xws_ HB hb; clear hb ho99; have hcz100_0 : w98.cell? ⟨gb385, 0, none⟩ = some (.string ((rd_T31 t362 x173_5).f0)) := xk_ BK385 0; have hcz100_1 : w98.cell? ⟨gb385, 1, none⟩ = some (.string ((rd_T31 t362 x173_5).f1)) := xk_ BK385 1; have hfz100_0 := blk_frozen BK385.out 0; have hfz100_1 := blk_frozen BK385.out 1; obtain ⟨Ao101, co101, eo101⟩ := Kd.R_slice HO396.out; subst eo101) | (go_at_call 15; (with_reducible refine (spec_ValuesOf.calls k5 _ _ y394 ((rd_T31 t362 x173_5).f0) t397 t398 _ ?side1 ?side2 A85.out).mono ?_); (case side1 => exact xc_ ((Kd.R_reads' HO396.out).2.2)); (case side2 => exact (Kd.R_reads' HO396.out).2.1); rintro e w102 ⟨v399, rfl, ho0, hb⟩; replace HO_14 := xrb_ HO_14 hb; replace HO_16 := xrb_ HO_16 hb; replace HO_171 := xrb_ HO_171 hb; replace HO396 := xrb_ HO396 hb; have HO400 := Aside0.mk (Kd.R_lower (Kd.R_new' (Kd.R_new' ho0 (Kd.R_lt (xr_ HO389))) (Kd.R_lt (xr_ HO393))) (below_size (xw_ HB))); replace HO389 := xre_ HO389 ho0 hb; replace HO393 := xre_ HO393 ho0 hb; replace BK367 := xbb_ BK367 hb; replace BK385 := xbb_ BK385 hb; replace HB := xws_ HB hb; (try clear hb); (try clear hb2); (try clear hk); (try clear hi); (try clear ho0); obtain ⟨Ao103, co103, eo103⟩ := Kd.R_slice HO400.out; subst eo103; obtain ⟨Ao104, co104, eo104⟩ := Kd.R_slice HO389.out; subst eo104; obtain ⟨Ao105, co105, eo105⟩ := Kd.R_slice HO393.out; subst eo105) | (go_at_call 16; (with_reducible refine (laws_sameTexts.calls k5 _ _ t386 _ _ t390 true _ ?side1 ?side2 ?side3 ?side4 A89.out).mono ?_); (case side1 => exact xc_ ((Kd.R_reads' HO389.out).2.2)); (case side2 => exact (Kd.R_reads' HO389.out).2.1); (case side3 => exact xc_ ((Kd.R_reads' HO393.out).2.2)); (case side4 => exact (Kd.R_reads' HO393.out).2.1); rintro e w' ⟨rfl, ⟨nd, rfl⟩⟩; (try first | exact ⟨rfl, _, World.drewN_drewN _ _ _⟩ | exact ⟨rfl, _, Eq.trans (World.drewN_drewN _ _ _) (congrArg (World.drewN _) (Nat.add_assoc _ _ _))⟩))); try go_wp2_with (first | ((with_reducible refine gate_dst (N := 25) rfl ?_); (try (refine gate_guard (by rfl) ?_; dsimp only)); refine xbe_ (N := 25) (cs := #[.string (⟨#[]⟩ : ByteArray), .string (⟨#[]⟩ : ByteArray)]) (t := 31) ?_; intro gb385 hg w91 hbox hb; replace HO_14 := Aside0.mk (Kd.R_below (Kd.R_elderB (xr_ HO_14) gb385 (Nat.le_of_eq hg.symm)) hb); replace HO_16 := Aside0.mk (Kd.R_below (Kd.R_elderB (xr_ HO_16) gb385 (Nat.le_of_eq hg.symm)) hb); replace HO_171 := Aside0.mk (Kd.R_below (Kd.R_elderB (xr_ HO_171) gb385 (Nat.le_of_eq hg.symm)) hb); have BK385 := Aside0.mk (hbox); have GW385 := xge_ HB hg; have GE385 := xge_ HB hg; replace HB := xws_ HB hb; have NB367_385 := xlt_ BK367 hg; have NB385_367 := xgt_ BK367 hg; replace BK367 := xbb_ BK367 hb; clear hb hbox hg; have hnb92 := NB385_367.out; have hnc92 := NB367_385.out; have hcz93_0 : w91.cell? ⟨gb385, 0, none⟩ = some (.string (⟨#[]⟩ : ByteArray)) := xk_ BK385 0; have hcz93_1 : w91.cell? ⟨gb385, 1, none⟩ = some (.string (⟨#[]⟩ : ByteArray)) := xk_ BK385 1; have hfz93_0 := blk_frozen BK385.out 0; have hfz93_1 := blk_frozen BK385.out 1) | (go_at_call 15; (with_reducible refine (spec_ValuesOf.calls k5 _ _ t362 ((rd_T31 t362 x173_5).f0) t386 true _ ?side1 ?side2 A83.out).mono ?_); (case side1 => refine (Kd.R_reads' (e := 31) (base := w.heap.size) (ok := fun k_ => ((some k_ ≠ (.slice Ao65 t368.length co65 : Value).ownBlock ∧ k_ ≠ gb367) ∧ k_ ≠ gb385)) (n := t362.length) (c := co51) ?_).2.2; exact (xrt_ ((Kd.R_mono (Kd.R_far (p := ⟨gb385, 1, none⟩) (Kd.R_far (p := ⟨gb385, 0, none⟩) (Kd.R_mono HO_14.out (fun k_ hk => (⟨hk, hk.2⟩ : _ ∧ k_ ≠ gb385))) (fun _ hk => hk.2) (.string ((rd_T31 t362 x173_5).f0))) (fun _ hk => hk.2) (.string ((rd_T31 t362 x173_5).f1))) (fun _ h_ => h_.1))))); (case side2 => exact (Kd.R_reads' HO_14.out).2.1); rintro e w94 ⟨v388, rfl, ho0, hb⟩; replace HO_14 := Aside0.mk (Kd.R_below (xrt_ ((Kd.R_mono (Kd.R_far (p := ⟨gb385, 1, none⟩) (Kd.R_far (p := ⟨gb385, 0, none⟩) (Kd.R_mono HO_14.out (fun k_ hk => (⟨hk, hk.2⟩ : _ ∧ k_ ≠ gb385))) (fun _ hk => hk.2) (.string ((rd_T31 t362 x173_5).f0))) (fun _ hk => hk.2) (.string ((rd_T31 t362 x173_5).f1))) (fun _ h_ => h_.1)))) hb); replace HO_16 := Aside0.mk (Kd.R_below (xrt_ ((Kd.R_mono (Kd.R_far (p := ⟨gb385, 1, none⟩) (Kd.R_far (p := ⟨gb385, 0, none⟩) (Kd.R_mono HO_16.out (fun k_ hk => (⟨hk, hk.2⟩ : _ ∧ k_ ≠ gb385))) (fun _ hk => hk.2) (.string ((rd_T31 t362 x173_5).f0))) (fun _ hk => hk.2) (.string ((rd_T31 t362 x173_5).f1))) (fun _ h_ => h_.1)))) hb); replace HO_171 := Aside0.mk (Kd.R_below (xrt_ ((Kd.R_mono (Kd.R_far (p := ⟨gb385, 1, none⟩) (Kd.R_far (p := ⟨gb385, 0, none⟩) (Kd.R_mono HO_171.out (fun k_ hk => (⟨hk, hk.2⟩ : _ ∧ k_ ≠ gb385))) (fun _ hk => hk.2) (.string ((rd_T31 t362 x173_5).f0))) (fun _ hk => hk.2) (.string ((rd_T31 t362 x173_5).f1))) (fun _ h_ => h_.1)))) hb); have HO389 := Aside0.mk (Kd.R_lower ho0 (below_size (xw_ HB))); replace BK367 := Aside0.mk (blk_below (g := gb367) (o := .cells #[.string t365, .string t366] 31 (0, 0)) (by (with_reducible repeat (first | refine blk_drewN ?_ _ | refine blk_drew ?_ | refine blk_alloc ?_ _)); refine blk_far ?_ NB367_385.out _; (with_reducible repeat (first | refine blk_drewN ?_ _ | refine blk_drew ?_ | refine blk_alloc ?_ _)); refine blk_far ?_ NB367_385.out _; (with_reducible repeat (first | refine blk_drewN ?_ _ | refine blk_drew ?_ | refine blk_alloc ?_ _)); exact BK367.out) hb); replace BK385 := Aside0.mk (blk_below (g := gb385) (o := .cells #[.string ((rd_T31 t362 x173_5).f0), .string ((rd_T31 t362 x173_5).f1)] 31 (0, 0)) (by (with_reducible repeat (first | refine blk_drewN ?_ _ | refine blk_drew ?_ | refine blk_alloc ?_ _)); refine blk_put (cs := #[.string ((rd_T31 t362 x173_5).f0), .string (⟨#[]⟩ : ByteArray)]) ?_ 1 _ rfl; (with_reducible repeat (first | refine blk_drewN ?_ _ | refine blk_drew ?_ | refine blk_alloc ?_ _)); refine blk_put (cs := #[.string (⟨#[]⟩ : ByteArray), .string (⟨#[]⟩ : ByteArray)]) ?_ 0 _ rfl; (with_reducible repeat (first | refine blk_drewN ?_ _ | refine blk_drew ?_ | refine blk_alloc ?_ _)); exact BK385.out) hb); replace HB := xws_ HB hb; (try clear hb); (try clear hb2); (try clear hk); (try clear hi); (try clear ho0); have hcz95_0 : w94.cell? ⟨gb385, 0, none⟩ = some (.string ((rd_T31 t362 x173_5).f0)) := xk_ BK385 0; have hcz95_1 : w94.cell? ⟨gb385, 1, none⟩ = some (.string ((rd_T31 t362 x173_5).f1)) := xk_ BK385 1; have hfz95_0 := blk_frozen BK385.out 0; have hfz95_1 := blk_frozen BK385.out 1) | (go_at_call 13; (with_reducible refine (impl_ValuesOf.calls k5 _ _ t368 ((rd_T31 t362 x173_5).f0) t390 true _ ?side1 ?side2 A84.out).mono ?_); (case side1 => exact xc_ ((Kd.R_reads' HO_16.out).2.2)); (case side2 => exact (Kd.R_reads' HO_16.out).2.1); rintro e w96 ⟨v392, rfl, ho0, hb⟩; replace HO_14 := xrb_ HO_14 hb; replace HO_16 := xrb_ HO_16 hb; replace HO_171 := xrb_ HO_171 hb; have HO393 := Aside0.mk (Kd.R_lower (Kd.R_new' ho0 (Kd.R_lt (xr_ HO389))) (below_size (xw_ HB))); replace HO389 := xre_ HO389 ho0 hb; replace BK367 := xbb_ BK367 hb; replace BK385 := xbb_ BK385 hb; replace HB := xws_ HB hb; (try clear hb); (try clear hb2); (try clear hk); (try clear hi); (try clear ho0); have hcz97_0 : w96.cell? ⟨gb367, 0, none⟩ = some (.string t365) := xk_ BK367 0; have hcz97_1 : w96.cell? ⟨gb367, 1, none⟩ = some (.string t366) := xk_ BK367 1; have hfz97_0 := blk_frozen BK367.out 0; have hfz97_1 := blk_frozen BK367.out 1) | ((with_reducible refine gate_dst (N := 193) rfl ?_); (try (refine gate_guard (by rfl) ?_; dsimp only)); refine Kd.R_lit k31 _ 31 ?hg (N := 193) ?hd (xs := ([(⟨t365, t366⟩ : S31)] : List (S31))) (inner := [.string t365, .string t366]) (ok := fun _ => True) (okp := fun _ => True) ?hr ?hp (fun _ hk => hk) trivial (Below.refl _ _) (Nat.le_refl _) (by simp) ?_; (case hd => rfl); (case hg => rfl); (case hr => first | (go_simp; done) | (go_simp; rfl)); (case hp => exact (Reps.c2 (show Kd.M k31 _ _ _ (⟨t365, t366⟩ : S31) [.string t365, .string t366] from (k31_mkM _ _ _ (⟨t365, t366⟩ : S31) )) (Reps.none _ _))); intro v395 w98 ho99 hb hg_ hnew_; clear hg_ hnew_; (first | rw [← Ny394.out] at ho99 | (simp only [Int.reduceToNat] at ho99; rw [← Ny394.out] at ho99)); replace HO389 := xrb_ HO389 hb; replace HO393 := xrb_ HO393 hb; have HO396 := Aside0.mk (Kd.R_lower (Kd.R_newB (Kd.R_newB (Kd.R_new' (Kd.R_new' (Kd.R_new' ho99 (Kd.R_lt (xr_ HO_14))) (Kd.R_lt (xr_ HO_16))) (Kd.R_lt (xr_ HO_171))) (g := gb367) (o := .cells #[.string t365, .string t366] 31 (0, 0)) (xb_ BK367)) (g := gb385) (o := .cells #[.string ((rd_T31 t362 x173_5).f0), .string ((rd_T31 t362 x173_5).f1)] 31 (0, 0)) (xb_ BK385)) (below_size (xw_ HB))); replace HO_14 := Aside0.mk (Kd.R_elder' (xr_ HO_14) (Kd.R_base ho99) hb); replace HO_16 := Aside0.mk (Kd.R_elder' (xr_ HO_16) (Kd.R_base ho99) hb); replace HO_171 := Aside0.mk (Kd.R_elder' (xr_ HO_171) (Kd.R_base ho99) hb); replace BK367 := xbb_ BK367 hb; replace BK385 := xbb_ BK385 hb; replace HB := xws_ HB hb; clear hb ho99; have hcz100_0 : w98.cell? ⟨gb385, 0, none⟩ = some (.string ((rd_T31 t362 x173_5).f0)) := xk_ BK385 0; have hcz100_1 : w98.cell? ⟨gb385, 1, none⟩ = some (.string ((rd_T31 t362 x173_5).f1)) := xk_ BK385 1; have hfz100_0 := blk_frozen BK385.out 0; have hfz100_1 := blk_frozen BK385.out 1; obtain ⟨Ao101, co101, eo101⟩ := Kd.R_slice HO396.out; subst eo101) | (go_at_call 15; (with_reducible refine (spec_ValuesOf.calls k5 _ _ y394 ((rd_T31 t362 x173_5).f0) t397 t398 _ ?side1 ?side2 A85.out).mono ?_); (case side1 => exact xc_ ((Kd.R_reads' HO396.out).2.2)); (case side2 => exact (Kd.R_reads' HO396.out).2.1); rintro e w102 ⟨v399, rfl, ho0, hb⟩; replace HO_14 := xrb_ HO_14 hb; replace HO_16 := xrb_ HO_16 hb; replace HO_171 := xrb_ HO_171 hb; replace HO396 := xrb_ HO396 hb; have HO400 := Aside0.mk (Kd.R_lower (Kd.R_new' (Kd.R_new' ho0 (Kd.R_lt (xr_ HO389))) (Kd.R_lt (xr_ HO393))) (below_size (xw_ HB))); replace HO389 := xre_ HO389 ho0 hb; replace HO393 := xre_ HO393 ho0 hb; replace BK367 := xbb_ BK367 hb; replace BK385 := xbb_ BK385 hb; replace HB := xws_ HB hb; (try clear hb); (try clear hb2); (try clear hk); (try clear hi); (try clear ho0); obtain ⟨Ao103, co103, eo103⟩ := Kd.R_slice HO400.out; subst eo103; obtain ⟨Ao104, co104, eo104⟩ := Kd.R_slice HO389.out; subst eo104; obtain ⟨Ao105, co105, eo105⟩ := Kd.R_slice HO393.out; subst eo105) | (go_at_call 16; (with_reducible refine (laws_sameTexts.calls k5 _ _ t386 _ _ t390 true _ ?side1 ?side2 ?side3 ?side4 A89.out).mono ?_); (case side1 => exact xc_ ((Kd.R_reads' HO389.out).2.2)); (case side2 => exact (Kd.R_reads' HO389.out).2.1); (case side3 => exact xc_ ((Kd.R_reads' HO393.out).2.2)); (case side4 => exact (Kd.R_reads' HO393.out).2.1); rintro e w' ⟨rfl, ⟨nd, rfl⟩⟩; (try first | exact ⟨rfl, _, World.drewN_drewN _ _ _⟩ | exact ⟨rfl, _, Eq.trans (World.drewN_drewN _ _ _) (congrArg (World.drewN _) (Nat.add_assoc _ _ _))⟩))))
                  go_roundg k5
                  case measure => have := HJ6.out; have := HJ11.out; have := HJ46.out; have := HJ62.out; have := HK5.out; omega
                  case rel => exact ⟨(wrap64 (x173_5 + 1)), (by first | rfl | (simp; done) | (simp [*]; done)), H', ⟨by have := HJ6.out; have := HJ11.out; have := HJ46.out; have := HJ62.out; have := HK5.out; omega⟩, ⟨xrt_ (Kd.R_mono HO_14.out (fun _ hk => ⟨hk.1.1.1, hk.1.1.2⟩))⟩, ⟨xrt_ (Kd.R_mono HO_16.out (fun _ hk => ⟨hk.1.1.1, ⟨hk.1.1.2.1, hk.1.1.2.2⟩⟩))⟩, ⟨xrt_ (Kd.R_mono HO_171.out (fun _ hk => ⟨hk.1.1.1, hk.1.1.2⟩))⟩, ⟨xb_ BK367⟩, ⟨xw_ HB⟩⟩
                 ·replace c90 := Bool.eq_false_iff.mpr c90
                  subst c90
                  have H1 : (some false) = some r := by rw [if_neg (show ¬ (false = true) by decide)] at H; exact H
                  clear H
                  have H := H1
                  clear H1
                  exact absurd ((Option.some.inj H).trans HT.out) Bool.false_ne_true
                ·rw [if_neg c88] at H
                 have c88b0 : ((t397.length : Int) == 0) = false := beq_eq_false_iff_ne.mpr c88
                 have c88b1 : ((t397.length : Int) != 0) = true := bne_iff_ne.mpr c88
                 have c88b2 : ¬ (t397 = []) := fun h_ => c88 (by rw [h_]; rfl)
                 have H' := Aside0.mk H
                 clear H
                 have p384 : 0 ≤ (x173_5 : Int) := of_decide_eq_true (by first | (with_reducible assumption) | assumption)
                 have q384 : x173_5 < (t362.length : Int) := of_decide_eq_true (by first | (with_reducible assumption) | assumption)
                 obtain ⟨ad384, e384, hx384_0, hx384_1⟩ := at_T31 (Kd.R_reads' HO_171.out).2.2 x173_5 p384 q384
                 cases e384
                 replace p384 := eq_true p384
                 replace q384 := eq_true q384
                 go_wp2_with (first | ((with_reducible refine gate_dst (N := 25) rfl ?_); (try (refine gate_guard (by rfl) ?_; dsimp only)); refine xbe_ (N := 25) (cs := #[.string (⟨#[]⟩ : ByteArray), .string (⟨#[]⟩ : ByteArray)]) (t := 31) ?_; intro gb385 hg w121 hbox hb; replace HO_14 := Aside0.mk (Kd.R_below (Kd.R_elderB (xr_ HO_14) gb385 (Nat.le_of_eq hg.symm)) hb); replace HO_16 := Aside0.mk (Kd.R_below (Kd.R_elderB (xr_ HO_16) gb385 (Nat.le_of_eq hg.symm)) hb); replace HO_171 := Aside0.mk (Kd.R_below (Kd.R_elderB (xr_ HO_171) gb385 (Nat.le_of_eq hg.symm)) hb); have BK385 := Aside0.mk (hbox); have GW385 := xge_ HB hg; have GE385 := xge_ HB hg; replace HB := xws_ HB hb; have NB367_385 := xlt_ BK367 hg; have NB385_367 := xgt_ BK367 hg; replace BK367 := xbb_ BK367 hb; clear hb hbox hg; have hnb122 := NB385_367.out; have hnc122 := NB367_385.out; have hcz123_0 : w121.cell? ⟨gb385, 0, none⟩ = some (.string (⟨#[]⟩ : ByteArray)) := xk_ BK385 0; have hcz123_1 : w121.cell? ⟨gb385, 1, none⟩ = some (.string (⟨#[]⟩ : ByteArray)) := xk_ BK385 1; have hfz123_0 := blk_frozen BK385.out 0; have hfz123_1 := blk_frozen BK385.out 1) | (go_at_call 15; (with_reducible refine (spec_ValuesOf.calls k5 _ _ t362 ((rd_T31 t362 x173_5).f0) t386 true _ ?side1 ?side2 A83.out).mono ?_); (case side1 => refine (Kd.R_reads' (e := 31) (base := w.heap.size) (ok := fun k_ => ((some k_ ≠ (.slice Ao65 t368.length co65 : Value).ownBlock ∧ k_ ≠ gb367) ∧ k_ ≠ gb385)) (n := t362.length) (c := co51) ?_).2.2; exact (xrt_ ((Kd.R_mono (Kd.R_far (p := ⟨gb385, 1, none⟩) (Kd.R_far (p := ⟨gb385, 0, none⟩) (Kd.R_mono HO_14.out (fun k_ hk => (⟨hk, hk.2⟩ : _ ∧ k_ ≠ gb385))) (fun _ hk => hk.2) (.string ((rd_T31 t362 x173_5).f0))) (fun _ hk => hk.2) (.string ((rd_T31 t362 x173_5).f1))) (fun _ h_ => h_.1))))); (case side2 => exact (Kd.R_reads' HO_14.out).2.1); rintro e w124 ⟨v388, rfl, ho0, hb⟩; replace HO_14 := Aside0.mk (Kd.R_below (xrt_ ((Kd.R_mono (Kd.R_far (p := ⟨gb385, 1, none⟩) (Kd.R_far (p := ⟨gb385, 0, none⟩) (Kd.R_mono HO_14.out (fun k_ hk => (⟨hk, hk.2⟩ : _ ∧ k_ ≠ gb385))) (fun _ hk => hk.2) (.string ((rd_T31 t362 x173_5).f0))) (fun _ hk => hk.2) (.string ((rd_T31 t362 x173_5).f1))) (fun _ h_ => h_.1)))) hb); replace HO_16 := Aside0.mk (Kd.R_below (xrt_ ((Kd.R_mono (Kd.R_far (p := ⟨gb385, 1, none⟩) (Kd.R_far (p := ⟨gb385, 0, none⟩) (Kd.R_mono HO_16.out (fun k_ hk => (⟨hk, hk.2⟩ : _ ∧ k_ ≠ gb385))) (fun _ hk => hk.2) (.string ((rd_T31 t362 x173_5).f0))) (fun _ hk => hk.2) (.string ((rd_T31 t362 x173_5).f1))) (fun _ h_ => h_.1)))) hb); replace HO_171 := Aside0.mk (Kd.R_below (xrt_ ((Kd.R_mono (Kd.R_far (p := ⟨gb385, 1, none⟩) (Kd.R_far (p := ⟨gb385, 0, none⟩) (Kd.R_mono HO_171.out (fun k_ hk => (⟨hk, hk.2⟩ : _ ∧ k_ ≠ gb385))) (fun _ hk => hk.2) (.string ((rd_T31 t362 x173_5).f0))) (fun _ hk => hk.2) (.string ((rd_T31 t362 x173_5).f1))) (fun _ h_ => h_.1)))) hb); have HO389 := Aside0.mk (Kd.R_lower ho0 (below_size (xw_ HB))); replace BK367 := Aside0.mk (blk_below (g := gb367) (o := .cells #[.string t365, .string t366] 31 (0, 0)) (by (with_reducible repeat (first | refine blk_drewN ?_ _ | refine blk_drew ?_ | refine blk_alloc ?_ _)); refine blk_far ?_ NB367_385.out _; (with_reducible repeat (first | refine blk_drewN ?_ _ | refine blk_drew ?_ | refine blk_alloc ?_ _)); refine blk_far ?_ NB367_385.out _; (with_reducible repeat (first | refine blk_drewN ?_ _ | refine blk_drew ?_ | refine blk_alloc ?_ _)); exact BK367.out) hb); replace BK385 := Aside0.mk (blk_below (g := gb385) (o := .cells #[.string ((rd_T31 t362 x173_5).f0), .string ((rd_T31 t362 x173_5).f1)] 31 (0, 0)) (by (with_reducible repeat (first | refine blk_drewN ?_ _ | refine blk_drew ?_ | refine blk_alloc ?_ _)); refine blk_put (cs := #[.string ((rd_T31 t362 x173_5).f0), .string (⟨#[]⟩ : ByteArray)]) ?_ 1 _ rfl; (with_reducible repeat (first | refine blk_drewN ?_ _ | refine blk_drew ?_ | refine blk_alloc ?_ _)); refine blk_put (cs := #[.string (⟨#[]⟩ : ByteArray), .string (⟨#[]⟩ : ByteArray)]) ?_ 0 _ rfl; (with_reducible repeat (first | refine blk_drewN ?_ _ | refine blk_drew ?_ | refine blk_alloc ?_ _)); exact BK385.out) hb); replace HB := xws_ HB hb; (try clear hb); (try clear hb2); (try clear hk); (try clear hi); (try clear ho0); have hcz125_0 : w124.cell? ⟨gb385, 0, none⟩ = some (.string ((rd_T31 t362 x173_5).f0)) := xk_ BK385 0; have hcz125_1 : w124.cell? ⟨gb385, 1, none⟩ = some (.string ((rd_T31 t362 x173_5).f1)) := xk_ BK385 1; have hfz125_0 := blk_frozen BK385.out 0; have hfz125_1 := blk_frozen BK385.out 1) | (go_at_call 13; (with_reducible refine (impl_ValuesOf.calls k5 _ _ t368 ((rd_T31 t362 x173_5).f0) t390 true _ ?side1 ?side2 A84.out).mono ?_); (case side1 => exact xc_ ((Kd.R_reads' HO_16.out).2.2)); (case side2 => exact (Kd.R_reads' HO_16.out).2.1); rintro e w126 ⟨v392, rfl, ho0, hb⟩; replace HO_14 := xrb_ HO_14 hb; replace HO_16 := xrb_ HO_16 hb; replace HO_171 := xrb_ HO_171 hb; have HO393 := Aside0.mk (Kd.R_lower (Kd.R_new' ho0 (Kd.R_lt (xr_ HO389))) (below_size (xw_ HB))); replace HO389 := xre_ HO389 ho0 hb; replace BK367 := xbb_ BK367 hb; replace BK385 := xbb_ BK385 hb; replace HB := xws_ HB hb; (try clear hb); (try clear hb2); (try clear hk); (try clear hi); (try clear ho0); have hcz127_0 : w126.cell? ⟨gb367, 0, none⟩ = some (.string t365) := xk_ BK367 0; have hcz127_1 : w126.cell? ⟨gb367, 1, none⟩ = some (.string t366) := xk_ BK367 1; have hfz127_0 := blk_frozen BK367.out 0; have hfz127_1 := blk_frozen BK367.out 1) | ((with_reducible refine gate_dst (N := 193) rfl ?_); (try (refine gate_guard (by rfl) ?_; dsimp only)); refine Kd.R_lit k31 _ 31 ?hg (N := 193) ?hd (xs := ([(⟨t365, t366⟩ : S31)] : List (S31))) (inner := [.string t365, .string t366]) (ok := fun _ => True) (okp := fun _ => True) ?hr ?hp (fun _ hk => hk) trivial (Below.refl _ _) (Nat.le_refl _) (by simp) ?_; (case hd => rfl); (case hg => rfl); (case hr => first | (go_simp; done) | (go_simp; rfl)); (case hp => exact (Reps.c2 (show Kd.M k31 _ _ _ (⟨t365, t366⟩ : S31) [.string t365, .string t366] from (k31_mkM _ _ _ (⟨t365, t366⟩ : S31) )) (Reps.none _ _))); intro v395 w128 ho129 hb hg_ hnew_; clear hg_ hnew_; (first | rw [← Ny394.out] at ho129 | (simp only [Int.reduceToNat] at ho129; rw [← Ny394.out] at ho129)); replace HO389 := xrb_ HO389 hb; replace HO393 := xrb_ HO393 hb; have HO396 := Aside0.mk (Kd.R_lower (Kd.R_newB (Kd.R_newB (Kd.R_new' (Kd.R_new' (Kd.R_new' ho129 (Kd.R_lt (xr_ HO_14))) (Kd.R_lt (xr_ HO_16))) (Kd.R_lt (xr_ HO_171))) (g := gb367) (o := .cells #[.string t365, .string t366] 31 (0, 0)) (xb_ BK367)) (g := gb385) (o := .cells #[.string ((rd_T31 t362 x173_5).f0), .string ((rd_T31 t362 x173_5).f1)] 31 (0, 0)) (xb_ BK385)) (below_size (xw_ HB))); replace HO_14 := Aside0.mk (Kd.R_elder' (xr_ HO_14) (Kd.R_base ho129) hb); replace HO_16 := Aside0.mk (Kd.R_elder' (xr_ HO_16) (Kd.R_base ho129) hb); replace HO_171 := Aside0.mk (Kd.R_elder' (xr_ HO_171) (Kd.R_base ho129) hb); replace BK367 := xbb_ BK367 hb; replace BK385 := xbb_ BK385 hb; replace HB := xws_ HB hb; clear hb ho129; have hcz130_0 : w128.cell? ⟨gb385, 0, none⟩ = some (.string ((rd_T31 t362 x173_5).f0)) := xk_ BK385 0; have hcz130_1 : w128.cell? ⟨gb385, 1, none⟩ = some (.string ((rd_T31 t362 x173_5).f1)) := xk_ BK385 1; have hfz130_0 := blk_frozen BK385.out 0; have hfz130_1 := blk_frozen BK385.out 1; obtain ⟨Ao131, co131, eo131⟩ := Kd.R_slice HO396.out; subst eo131) | (go_at_call 15; (with_reducible refine (spec_ValuesOf.calls k5 _ _ y394 ((rd_T31 t362 x173_5).f0) t397 t398 _ ?side1 ?side2 A85.out).mono ?_); (case side1 => exact xc_ ((Kd.R_reads' HO396.out).2.2)); (case side2 => exact (Kd.R_reads' HO396.out).2.1); rintro e w132 ⟨v399, rfl, ho0, hb⟩; replace HO_14 := xrb_ HO_14 hb; replace HO_16 := xrb_ HO_16 hb; replace HO_171 := xrb_ HO_171 hb; replace HO396 := xrb_ HO396 hb; have HO400 := Aside0.mk (Kd.R_lower (Kd.R_new' (Kd.R_new' ho0 (Kd.R_lt (xr_ HO389))) (Kd.R_lt (xr_ HO393))) (below_size (xw_ HB))); replace HO389 := xre_ HO389 ho0 hb; replace HO393 := xre_ HO393 ho0 hb; replace BK367 := xbb_ BK367 hb; replace BK385 := xbb_ BK385 hb; replace HB := xws_ HB hb; (try clear hb); (try clear hb2); (try clear hk); (try clear hi); (try clear ho0); obtain ⟨Ao133, co133, eo133⟩ := Kd.R_slice HO400.out; subst eo133))
                 repeat ((try simp only [List.append_eq, List.cons_append, List.nil_append, List.append]); go_quiet (first | ((with_reducible refine gate_dst (N := 25) rfl ?_); (try (refine gate_guard (by rfl) ?_; dsimp only)); refine xbe_ (N := 25) (cs := #[.string (⟨#[]⟩ : ByteArray), .string (⟨#[]⟩ : ByteArray)]) (t := 31) ?_; intro gb385 hg w121 hbox hb; replace HO_14 := Aside0.mk (Kd.R_below (Kd.R_elderB (xr_ HO_14) gb385 (Nat.le_of_eq hg.symm)) hb); replace HO_16 := Aside0.mk (Kd.R_below (Kd.R_elderB (xr_ HO_16) gb385 (Nat.le_of_eq hg.symm)) hb); replace HO_171 := Aside0.mk (Kd.R_below (Kd.R_elderB (xr_ HO_171) gb385 (Nat.le_of_eq hg.symm)) hb); have BK385 := Aside0.mk (hbox); have GW385 := xge_ HB hg; have GE385 := xge_ HB hg; replace HB := xws_ HB hb; have NB367_385 := xlt_ BK367 hg; have NB385_367 := xgt_ BK367 hg; replace BK367 := xbb_ BK367 hb; clear hb hbox hg; have hnb122 := NB385_367.out; have hnc122 := NB367_385.out; have hcz123_0 : w121.cell? ⟨gb385, 0, none⟩ = some (.string (⟨#[]⟩ : ByteArray)) := xk_ BK385 0; have hcz123_1 : w121.cell? ⟨gb385, 1, none⟩ = some (.string (⟨#[]⟩ : ByteArray)) := xk_ BK385 1; have hfz123_0 := blk_frozen BK385.out 0; have hfz123_1 := blk_frozen BK385.out 1) | (go_at_call 15; (with_reducible refine (spec_ValuesOf.calls k5 _ _ t362 ((rd_T31 t362 x173_5).f0) t386 true _ ?side1 ?side2 A83.out).mono ?_); (case side1 => refine (Kd.R_reads' (e := 31) (base := w.heap.size) (ok := fun k_ => ((some k_ ≠ (.slice Ao65 t368.length co65 : Value).ownBlock ∧ k_ ≠ gb367) ∧ k_ ≠ gb385)) (n := t362.length) (c := co51) ?_).2.2; exact (xrt_ ((Kd.R_mono (Kd.R_far (p := ⟨gb385, 1, none⟩) (Kd.R_far (p := ⟨gb385, 0, none⟩) (Kd.R_mono HO_14.out (fun k_ hk => (⟨hk, hk.2⟩ : _ ∧ k_ ≠ gb385))) (fun _ hk => hk.2) (.string ((rd_T31 t362 x173_5).f0))) (fun _ hk => hk.2) (.string ((rd_T31 t362 x173_5).f1))) (fun _ h_ => h_.1))))); (case side2 => exact (Kd.R_reads' HO_14.out).2.1); rintro e w124 ⟨v388, rfl, ho0, hb⟩; replace HO_14 := Aside0.mk (Kd.R_below (xrt_ ((Kd.R_mono (Kd.R_far (p := ⟨gb385, 1, none⟩) (Kd.R_far (p := ⟨gb385, 0, none⟩) (Kd.R_mono HO_14.out (fun k_ hk => (⟨hk, hk.2⟩ : _ ∧ k_ ≠ gb385))) (fun _ hk => hk.2) (.string ((rd_T31 t362 x173_5).f0))) (fun _ hk => hk.2) (.string ((rd_T31 t362 x173_5).f1))) (fun _ h_ => h_.1)))) hb); replace HO_16 := Aside0.mk (Kd.R_below (xrt_ ((Kd.R_mono (Kd.R_far (p := ⟨gb385, 1, none⟩) (Kd.R_far (p := ⟨gb385, 0, none⟩) (Kd.R_mono HO_16.out (fun k_ hk => (⟨hk, hk.2⟩ : _ ∧ k_ ≠ gb385))) (fun _ hk => hk.2) (.string ((rd_T31 t362 x173_5).f0))) (fun _ hk => hk.2) (.string ((rd_T31 t362 x173_5).f1))) (fun _ h_ => h_.1)))) hb); replace HO_171 := Aside0.mk (Kd.R_below (xrt_ ((Kd.R_mono (Kd.R_far (p := ⟨gb385, 1, none⟩) (Kd.R_far (p := ⟨gb385, 0, none⟩) (Kd.R_mono HO_171.out (fun k_ hk => (⟨hk, hk.2⟩ : _ ∧ k_ ≠ gb385))) (fun _ hk => hk.2) (.string ((rd_T31 t362 x173_5).f0))) (fun _ hk => hk.2) (.string ((rd_T31 t362 x173_5).f1))) (fun _ h_ => h_.1)))) hb); have HO389 := Aside0.mk (Kd.R_lower ho0 (below_size (xw_ HB))); replace BK367 := Aside0.mk (blk_below (g := gb367) (o := .cells #[.string t365, .string t366] 31 (0, 0)) (by (with_reducible repeat (first | refine blk_drewN ?_ _ | refine blk_drew ?_ | refine blk_alloc ?_ _)); refine blk_far ?_ NB367_385.out _; (with_reducible repeat (first | refine blk_drewN ?_ _ | refine blk_drew ?_ | refine blk_alloc ?_ _)); refine blk_far ?_ NB367_385.out _; (with_reducible repeat (first | refine blk_drewN ?_ _ | refine blk_drew ?_ | refine blk_alloc ?_ _)); exact BK367.out) hb); replace BK385 := Aside0.mk (blk_below (g := gb385) (o := .cells #[.string ((rd_T31 t362 x173_5).f0), .string ((rd_T31 t362 x173_5).f1)] 31 (0, 0)) (by (with_reducible repeat (first | refine blk_drewN ?_ _ | refine blk_drew ?_ | refine blk_alloc ?_ _)); refine blk_put (cs := #[.string ((rd_T31 t362 x173_5).f0), .string (⟨#[]⟩ : ByteArray)]) ?_ 1 _ rfl; (with_reducible repeat (first | refine blk_drewN ?_ _ | refine blk_drew ?_ | refine blk_alloc ?_ _)); refine blk_put (cs := #[.string (⟨#[]⟩ : ByteArray), .string (⟨#[]⟩ : ByteArray)]) ?_ 0 _ rfl; (with_reducible repeat (first | refine blk_drewN ?_ _ | refine blk_drew ?_ | refine blk_alloc ?_ _)); exact BK385.out) hb); replace HB := xws_ HB hb; (try clear hb); (try clear hb2); (try clear hk); (try clear hi); (try clear ho0); have hcz125_0 : w124.cell? ⟨gb385, 0, none⟩ = some (.string ((rd_T31 t362 x173_5).f0)) := xk_ BK385 0; have hcz125_1 : w124.cell? ⟨gb385, 1, none⟩ = some (.string ((rd_T31 t362 x173_5).f1)) := xk_ BK385 1; have hfz125_0 := blk_frozen BK385.out 0; have hfz125_1 := blk_frozen BK385.out 1) | (go_at_call 13; (with_reducible refine (impl_ValuesOf.calls k5 _ _ t368 ((rd_T31 t362 x173_5).f0) t390 true _ ?side1 ?side2 A84.out).mono ?_); (case side1 => exact xc_ ((Kd.R_reads' HO_16.out).2.2)); (case side2 => exact (Kd.R_reads' HO_16.out).2.1); rintro e w126 ⟨v392, rfl, ho0, hb⟩; replace HO_14 := xrb_ HO_14 hb; replace HO_16 := xrb_ HO_16 hb; replace HO_171 := xrb_ HO_171 hb; have HO393 := Aside0.mk (Kd.R_lower (Kd.R_new' ho0 (Kd.R_lt (xr_ HO389))) (below_size (xw_ HB))); replace HO389 := xre_ HO389 ho0 hb; replace BK367 := xbb_ BK367 hb; replace BK385 := xbb_ BK385 hb; replace HB := xws_ HB hb; (try clear hb); (try clear hb2); (try clear hk); (try clear hi); (try clear ho0); have hcz127_0 : w126.cell? ⟨gb367, 0, none⟩ = some (.string t365) := xk_ BK367 0; have hcz127_1 : w126.cell? ⟨gb367, 1, none⟩ = some (.string t366) := xk_ BK367 1; have hfz127_0 := blk_frozen BK367.out 0; have hfz127_1 := blk_frozen BK367.out 1) | ((with_reducible refine gate_dst (N := 193) rfl ?_); (try (refine gate_guard (by rfl) ?_; dsimp only)); refine Kd.R_lit k31 _ 31 ?hg (N := 193) ?hd (xs := ([(⟨t365, t366⟩ : S31)] : List (S31))) (inner := [.string t365, .string t366]) (ok := fun _ => True) (okp := fun _ => True) ?hr ?hp (fun _ hk => hk) trivial (Below.refl _ _) (Nat.le_refl _) (by simp) ?_; (case hd => rfl); (case hg => rfl); (case hr => first | (go_simp; done) | (go_simp; rfl)); (case hp => exact (Reps.c2 (show Kd.M k31 _ _ _ (⟨t365, t366⟩ : S31) [.string t365, .string t366] from (k31_mkM _ _ _ (⟨t365, t366⟩ : S31) )) (Reps.none _ _))); intro v395 w128 ho129 hb hg_ hnew_; clear hg_ hnew_; (first | rw [← Ny394.out] at ho129 | (simp only [Int.reduceToNat] at ho129; rw [← Ny394.out] at ho129)); replace HO389 := xrb_ HO389 hb; replace HO393 := xrb_ HO393 hb; have HO396 := Aside0.mk (Kd.R_lower (Kd.R_newB (Kd.R_newB (Kd.R_new' (Kd.R_new' (Kd.R_new' ho129 (Kd.R_lt (xr_ HO_14))) (Kd.R_lt (xr_ HO_16))) (Kd.R_lt (xr_ HO_171))) (g := gb367) (o := .cells #[.string t365, .string t366] 31 (0, 0)) (xb_ BK367)) (g := gb385) (o := .cells #[.string ((rd_T31 t362 x173_5).f0), .string ((rd_T31 t362 x173_5).f1)] 31 (0, 0)) (xb_ BK385)) (below_size (xw_ HB))); replace HO_14 := Aside0.mk (Kd.R_elder' (xr_ HO_14) (Kd.R_base ho129) hb); replace HO_16 := Aside0.mk (Kd.R_elder' (xr_ HO_16) (Kd.R_base ho129) hb); replace HO_171 := Aside0.mk (Kd.R_elder' (xr_ HO_171) (Kd.R_base ho129) hb); replace BK367 := xbb_ BK367 hb; replace BK385 := xbb_ BK385 hb; replace HB := xws_ HB hb; clear hb ho129; have hcz130_0 : w128.cell? ⟨gb385, 0, none⟩ = some (.string ((rd_T31 t362 x173_5).f0)) := xk_ BK385 0; have hcz130_1 : w128.cell? ⟨gb385, 1, none⟩ = some (.string ((rd_T31 t362 x173_5).f1)) := xk_ BK385 1; have hfz130_0 := blk_frozen BK385.out 0; have hfz130_1 := blk_frozen BK385.out 1; obtain ⟨Ao131, co131, eo131⟩ := Kd.R_slice HO396.out; subst eo131) | (go_at_call 15; (with_reducible refine (spec_ValuesOf.calls k5 _ _ y394 ((rd_T31 t362 x173_5).f0) t397 t398 _ ?side1 ?side2 A85.out).mono ?_); (case side1 => exact xc_ ((Kd.R_reads' HO396.out).2.2)); (case side2 => exact (Kd.R_reads' HO396.out).2.1); rintro e w132 ⟨v399, rfl, ho0, hb⟩; replace HO_14 := xrb_ HO_14 hb; replace HO_16 := xrb_ HO_16 hb; replace HO_171 := xrb_ HO_171 hb; replace HO396 := xrb_ HO396 hb; have HO400 := Aside0.mk (Kd.R_lower (Kd.R_new' (Kd.R_new' ho0 (Kd.R_lt (xr_ HO389))) (Kd.R_lt (xr_ HO393))) (below_size (xw_ HB))); replace HO389 := xre_ HO389 ho0 hb; replace HO393 := xre_ HO393 ho0 hb; replace BK367 := xbb_ BK367 hb; replace BK385 := xbb_ BK385 hb; replace HB := xws_ HB hb; (try clear hb); (try clear hb2); (try clear hk); (try clear hi); (try clear ho0); obtain ⟨Ao133, co133, eo133⟩ := Kd.R_slice HO400.out; subst eo133)); try go_wp2_with (first | ((with_reducible refine gate_dst (N := 25) rfl ?_); (try (refine gate_guard (by rfl) ?_; dsimp only)); refine xbe_ (N := 25) (cs := #[.string (⟨#[]⟩ : ByteArray), .string (⟨#[]⟩ : ByteArray)]) (t := 31) ?_; intro gb385 hg w121 hbox hb; replace HO_14 := Aside0.mk (Kd.R_below (Kd.R_elderB (xr_ HO_14) gb385 (Nat.le_of_eq hg.symm)) hb); replace HO_16 := Aside0.mk (Kd.R_below (Kd.R_elderB (xr_ HO_16) gb385 (Nat.le_of_eq hg.symm)) hb); replace HO_171 := Aside0.mk (Kd.R_below (Kd.R_elderB (xr_ HO_171) gb385 (Nat.le_of_eq hg.symm)) hb); have BK385 := Aside0.mk (hbox); have GW385 := xge_ HB hg; have GE385 := xge_ HB hg; replace HB := xws_ HB hb; have NB367_385 := xlt_ BK367 hg; have NB385_367 := xgt_ BK367 hg; replace BK367 := xbb_ BK367 hb; clear hb hbox hg; have hnb122 := NB385_367.out; have hnc122 := NB367_385.out; have hcz123_0 : w121.cell? ⟨gb385, 0, none⟩ = some (.string (⟨#[]⟩ : ByteArray)) := xk_ BK385 0; have hcz123_1 : w121.cell? ⟨gb385, 1, none⟩ = some (.string (⟨#[]⟩ : ByteArray)) := xk_ BK385 1; have hfz123_0 := blk_frozen BK385.out 0; have hfz123_1 := blk_frozen BK385.out 1) | (go_at_call 15; (with_reducible refine (spec_ValuesOf.calls k5 _ _ t362 ((rd_T31 t362 x173_5).f0) t386 true _ ?side1 ?side2 A83.out).mono ?_); (case side1 => refine (Kd.R_reads' (e := 31) (base := w.heap.size) (ok := fun k_ => ((some k_ ≠ (.slice Ao65 t368.length co65 : Value).ownBlock ∧ k_ ≠ gb367) ∧ k_ ≠ gb385)) (n := t362.length) (c := co51) ?_).2.2; exact (xrt_ ((Kd.R_mono (Kd.R_far (p := ⟨gb385, 1, none⟩) (Kd.R_far (p := ⟨gb385, 0, none⟩) (Kd.R_mono HO_14.out (fun k_ hk => (⟨hk, hk.2⟩ : _ ∧ k_ ≠ gb385))) (fun _ hk => hk.2) (.string ((rd_T31 t362 x173_5).f0))) (fun _ hk => hk.2) (.string ((rd_T31 t362 x173_5).f1))) (fun _ h_ => h_.1))))); (case side2 => exact (Kd.R_reads' HO_14.out).2.1); rintro e w124 ⟨v388, rfl, ho0, hb⟩; replace HO_14 := Aside0.mk (Kd.R_below (xrt_ ((Kd.R_mono (Kd.R_far (p := ⟨gb385, 1, none⟩) (Kd.R_far (p := ⟨gb385, 0, none⟩) (Kd.R_mono HO_14.out (fun k_ hk => (⟨hk, hk.2⟩ : _ ∧ k_ ≠ gb385))) (fun _ hk => hk.2) (.string ((rd_T31 t362 x173_5).f0))) (fun _ hk => hk.2) (.string ((rd_T31 t362 x173_5).f1))) (fun _ h_ => h_.1)))) hb); replace HO_16 := Aside0.mk (Kd.R_below (xrt_ ((Kd.R_mono (Kd.R_far (p := ⟨gb385, 1, none⟩) (Kd.R_far (p := ⟨gb385, 0, none⟩) (Kd.R_mono HO_16.out (fun k_ hk => (⟨hk, hk.2⟩ : _ ∧ k_ ≠ gb385))) (fun _ hk => hk.2) (.string ((rd_T31 t362 x173_5).f0))) (fun _ hk => hk.2) (.string ((rd_T31 t362 x173_5).f1))) (fun _ h_ => h_.1)))) hb); replace HO_171 := Aside0.mk (Kd.R_below (xrt_ ((Kd.R_mono (Kd.R_far (p := ⟨gb385, 1, none⟩) (Kd.R_far (p := ⟨gb385, 0, none⟩) (Kd.R_mono HO_171.out (fun k_ hk => (⟨hk, hk.2⟩ : _ ∧ k_ ≠ gb385))) (fun _ hk => hk.2) (.string ((rd_T31 t362 x173_5).f0))) (fun _ hk => hk.2) (.string ((rd_T31 t362 x173_5).f1))) (fun _ h_ => h_.1)))) hb); have HO389 := Aside0.mk (Kd.R_lower ho0 (below_size (xw_ HB))); replace BK367 := Aside0.mk (blk_below (g := gb367) (o := .cells #[.string t365, .string t366] 31 (0, 0)) (by (with_reducible repeat (first | refine blk_drewN ?_ _ | refine blk_drew ?_ | refine blk_alloc ?_ _)); refine blk_far ?_ NB367_385.out _; (with_reducible repeat (first | refine blk_drewN ?_ _ | refine blk_drew ?_ | refine blk_alloc ?_ _)); refine blk_far ?_ NB367_385.out _; (with_reducible repeat (first | refine blk_drewN ?_ _ | refine blk_drew ?_ | refine blk_alloc ?_ _)); exact BK367.out) hb); replace BK385 := Aside0.mk (blk_below (g := gb385) (o := .cells #[.string ((rd_T31 t362 x173_5).f0), .string ((rd_T31 t362 x173_5).f1)] 31 (0, 0)) (by (with_reducible repeat (first | refine blk_drewN ?_ _ | refine blk_drew ?_ | refine blk_alloc ?_ _)); refine blk_put (cs := #[.string ((rd_T31 t362 x173_5).f0), .string (⟨#[]⟩ : ByteArray)]) ?_ 1 _ rfl; (with_reducible repeat (first | refine blk_drewN ?_ _ | refine blk_drew ?_ | refine blk_alloc ?_ _)); refine blk_put (cs := #[.string (⟨#[]⟩ : ByteArray), .string (⟨#[]⟩ : ByteArray)]) ?_ 0 _ rfl; (with_reducible repeat (first | refine blk_drewN ?_ _ | refine blk_drew ?_ | refine blk_alloc ?_ _)); exact BK385.out) hb); replace HB := xws_ HB hb; (try clear hb); (try clear hb2); (try clear hk); (try clear hi); (try clear ho0); have hcz125_0 : w124.cell? ⟨gb385, 0, none⟩ = some (.string ((rd_T31 t362 x173_5).f0)) := xk_ BK385 0; have hcz125_1 : w124.cell? ⟨gb385, 1, none⟩ = some (.string ((rd_T31 t362 x173_5).f1)) := xk_ BK385 1; have hfz125_0 := blk_frozen BK385.out 0; have hfz125_1 := blk_frozen BK385.out 1) | (go_at_call 13; (with_reducible refine (impl_ValuesOf.calls k5 _ _ t368 ((rd_T31 t362 x173_5).f0) t390 true _ ?side1 ?side2 A84.out).mono ?_); (case side1 => exact xc_ ((Kd.R_reads' HO_16.out).2.2)); (case side2 => exact (Kd.R_reads' HO_16.out).2.1); rintro e w126 ⟨v392, rfl, ho0, hb⟩; replace HO_14 := xrb_ HO_14 hb; replace HO_16 := xrb_ HO_16 hb; replace HO_171 := xrb_ HO_171 hb; have HO393 := Aside0.mk (Kd.R_lower (Kd.R_new' ho0 (Kd.R_lt (xr_ HO389))) (below_size (xw_ HB))); replace HO389 := xre_ HO389 ho0 hb; replace BK367 := xbb_ BK367 hb; replace BK385 := xbb_ BK385 hb; replace HB := xws_ HB hb; (try clear hb); (try clear hb2); (try clear hk); (try clear hi); (try clear ho0); have hcz127_0 : w126.cell? ⟨gb367, 0, none⟩ = some (.string t365) := xk_ BK367 0; have hcz127_1 : w126.cell? ⟨gb367, 1, none⟩ = some (.string t366) := xk_ BK367 1; have hfz127_0 := blk_frozen BK367.out 0; have hfz127_1 := blk_frozen BK367.out 1) | ((with_reducible refine gate_dst (N := 193) rfl ?_); (try (refine gate_guard (by rfl) ?_; dsimp only)); refine Kd.R_lit k31 _ 31 ?hg (N := 193) ?hd (xs := ([(⟨t365, t366⟩ : S31)] : List (S31))) (inner := [.string t365, .string t366]) (ok := fun _ => True) (okp := fun _ => True) ?hr ?hp (fun _ hk => hk) trivial (Below.refl _ _) (Nat.le_refl _) (by simp) ?_; (case hd => rfl); (case hg => rfl); (case hr => first | (go_simp; done) | (go_simp; rfl)); (case hp => exact (Reps.c2 (show Kd.M k31 _ _ _ (⟨t365, t366⟩ : S31) [.string t365, .string t366] from (k31_mkM _ _ _ (⟨t365, t366⟩ : S31) )) (Reps.none _ _))); intro v395 w128 ho129 hb hg_ hnew_; clear hg_ hnew_; (first | rw [← Ny394.out] at ho129 | (simp only [Int.reduceToNat] at ho129; rw [← Ny394.out] at ho129)); replace HO389 := xrb_ HO389 hb; replace HO393 := xrb_ HO393 hb; have HO396 := Aside0.mk (Kd.R_lower (Kd.R_newB (Kd.R_newB (Kd.R_new' (Kd.R_new' (Kd.R_new' ho129 (Kd.R_lt (xr_ HO_14))) (Kd.R_lt (xr_ HO_16))) (Kd.R_lt (xr_ HO_171))) (g := gb367) (o := .cells #[.string t365, .string t366] 31 (0, 0)) (xb_ BK367)) (g := gb385) (o := .cells #[.string ((rd_T31 t362 x173_5).f0), .string ((rd_T31 t362 x173_5).f1)] 31 (0, 0)) (xb_ BK385)) (below_size (xw_ HB))); replace HO_14 := Aside0.mk (Kd.R_elder' (xr_ HO_14) (Kd.R_base ho129) hb); replace HO_16 := Aside0.mk (Kd.R_elder' (xr_ HO_16) (Kd.R_base ho129) hb); replace HO_171 := Aside0.mk (Kd.R_elder' (xr_ HO_171) (Kd.R_base ho129) hb); replace BK367 := xbb_ BK367 hb; replace BK385 := xbb_ BK385 hb; replace HB := xws_ HB hb; clear hb ho129; have hcz130_0 : w128.cell? ⟨gb385, 0, none⟩ = some (.string ((rd_T31 t362 x173_5).f0)) := xk_ BK385 0; have hcz130_1 : w128.cell? ⟨gb385, 1, none⟩ = some (.string ((rd_T31 t362 x173_5).f1)) := xk_ BK385 1; have hfz130_0 := blk_frozen BK385.out 0; have hfz130_1 := blk_frozen BK385.out 1; obtain ⟨Ao131, co131, eo131⟩ := Kd.R_slice HO396.out; subst eo131) | (go_at_call 15; (with_reducible refine (spec_ValuesOf.calls k5 _ _ y394 ((rd_T31 t362 x173_5).f0) t397 t398 _ ?side1 ?side2 A85.out).mono ?_); (case side1 => exact xc_ ((Kd.R_reads' HO396.out).2.2)); (case side2 => exact (Kd.R_reads' HO396.out).2.1); rintro e w132 ⟨v399, rfl, ho0, hb⟩; replace HO_14 := xrb_ HO_14 hb; replace HO_16 := xrb_ HO_16 hb; replace HO_171 := xrb_ HO_171 hb; replace HO396 := xrb_ HO396 hb; have HO400 := Aside0.mk (Kd.R_lower (Kd.R_new' (Kd.R_new' ho0 (Kd.R_lt (xr_ HO389))) (Kd.R_lt (xr_ HO393))) (below_size (xw_ HB))); replace HO389 := xre_ HO389 ho0 hb; replace HO393 := xre_ HO393 ho0 hb; replace BK367 := xbb_ BK367 hb; replace BK385 := xbb_ BK385 hb; replace HB := xws_ HB hb; (try clear hb); (try clear hb2); (try clear hk); (try clear hi); (try clear ho0); obtain ⟨Ao133, co133, eo133⟩ := Kd.R_slice HO400.out; subst eo133)))
                 go_roundg k5
                 case measure => have := HJ6.out; have := HJ11.out; have := HJ46.out; have := HJ62.out; have := HK5.out; omega
                 case rel => exact ⟨(wrap64 (x173_5 + 1)), (by first | rfl | (simp; done) | (simp [*]; done)), H', ⟨by have := HJ6.out; have := HJ11.out; have := HJ46.out; have := HJ62.out; have := HK5.out; omega⟩, ⟨xrt_ (Kd.R_mono HO_14.out (fun _ hk => ⟨hk.1.1.1, hk.1.1.2⟩))⟩, ⟨xrt_ (Kd.R_mono HO_16.out (fun _ hk => ⟨hk.1.1.1, ⟨hk.1.1.2.1, hk.1.1.2.2⟩⟩))⟩, ⟨xrt_ (Kd.R_mono HO_171.out (fun _ hk => ⟨hk.1.1.1, hk.1.1.2⟩))⟩, ⟨xb_ BK367⟩, ⟨xw_ HB⟩⟩
               ·replace c87 := Bool.eq_false_iff.mpr c87
                subst c87
                have H1 : (some false) = some r := by rw [if_neg (show ¬ (false = true) by decide)] at H; exact H
                clear H
                have H := H1
                clear H1
                exact absurd ((Option.some.inj H).trans HT.out) Bool.false_ne_true
              ·replace c86 := Bool.eq_false_iff.mpr c86
               subst c86
               have H1 : (some false) = some r := by rw [if_neg (show ¬ (false = true) by decide)] at H; exact H
               clear H
               have H := H1
               clear H1
               exact absurd ((Option.some.inj H).trans HT.out) Bool.false_ne_true
             ·rw [if_neg c82] at H
              exact absurd H (by simp)
            ·rw [if_neg c81] at H
             exact absurd H (by simp)
           ·rw [if_neg c80] at H
            have c80b0 : decide (x173_5 < (t362.length : Int)) = false := decide_eq_false c80
            clear c80
            obtain rfl := Option.some.inj H
            go_wp2
            repeat ((try simp only [List.append_eq, List.cons_append, List.nil_append, List.append]); go_quiet (fail); try go_wp2)
            go_ret
            exact ⟨by first | rfl | (simp [errW_none, errW_some] <;> rfl) | (simp [*, errW_none, errW_some] <;> rfl), xw_ HB⟩
     ·replace c60 := Bool.eq_false_iff.mpr c60
      subst c60
      have H1 : (some ((t368.length : Int) == 0)) = some r := by rw [if_neg (show ¬ (false = true) by decide)] at H; exact H
      clear H
      have H := H1
      clear H1
      obtain rfl := Option.some.inj H
      obtain ⟨Ao158, co158, eo158⟩ := Kd.R_slice HO_16.out
      subst eo158
      go_wp2
      repeat ((try simp only [List.append_eq, List.cons_append, List.nil_append, List.append]); go_quiet (fail); try go_wp2)
      go_ret
      exact ⟨by first | rfl | (simp [errW_none, errW_some] <;> rfl) | (simp [*, errW_none, errW_some] <;> rfl), xw_ HB⟩

theorem laws_FnQuoted.calls (k : Nat) (A0 : Option Addr) (c0 : Nat) (l0 : List Int) (A1 : Option Addr) (c1 : Nat) (l1 : List Int) (r : Bool) (w : World) (htrue : r = true) (hr0 : Kd.C (Kd.int .u8) w A0 l0.length l0) (hc0 : l0.length ≤ c0) (hr1 : Kd.C (Kd.int .u8) w A1 l1.length l1) (hc1 : l1.length ≤ c1) (h : laws_FnQuoted.f k l0 l1 = some r) :
    Calls Tryd.prog 3 #[.slice A0 l0.length c0, .slice A1 l1.length c1] w fun e w' => e = .returned (.bool r) ∧ Below w.heap.size w w' := laws_FnQuoted.calls1.2 k A0 c0 l0 A1 c1 l1 r w htrue hr0 hc0 hr1 hc1 h ⟨laws_FnQuoted.calls2_0 k A0 c0 l0 A1 c1 l1 r w⟩
/-- THE ONE PURE STATEMENT of laws_FnQuoted: yours. -/
def laws_FnQuoted.Pure : Prop := ∀ (l0 : List Int) (l1 : List Int), l0.length ≤ maxLen → l0.length * 1 ≤ 140737488351232 → (∀ x ∈ l0, (Lit.int .u8 x).wf = true) → l1.length ≤ maxLen → l1.length * 1 ≤ 140737488351232 → (∀ x ∈ l1, (Lit.int .u8 x).wf = true) → ∃ k, laws_FnQuoted.f k l0 l1 = some true
theorem laws_FnQuoted.walk (P : laws_FnQuoted.Pure) (a0 : Option Addr) (len0 cap0 : Nat) (z0 : List Int) (a1 : Option Addr) (len1 cap1 : Nat) (z1 : List Int) (w : World) (w0 : (a0 = none ∧ len0 = 0 ∧ cap0 = 0 ∧ z0 = []) ∨ ∃ x, a0 = some x ∧ len0 ≤ cap0 ∧ cap0 ≤ maxLen ∧ z0.length = cap0 ∧ (∀ i, i < z0.length → w.cell? (x.add i) = some (.int .u8 (z0.getD i 0))) ∧ ∀ n ∈ z0, (Lit.int .u8 n).wf = true) (y0 : len0 * 1 ≤ 140737488351232) (w1 : (a1 = none ∧ len1 = 0 ∧ cap1 = 0 ∧ z1 = []) ∨ ∃ x, a1 = some x ∧ len1 ≤ cap1 ∧ cap1 ≤ maxLen ∧ z1.length = cap1 ∧ (∀ i, i < z1.length → w.cell? (x.add i) = some (.int .u8 (z1.getD i 0))) ∧ ∀ n ∈ z1, (Lit.int .u8 n).wf = true) (y1 : len1 * 1 ≤ 140737488351232) :
  Calls Tryd.prog 3 #[.slice a0 len0 cap0, .slice a1 len1 cap1] w fun e w' => e = .returned (.bool true) ∧ Below w.heap.size w w' := by
 obtain ⟨l0, rfl, hr0, hm0, hw0, hc0⟩ := ReadsInt.ofRowC w0
 obtain ⟨l1, rfl, hr1, hm1, hw1, hc1⟩ := ReadsInt.ofRowC w1
 obtain ⟨k, h⟩ := P l0 l1 hm0 y0 hw0 hm1 y1 hw1
 refine (laws_FnQuoted.calls k _ _ l0 _ _ l1 true w rfl (Kd.C_of_reads (d := (0 : Int)) (h1 := fun _ => rfl) hr0) hc0 (Kd.C_of_reads (d := (0 : Int)) (h1 := fun _ => rfl) hr1) hc1 h).mono ?_
 rintro e w' ⟨rfl, hd⟩
 exact ⟨rfl, hd⟩

end Go.Proofs.YtjkpomphkfecmaaDoor.PFnQuoted
