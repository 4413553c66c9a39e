-- Written by a program of this project (xprint.py) out of the translation; Lean checks it.
import Derived.Test.YtemeajidcggniaaPFnSketchx0
import Derived.Test.YtemeajidcggniaaPFnSketchx1
import Derived.Test.YtemeajidcggniaaPFnSketchx2
import Derived.Test.YtemeajidcggniaaPFnSketchx5
import Derived.Test.YtemeajidcggniaaPFnSketchx6
import Derived.Test.YtemeajidcggniaaPFnSketchx7
import Derived.Test.YtemeajidcggniaaPFnSketchx8
import Derived.Test.YtemeajidcggniaaPFnSketchx9
namespace Go.Proofs.Ytemeajidcggniaa.PFnSketch
open Go.RowKit Go.Proofs.YtemeajidcggniaaW.PrintWords Go.Proofs.YtemeajidcggniaaW.PrintLast Go.Proofs.YtemeajidcggniaaW.PrintMore
attribute [local go_sem] max2_int min2_int max_two min_two max_three min_three max_four min_four   -- for this text's walks alone
set_option linter.unusedVariables false
set_option linter.unusedSimpArgs false

set_option maxHeartbeats 8000000 in
set_option maxRecDepth 100000 in
theorem laws_FnSketch.calls2_02_0 (k : Nat) (A0 : Option Addr) (c0 : Nat) (l0 : List Int) (A1 : Option Addr) (c1 : Nat) (l1 : List Int) (r : Bool) (w : World) :
  laws_FnSketch.calls2_01.1 k A0 c0 l0 A1 c1 l1 r w := by
 conv => whnf
 intro hu25 HR0 HC0 HR1 HC1 c3b0 t282 t285 t286 t287 A4 t289 t292 t293 A5 t295 t298 t299 A6 zz0_0 w8 gb288 w9 GW288 GE288 Ao10 co10 zz0_1 hcz11_0 hcz11_1 hfz11_0 hfz11_1 w12 gb294 w13 GW294 GE294 NB288_294 NB294_288 Ao14 co14 hnb15 hnc15 hcz16_0 hcz16_1 hfz16_0 hfz16_1 hcz17_0 hcz17_1 hfz17_0 hfz17_1 w18 gb300 w19 zz0_2 GW300 GE300 zz0_3 NB288_300 NB300_288 zz0_4 NB294_300 NB300_294 zz0_5 Ao20 co20 HO284 HO291 HO297 hnb21 hnc21 hnb22 hnc22 hcz23_0 hcz23_1 hfz23_0 hfz23_1 zls2_00_0 zls2_00_1 zls2_00_2 zls2_00_3 zls2_00_4 zls2_00_5 zls2_00_6 zls2_00_7 zls2_00_8 zls2_00_9 zls2_00_10 zls2_00_11 zls2_00_12 zls2_00_13 zls2_00_14 zls2_00_15 zls2_00_16 zls2_00_17 zls2_00_18 zls2_00_19 zls2_00_20 zls2_00_21 zls2_00_22 zls2_00_23 zls2_00_24 zls2_00_25 zls2_00_26 zls2_00_27 zls2_00_28 zls2_00_29 zls2_00_30 zls2_00_31 zls2_00_32 zls2_00_33 zls2_00_34 zls2_00_35 zls2_00_36 zls2_00_37 zls2_00_38 zls2_00_39 zls2_00_40 zls2_00_41 zls2_00_42 zls2_00_43 zls2_00_44 zls2_00_45 zls2_00_46 zls2_00_47 zls2_00_48 zls2_00_49 zls2_00_50 zls2_00_51 zls2_00_52 zls2_00_53 zls2_00_54 zls2_00_55 zls2_00_56 zls2_00_57 zls2_00_58 zls2_00_59 zls2_00_60 zls2_00_61 zls2_00_62 zls2_00_63 zls2_00_64 zls2_00_65 zls2_00_66 zls2_00_67 zls2_00_68 zls2_00_69 zls2_00_70 zls2_00_71 zls2_00_72 zls2_00_73 zls2_00_74 zls2_00_75 zls2_00_76 zls2_00_77 zls2_00_78 zls2_00_79 zls2_00_80 zls2_00_81 zls2_00_82 zls2_00_83 zls2_00_84 zls2_00_85 zls2_00_86 zls2_00_87 zls2_00_88 zls2_00_89 zls2_00_90 zls2_00_91 zls2_00_92 zls2_00_93 zls2_00_94 zls2_00_95 zls2_00_96 zls2_00_97 zls2_00_98 zls2_00_99 zls2_00_100 zls2_00_101 zls2_00_102 zls2_00_103 zls2_00_104 zls2_00_105 zls2_00_106 zls2_00_107 zls2_00_108 zls2_00_109 zls2_00_110 zls2_00_111 zls2_00_112 zls2_00_113 zls2_00_114 zls2_00_115 zls2_00_116 zls2_00_117 zls2_00_118 zls2_00_119 zls2_00_120 zls2_00_121 zls2_00_122 zls2_00_123 zls2_00_124 zls2_00_125 zls2_00_126 zls2_00_127 zls2_00_128 zls2_00_129 zls2_00_130 zls2_00_131 zls2_00_132 zls2_00_133 zls2_00_134 zls2_00_135 zls2_00_136 zls2_00_137 zls2_00_138 zls2_00_139 zls2_00_140 zls2_00_141 zls2_00_142 zls2_00_143 zls2_00_144 zls2_00_145 zls2_00_146 zls2_00_147 zls2_00_148 zls2_00_149 zls2_00_150 zls2_00_151 zls2_00_152 zls2_00_153 zls2_00_154 zls2_00_155 zls2_00_156 zls2_00_157 zls2_00_158 zls2_00_159 zls2_00_160 zls2_00_161 zls2_00_162 zls2_00_163 zls2_00_164 zls2_00_165 zls2_00_166 zls2_00_167 zls2_00_168 zls2_00_169 zls2_00_170 zls2_00_171 zls2_00_172 zls2_00_173 zls2_00_174 zls2_00_175 zls2_00_176 zls2_00_177 zls2_00_178 zls2_00_179 zls2_00_180 zls2_00_181 zls2_00_182 zls2_00_183 zls2_00_184 zls2_00_185 zls2_00_186 zls2_00_187 zls2_00_188 zls2_00_189 zls2_00_190 zls2_00_191 zls2_00_192 zls2_00_193 zls2_00_194 zls2_00_195 zls2_00_196 kj6 HJ6 zls2_00_197 zls2_00_198 wc u4 u12 u13 u14 u15 u16 u17 u18 u19 u20 u21 u22 u23 u35 u36 u37 u38 u39 u40 u41 u42 u43 u44 u45 u46 u47 u48 u49 u50 u51 u52 u53 u54 u55 u56 u57 u58 u59 u60 u61 u62 u63 u64 u65 u66 u67 u68 u69 u70 u71 u72 u73 u74 u75 u76 u77 u78 u79 u80 u81 u82 u83 u84 u85 u86 u87 u88 u89 u90 u91 u92 u93 u94 u95 u96 u97 u98 u99 u100 u101 u102 u103 u104 u105 u106 u107 u108 u109 u110 u111 u112 u113 u114 u115 u116 u117 u118 u119 u120 u121 u122 u123 u124 u125 u126 u127 u128 u129 u130 u131 u132 u133 u134 u135 u136 u137 u138 u139 u140 u141 u142 u143 u144 u145 u146 u147 u148 u149 u150 u151 u152 u153 u154 u155 u156 u157 u158 u159 u160 u161 u162 u163 u164 u168 u169 u170 u171 u172 u173 u174 u175 u176 u177 u178 u179 u180 u181 u182 u183 u184 u185 u186 u187 u188 u189 u190 u191 u192 u193 u194 u195 u196 u197 u201 u202 u203 u204 u205 u206 u207 u208 u209 u210 u211 u212 u213 u214 u215 u216 u217 u218 u219 u220 u221 u222 u223 u224 u225 u226 u227 u228 u229 kq HA HJ39 HO_289000 HO_295000 HO_301000 BK288 BK294 BK300 HB
 cases kq with
 | zero => exact absurd HA.out (by simp [laws_FnSketch.j2])
 | succ kj39 =>
  have H := HA.out
  clear HA
  simp only [laws_FnSketch.j2] at H
  replace H := Option.bind_eq_some_iff.mp H
  obtain ⟨⟨t320, t323⟩, A1190, H⟩ := H
  replace H : (if 4 ≤ 35184372088832 then (laws_FnSketch.l0 kj39 (List.replicate 4 0) l1 (l1.length : Int) 0 t320 t323) else (none)) = some r := H
  have A119 := Aside0.mk A1190
  clear A1190
  by_cases c120 : 4 ≤ 35184372088832
  ·rw [if_pos c120] at H
   have c120b0 := eq_true c120
   have c120b1 : decide (4 ≤ 35184372088832) = true := decide_eq_true c120
   clear c120
   obtain ⟨y325, hy325⟩ : ∃ y_ : List Int, y_ = (List.replicate 4 0) := ⟨_, rfl⟩
   replace H : (laws_FnSketch.l0 kj39 y325 l1 (l1.length : Int) 0 t320 t323) = some r := by first | (rw [hy325]; with_reducible exact H) | (have H2_ := (Option.bind_some _ _).symm.trans H; rw [hy325]; with_reducible exact H2_) | (have H2_ := (Option.bind_some _ _).symm.trans H; with_reducible exact H2_) | with_reducible exact H | (rw [hy325]; exact H) | exact H
   have Ny325 := Aside0.mk hy325
   clear hy325
   have HC121 := Aside0.mk H
   clear H
   go_upto_block 0 with (first | ((with_reducible refine gate_callee (f := 14) rfl ?_); refine xgl_ (some 163) Try.func14 #[] ?_; (with_reducible refine (impl_NewSketch.calls  t320 t323 _ A119.out).mono ?_); rintro e w122 ⟨v321, rfl, ho0, hb⟩; refine ⟨_, rfl, ?_⟩; have HO322 := Aside0.mk (Kd.R_lower (Kd.R_new' (Kd.R_new' (Kd.R_new' ho0 (Kd.Q_lt (xq_ HO_289000))) (Kd.Q_lt (xq_ HO_295000))) (Kd.Q_lt (xq_ HO_301000))) (below_size (xw_ HB))); replace HO_289000 := xqe_ HO_289000 (Kd.R_base ho0) hb; replace HO_295000 := xqe_ HO_295000 (Kd.R_base ho0) hb; replace HO_301000 := xqe_ HO_301000 (Kd.R_base ho0) hb; replace BK288 := xbb_ BK288 hb; replace BK294 := xbb_ BK294 hb; replace BK300 := xbb_ BK300 hb; replace HB := xws_ HB hb; (try clear hb); (try clear hb2); (try clear hk); (try clear hi); (try clear ho0)) | ((with_reducible refine gate_dst (N := 24) rfl ?_); refine xbe_ (N := 24) (cs := #[.slice none 0 0, .int .i64 0]) (t := 25) ?_; intro gb324 hg w123 hbox hb; replace HO_289000 := xqb_ HO_289000 hb; replace HO_295000 := xqb_ HO_295000 hb; replace HO_301000 := xqb_ HO_301000 hb; replace HO322 := xrb_ HO322 hb; have BK324 := Aside0.mk (hbox); have GW324 := xge_ HB hg; have GE324 := xge_ HB hg; replace HB := xws_ HB hb; have NB288_324 := xlt_ BK288 hg; have NB324_288 := xgt_ BK288 hg; replace BK288 := xbb_ BK288 hb; have NB294_324 := xlt_ BK294 hg; have NB324_294 := xgt_ BK294 hg; replace BK294 := xbb_ BK294 hb; have NB300_324 := xlt_ BK300 hg; have NB324_300 := xgt_ BK300 hg; replace BK300 := xbb_ BK300 hb; clear hb hbox hg; obtain ⟨Ao124, co124, eo124⟩ := Kd.R_slice HO322.out; subst eo124; have hnb125 := NB324_288.out; have hnc125 := NB288_324.out; have hnb126 := NB324_294.out; have hnc126 := NB294_324.out; have hnb127 := NB324_300.out; have hnc127 := NB300_324.out; have hcz128_0 : w123.cell? ⟨gb324, 0, none⟩ = some (.slice none 0 0) := xk_ BK324 0; have hcz128_1 : w123.cell? ⟨gb324, 1, none⟩ = some (.int .i64 0) := xk_ BK324 1; have hfz128_0 := blk_frozen BK324.out 0; have hfz128_1 := blk_frozen BK324.out 1) | ((with_reducible refine gate_dst (N := 164) rfl ?_); refine Kd.R_make (Kd.int .i64) _ 3 rfl (N := 164) rfl 23 _ _ rfl 4 rfl rfl Try.underlying23 (.int .i64 0) 8 info3 rfl (by decide) (by omega) 0 (ok := fun _ => True) (okp := fun _ => True) rfl (fun _ hk => hk) trivial (by omega) (by omega) (Below.refl _ _) (Nat.le_refl _) ?_; intro v326 w129 ho130 hb hg_ hnew_; clear hg_ hnew_; (first | rw [← Ny325.out] at ho130 | (simp only [Int.reduceToNat] at ho130; rw [← Ny325.out] at ho130)); have HO327 := Aside0.mk (Kd.R_lower (Kd.R_new' (Kd.R_new' (Kd.R_new' (Kd.R_new' ho130 (Kd.Q_lt (xqt_ ((Kd.Q_mono (Kd.Q_far (p := ⟨gb324, 1, none⟩) (Kd.Q_far (p := ⟨gb324, 0, none⟩) (Kd.Q_types HO_289000.out BK324.out (by decide)) (fun _ hk => hk.2) (.slice Ao124 t320.length co124)) (fun _ hk => hk.2) (.int .i64 t323)) (fun _ h_ => h_.1)))))) (Kd.Q_lt (xqt_ ((Kd.Q_mono (Kd.Q_far (p := ⟨gb324, 1, none⟩) (Kd.Q_far (p := ⟨gb324, 0, none⟩) (Kd.Q_types HO_295000.out BK324.out (by decide)) (fun _ hk => hk.2) (.slice Ao124 t320.length co124)) (fun _ hk => hk.2) (.int .i64 t323)) (fun _ h_ => h_.1)))))) (Kd.Q_lt (xqt_ ((Kd.Q_mono (Kd.Q_far (p := ⟨gb324, 1, none⟩) (Kd.Q_far (p := ⟨gb324, 0, none⟩) (Kd.Q_types HO_301000.out BK324.out (by decide)) (fun _ hk => hk.2) (.slice Ao124 t320.length co124)) (fun _ hk => hk.2) (.int .i64 t323)) (fun _ h_ => h_.1)))))) (Kd.R_lt (xrt_ ((Kd.R_mono (Kd.R_far (p := ⟨gb324, 1, none⟩) (Kd.R_far (p := ⟨gb324, 0, none⟩) (Kd.R_types HO322.out BK324.out (by decide)) (fun _ hk => hk.2) (.slice Ao124 t320.length co124)) (fun _ hk => hk.2) (.int .i64 t323)) (fun _ h_ => h_.1)))))) (below_size (xw_ HB))); replace HO_289000 := Aside0.mk (Kd.Q_elder' (xqt_ ((Kd.Q_mono (Kd.Q_far (p := ⟨gb324, 1, none⟩) (Kd.Q_far (p := ⟨gb324, 0, none⟩) (Kd.Q_types HO_289000.out BK324.out (by decide)) (fun _ hk => hk.2) (.slice Ao124 t320.length co124)) (fun _ hk => hk.2) (.int .i64 t323)) (fun _ h_ => h_.1)))) (Kd.R_base ho130) hb); replace HO_295000 := Aside0.mk (Kd.Q_elder' (xqt_ ((Kd.Q_mono (Kd.Q_far (p := ⟨gb324, 1, none⟩) (Kd.Q_far (p := ⟨gb324, 0, none⟩) (Kd.Q_types HO_295000.out BK324.out (by decide)) (fun _ hk => hk.2) (.slice Ao124 t320.length co124)) (fun _ hk => hk.2) (.int .i64 t323)) (fun _ h_ => h_.1)))) (Kd.R_base ho130) hb); replace HO_301000 := Aside0.mk (Kd.Q_elder' (xqt_ ((Kd.Q_mono (Kd.Q_far (p := ⟨gb324, 1, none⟩) (Kd.Q_far (p := ⟨gb324, 0, none⟩) (Kd.Q_types HO_301000.out BK324.out (by decide)) (fun _ hk => hk.2) (.slice Ao124 t320.length co124)) (fun _ hk => hk.2) (.int .i64 t323)) (fun _ h_ => h_.1)))) (Kd.R_base ho130) hb); replace HO322 := Aside0.mk (Kd.R_elder' (xrt_ ((Kd.R_mono (Kd.R_far (p := ⟨gb324, 1, none⟩) (Kd.R_far (p := ⟨gb324, 0, none⟩) (Kd.R_types HO322.out BK324.out (by decide)) (fun _ hk => hk.2) (.slice Ao124 t320.length co124)) (fun _ hk => hk.2) (.int .i64 t323)) (fun _ h_ => h_.1)))) (Kd.R_base ho130) hb); replace BK288 := Aside0.mk (blk_below (g := gb288) (o := .cells #[.slice Ao10 t282.length co10, .int .i64 t285] 25 (0, 0)) (by (with_reducible repeat (first | refine blk_drewN ?_ _ | refine blk_drew ?_ | refine blk_alloc ?_ _)); refine blk_far ?_ NB288_324.out _; (with_reducible repeat (first | refine blk_drewN ?_ _ | refine blk_drew ?_ | refine blk_alloc ?_ _)); refine blk_far ?_ NB288_324.out _; (with_reducible repeat (first | refine blk_drewN ?_ _ | refine blk_drew ?_ | refine blk_alloc ?_ _)); exact BK288.out) hb); replace BK294 := Aside0.mk (blk_below (g := gb294) (o := .cells #[.slice Ao14 t289.length co14, .int .i64 t292] 25 (0, 0)) (by (with_reducible repeat (first | refine blk_drewN ?_ _ | refine blk_drew ?_ | refine blk_alloc ?_ _)); refine blk_far ?_ NB294_324.out _; (with_reducible repeat (first | refine blk_drewN ?_ _ | refine blk_drew ?_ | refine blk_alloc ?_ _)); refine blk_far ?_ NB294_324.out _; (with_reducible repeat (first | refine blk_drewN ?_ _ | refine blk_drew ?_ | refine blk_alloc ?_ _)); exact BK294.out) hb); replace BK300 := Aside0.mk (blk_below (g := gb300) (o := .cells #[.slice Ao20 t295.length co20, .int .i64 t298] 25 (0, 0)) (by (with_reducible repeat (first | refine blk_drewN ?_ _ | refine blk_drew ?_ | refine blk_alloc ?_ _)); refine blk_far ?_ NB300_324.out _; (with_reducible repeat (first | refine blk_drewN ?_ _ | refine blk_drew ?_ | refine blk_alloc ?_ _)); refine blk_far ?_ NB300_324.out _; (with_reducible repeat (first | refine blk_drewN ?_ _ | refine blk_drew ?_ | refine blk_alloc ?_ _)); exact BK300.out) hb); replace BK324 := Aside0.mk (blk_below (g := gb324) (o := .cells #[.slice Ao124 t320.length co124, .int .i64 t323] 25 (0, 0)) (by (with_reducible repeat (first | refine blk_drewN ?_ _ | refine blk_drew ?_ | refine blk_alloc ?_ _)); refine blk_put (cs := #[.slice Ao124 t320.length co124, .int .i64 0]) ?_ 1 _ rfl; (with_reducible repeat (first | refine blk_drewN ?_ _ | refine blk_drew ?_ | refine blk_alloc ?_ _)); refine blk_put (cs := #[.slice none 0 0, .int .i64 0]) ?_ 0 _ rfl; (with_reducible repeat (first | refine blk_drewN ?_ _ | refine blk_drew ?_ | refine blk_alloc ?_ _)); exact BK324.out) hb); replace HB := xws_ HB hb; clear hb ho130))
   (try simp only [Act.put, List.setIfInBounds_toArray, List.set_cons_zero, List.set_cons_succ])
   go_cut [] (fun wc => ∃ (kq : Nat) (x25_120 : List Int) (x325000_120 : List Int) (x325001_120 : Int) (u325000 : Value), Aside0 (laws_FnSketch.j4 kq x25_120 x325000_120 x325001_120 = some r) ∧ Aside0 (kq ≤ kj39) ∧ Aside0 (Kd.R (Kd.int .i64) 3 wc w.heap.size (fun k_ => some k_ ≠ ((.slice Ao10 t282.length co10) : Value).ownBlock ∧ some k_ ≠ ((.slice Ao14 t289.length co14) : Value).ownBlock ∧ some k_ ≠ ((.slice Ao20 t295.length co20) : Value).ownBlock ∧ some k_ ≠ (u325000 : Value).ownBlock) v326 x25_120) ∧ Aside0 (Kd.Q (Kd.int .i64) 3 wc w.heap.size (fun k_ => some k_ ≠ (v326 : Value).ownBlock ∧ some k_ ≠ ((.slice Ao14 t289.length co14) : Value).ownBlock ∧ some k_ ≠ ((.slice Ao20 t295.length co20) : Value).ownBlock ∧ some k_ ≠ (u325000 : Value).ownBlock) (.slice Ao10 t282.length co10) t282) ∧ Aside0 (Kd.Q (Kd.int .i64) 3 wc w.heap.size (fun k_ => some k_ ≠ (v326 : Value).ownBlock ∧ some k_ ≠ ((.slice Ao10 t282.length co10) : Value).ownBlock ∧ some k_ ≠ ((.slice Ao20 t295.length co20) : Value).ownBlock ∧ some k_ ≠ (u325000 : Value).ownBlock) (.slice Ao14 t289.length co14) t289) ∧ Aside0 (Kd.Q (Kd.int .i64) 3 wc w.heap.size (fun k_ => some k_ ≠ (v326 : Value).ownBlock ∧ some k_ ≠ ((.slice Ao10 t282.length co10) : Value).ownBlock ∧ some k_ ≠ ((.slice Ao14 t289.length co14) : Value).ownBlock ∧ some k_ ≠ (u325000 : Value).ownBlock) (.slice Ao20 t295.length co20) t295) ∧ Aside0 (Kd.Q (Kd.int .i64) 3 wc w.heap.size (fun k_ => some k_ ≠ (v326 : Value).ownBlock ∧ some k_ ≠ ((.slice Ao10 t282.length co10) : Value).ownBlock ∧ some k_ ≠ ((.slice Ao14 t289.length co14) : Value).ownBlock ∧ some k_ ≠ ((.slice Ao20 t295.length co20) : Value).ownBlock) u325000 x325000_120) ∧ Aside0 (wc.heap[gb288]? = some (.cells #[(.slice Ao10 t282.length co10), .int .i64 t285] 25 (0, 0))) ∧ Aside0 (wc.heap[gb294]? = some (.cells #[(.slice Ao14 t289.length co14), .int .i64 t292] 25 (0, 0))) ∧ Aside0 (wc.heap[gb300]? = some (.cells #[(.slice Ao20 t295.length co20), .int .i64 t298] 25 (0, 0))) ∧ Aside0 (wc.heap[gb324]? = some (.cells #[u325000, .int .i64 x325001_120] 25 (0, 0))) ∧ Aside0 (Below w.heap.size w wc))
   case first =>
    have H := HC121.out
    clear HC121
    have H' := Aside0.mk H
    clear H
    go_wp2
    go_loopg [167] kj39 (fun kq v167 w' => ∃ (x25_3 : List Int) (x167_3 : Int) (x325000_3 : List Int) (x325001_3 : Int) (u325000 : Value), v167 = .int .i64 x167_3 ∧ Aside0 (laws_FnSketch.l0 kq x25_3 l1 (l1.length : Int) x167_3 x325000_3 x325001_3 = some r) ∧ Aside0 (kq ≤ kj39) ∧ Aside0 (Kd.R (Kd.int .i64) 3 w' w.heap.size (fun k_ => some k_ ≠ ((.slice Ao10 t282.length co10) : Value).ownBlock ∧ some k_ ≠ ((.slice Ao14 t289.length co14) : Value).ownBlock ∧ some k_ ≠ ((.slice Ao20 t295.length co20) : Value).ownBlock ∧ some k_ ≠ (u325000 : Value).ownBlock) v326 x25_3) ∧ Aside0 (Kd.Q (Kd.int .i64) 3 w' w.heap.size (fun k_ => some k_ ≠ (v326 : Value).ownBlock ∧ some k_ ≠ ((.slice Ao14 t289.length co14) : Value).ownBlock ∧ some k_ ≠ ((.slice Ao20 t295.length co20) : Value).ownBlock ∧ some k_ ≠ (u325000 : Value).ownBlock) (.slice Ao10 t282.length co10) t282) ∧ Aside0 (Kd.Q (Kd.int .i64) 3 w' w.heap.size (fun k_ => some k_ ≠ (v326 : Value).ownBlock ∧ some k_ ≠ ((.slice Ao10 t282.length co10) : Value).ownBlock ∧ some k_ ≠ ((.slice Ao20 t295.length co20) : Value).ownBlock ∧ some k_ ≠ (u325000 : Value).ownBlock) (.slice Ao14 t289.length co14) t289) ∧ Aside0 (Kd.Q (Kd.int .i64) 3 w' w.heap.size (fun k_ => some k_ ≠ (v326 : Value).ownBlock ∧ some k_ ≠ ((.slice Ao10 t282.length co10) : Value).ownBlock ∧ some k_ ≠ ((.slice Ao14 t289.length co14) : Value).ownBlock ∧ some k_ ≠ (u325000 : Value).ownBlock) (.slice Ao20 t295.length co20) t295) ∧ Aside0 (Kd.Q (Kd.int .i64) 3 w' w.heap.size (fun k_ => some k_ ≠ (v326 : Value).ownBlock ∧ some k_ ≠ ((.slice Ao10 t282.length co10) : Value).ownBlock ∧ some k_ ≠ ((.slice Ao14 t289.length co14) : Value).ownBlock ∧ some k_ ≠ ((.slice Ao20 t295.length co20) : Value).ownBlock) u325000 x325000_3) ∧ Aside0 (w'.heap[gb288]? = some (.cells #[(.slice Ao10 t282.length co10), .int .i64 t285] 25 (0, 0))) ∧ Aside0 (w'.heap[gb294]? = some (.cells #[(.slice Ao14 t289.length co14), .int .i64 t292] 25 (0, 0))) ∧ Aside0 (w'.heap[gb300]? = some (.cells #[(.slice Ao20 t295.length co20), .int .i64 t298] 25 (0, 0))) ∧ Aside0 (w'.heap[gb324]? = some (.cells #[u325000, .int .i64 x325001_3] 25 (0, 0))) ∧ Aside0 (Below w.heap.size w w'))
    case atStart => exact ⟨(y325), (0), (t320), (t323), (.slice Ao124 t320.length co124), (by first | rfl | (simp; done) | (simp [*]; done)), H', ⟨Nat.le_refl _⟩, ⟨xrt_ (Kd.R_mono HO327.out (fun _ hk => ⟨hk.1.1.1.2, ⟨hk.1.1.2, ⟨hk.1.2, hk.2⟩⟩⟩))⟩, ⟨xqt_ (Kd.Q_mono HO_289000.out (fun _ hk => ⟨hk.2, ⟨hk.1.1.1, ⟨hk.1.1.2, hk.1.2⟩⟩⟩))⟩, ⟨xqt_ (Kd.Q_mono HO_295000.out (fun _ hk => ⟨hk.2, ⟨hk.1.1.1, ⟨hk.1.1.2, hk.1.2⟩⟩⟩))⟩, ⟨xqt_ (Kd.Q_mono HO_301000.out (fun _ hk => ⟨hk.2, ⟨hk.1.1.1, ⟨hk.1.1.2, hk.1.2⟩⟩⟩))⟩, ⟨Kd.Q_of_R (xrt_ (Kd.R_mono HO322.out (fun _ hk => ⟨hk.2, ⟨hk.1.1.1.2, ⟨hk.1.1.2, hk.1.2⟩⟩⟩)))⟩, ⟨xb_ BK288⟩, ⟨xb_ BK294⟩, ⟨xb_ BK300⟩, ⟨xb_ BK324⟩, ⟨xw_ HB⟩⟩
    case round =>
     clear H'
     try clear c1
     try clear c2
     try clear p2
     try clear c3
     try clear c4
     try clear c5
     try clear c6
     try clear p6
     try clear c7
     try clear c8
     try clear c9
     try clear c10
     try clear c11
     try clear c12
     try clear c13
     try clear c14
     try clear c24
     try clear c24b0
     try clear c24b1
     try clear c24b2
     try clear c28
     try clear c39
     try clear c41
     try clear c48
     try clear c49
     try clear c52
     try clear c58
     try clear c59
     try clear c60
     try clear p64
     try clear c66
     try clear c67
     try clear c68
     try clear c68b0
     try clear c68b1
     try clear c69
     try clear c69b0
     try clear c70
     try clear c71
     try clear c72
     try clear c74
     try clear c74b0
     try clear c74b1
     try clear c74b2
     try clear c75
     try clear c76
     try clear c77
     try clear c79
     try clear c79b0
     try clear c80
     try clear c81
     try clear c82
     try clear c84
     try clear c85
     try clear c86
     try clear c88
     try clear c90
     try clear c90b0
     try clear c90b1
     try clear c90b2
     try clear c91
     try clear c92
     try clear c93
     try clear c96
     try clear c97
     try clear c97b0
     try clear c97b1
     try clear c97b2
     try clear c98
     try clear c99
     try clear c100
     try clear c103
     try clear c104
     try clear c105
     try clear c108
     try clear c108b0
     try clear c108b1
     try clear c108b2
     try clear c109
     try clear c110
     try clear c111
     try clear c114
     try clear c115
     try clear c116
     try clear c120
     try clear c120b0
     try clear c120b1
     try clear c125
     try clear c126
     try clear c127
     try clear hcz101_0
     try clear hcz101_1
     try clear hcz106_0
     try clear hcz106_1
     try clear hcz112_0
     try clear hcz112_1
     try clear hcz117_0
     try clear hcz117_1
     try clear hcz128_0
     try clear hcz128_1
     try clear hcz50_0
     try clear hcz50_1
     try clear hcz53_0
     try clear hcz53_1
     try clear hcz61_0
     try clear hcz61_1
     try clear hcz62_0
     try clear hcz62_1
     try clear hcz64_0
     try clear hcz64_1
     try clear hcz73_0
     try clear hcz73_1
     try clear hcz78_0
     try clear hcz78_1
     try clear hcz83_0
     try clear hcz83_1
     try clear hcz87_0
     try clear hcz87_1
     try clear hcz94_0
     try clear hcz94_1
     try clear hfz101_0
     try clear hfz101_1
     try clear hfz106_0
     try clear hfz106_1
     try clear hfz112_0
     try clear hfz112_1
     try clear hfz117_0
     try clear hfz117_1
     try clear hfz128_0
     try clear hfz128_1
     try clear hfz50_0
     try clear hfz50_1
     try clear hfz53_0
     try clear hfz53_1
     try clear hfz61_0
     try clear hfz61_1
     try clear hfz62_0
     try clear hfz62_1
     try clear hfz64_0
     try clear hfz64_1
     try clear hfz73_0
     try clear hfz73_1
     try clear hfz78_0
     try clear hfz78_1
     try clear hfz83_0
     try clear hfz83_1
     try clear hfz87_0
     try clear hfz87_1
     try clear hfz94_0
     try clear hfz94_1
     try clear p2
     try clear p6
     try clear p64
     obtain ⟨x25_3, x167_3, x325000_3, x325001_3, u325000, rfl, HA, HK3, HO_25, HO_289000, HO_295000, HO_301000, HO_325000, BK288, BK294, BK300, BK324, HB⟩ := hrel
     cases gk with
     | zero => exact absurd HA.out (by simp [laws_FnSketch.l0])
     | succ k3 =>
      have H := HA.out
      clear HA
      simp only [laws_FnSketch.l0] at H
      by_cases c131 : x167_3 < (l1.length : Int)
      ·rw [if_pos c131] at H
       have c131b0 : decide (x167_3 < (l1.length : Int)) = true := decide_eq_true c131
       clear c131
       (first | rw [c131b0] | (simp only [i64_w, i32_w]; rw [c131b0]) | skip)
       by_cases c132 : 0 ≤ x167_3
       ·rw [if_pos c132] at H
        have c132b0 : decide (0 ≤ x167_3) = true := decide_eq_true c132
        clear c132
        by_cases c133 : x167_3 < (l1.length : Int)
        ·rw [if_pos c133] at H
         have c133b0 : decide (x167_3 < (l1.length : Int)) = true := decide_eq_true c133
         clear c133
         by_cases c134 : x167_3 = 60
         ·rw [if_pos c134] at H
          have c134b0 : (x167_3 == 60) = true := beq_iff_eq.mpr c134
          have c134b1 : (x167_3 != 60) = false := bne_eq_false_iff_eq.mpr c134
          clear c134
          have H' := Aside0.mk H
          clear H
          have p328 : 0 ≤ (x167_3 : Int) := of_decide_eq_true (by first | (with_reducible assumption) | assumption)
          have q328 : x167_3 < (l1.length : Int) := of_decide_eq_true (by first | (with_reducible assumption) | assumption)
          obtain ⟨ad328, e328, hx328_0⟩ := Kd.at_int HR1.out x167_3 p328 q328
          cases e328
          replace hx328_0 := (HB.out.cell (World.block_lt_of_cell? w _ hx328_0)).trans hx328_0
          replace p328 := eq_true p328
          replace q328 := eq_true q328
          go_wp2
          go_meet
          case rel => exact ⟨_, (x25_3), (x325000_3), (x325001_3), (u325000), H', ⟨by have := HJ6.out; have := HJ39.out; have := HK3.out; first | omega | exact Nat.le_refl _⟩, ⟨xr_ HO_25⟩, ⟨xq_ HO_289000⟩, ⟨xq_ HO_295000⟩, ⟨xq_ HO_301000⟩, ⟨xq_ HO_325000⟩, ⟨xb_ BK288⟩, ⟨xb_ BK294⟩, ⟨xb_ BK300⟩, ⟨xb_ BK324⟩, ⟨xw_ HB⟩⟩
         ·rw [if_neg c134] at H
          have c134b0 : (x167_3 == 60) = false := beq_eq_false_iff_ne.mpr c134
          have c134b1 : (x167_3 != 60) = true := bne_iff_ne.mpr c134
          obtain ⟨y329, hy329⟩ : ∃ y_ : List Int, y_ = (([(wrap64 (97 + (Int.tmod (wrap64 (rd l1 x167_3)) 4))) % 256] : List Int)) := ⟨_, rfl⟩
          replace H : (if 4 + (strOfNums y329).size ≤ 9223372036854775807 then ((impl_CountIn.f k3 x325000_3 x325001_3 ((⟨#[107, 101, 121, 45]⟩ : ByteArray) ++ (strOfNums y329)) 1).bind fun bt332 => (if bt332.2.2 = true then (if 0 ≤ (Int.tmod (wrap64 (rd l1 x167_3)) 4) then (if (Int.tmod (wrap64 (rd l1 x167_3)) 4) < (x25_3.length : Int) then (laws_FnSketch.l0 k3 (x25_3.set ((Int.tmod (wrap64 (rd l1 x167_3)) 4) : Int).toNat (wrap64 ((rd x25_3 (Int.tmod (wrap64 (rd l1 x167_3)) 4)) + 1))) l1 (l1.length : Int) (wrap64 (x167_3 + 1)) bt332.1 bt332.2.1) else (none)) else (none)) else (some false))) else (none)) = some r := by first | (rw [hy329]; with_reducible exact H) | (have H2_ := (Option.bind_some _ _).symm.trans H; rw [hy329]; with_reducible exact H2_) | (have H2_ := (Option.bind_some _ _).symm.trans H; with_reducible exact H2_) | with_reducible exact H | (rw [hy329]; exact H) | exact H
          have Ny329 := Aside0.mk hy329
          clear hy329
          by_cases c135 : 4 + (strOfNums y329).size ≤ 9223372036854775807
          ·rw [if_pos c135] at H
           have c135b0 := eq_true c135
           have c135b1 : decide (4 + (strOfNums y329).size ≤ 9223372036854775807) = true := decide_eq_true c135
           try have c135b2 : (9223372036854775807 < 4 + (strOfNums y329).size) = False := eq_false (Nat.not_lt.2 c135)
           replace H := Option.bind_eq_some_iff.mp H
           obtain ⟨⟨t332, t335, t336⟩, A1360, H⟩ := H
           replace H : (if t336 = true then (if 0 ≤ (Int.tmod (wrap64 (rd l1 x167_3)) 4) then (if (Int.tmod (wrap64 (rd l1 x167_3)) 4) < (x25_3.length : Int) then (laws_FnSketch.l0 k3 (x25_3.set ((Int.tmod (wrap64 (rd l1 x167_3)) 4) : Int).toNat (wrap64 ((rd x25_3 (Int.tmod (wrap64 (rd l1 x167_3)) 4)) + 1))) l1 (l1.length : Int) (wrap64 (x167_3 + 1)) t332 t335) else (none)) else (none)) else (some false)) = some r := H
           have A136 := Aside0.mk A1360
           clear A1360
           by_cases c137 : t336 = true
           ·subst c137
            have H1 : (if 0 ≤ (Int.tmod (wrap64 (rd l1 x167_3)) 4) then (if (Int.tmod (wrap64 (rd l1 x167_3)) 4) < (x25_3.length : Int) then (laws_FnSketch.l0 k3 (x25_3.set ((Int.tmod (wrap64 (rd l1 x167_3)) 4) : Int).toNat (wrap64 ((rd x25_3 (Int.tmod (wrap64 (rd l1 x167_3)) 4)) + 1))) l1 (l1.length : Int) (wrap64 (x167_3 + 1)) t332 t335) else (none)) else (none)) = some r := by rw [if_pos rfl] at H; exact H
            clear H
            have H := H1
            clear H1
            obtain ⟨ji138, hji138⟩ : ∃ j_ : Int, (Int.tmod (wrap64 (rd l1 x167_3)) 4) = j_ := ⟨_, rfl⟩
            replace H : (if 0 ≤ (ji138) then (if (ji138) < (x25_3.length : Int) then (laws_FnSketch.l0 k3 (x25_3.set ((ji138) : Int).toNat (wrap64 ((rd x25_3 (ji138)) + 1))) l1 (l1.length : Int) (wrap64 (x167_3 + 1)) t332 t335) else (none)) else (none)) = some r := by first | (rw [hji138] at H; exact H) | (simp only [hji138] at H ⊢; exact H)
            (try rw [hji138] at Ny329)
            (try rw [hji138] at Ny329)
            (try rw [hji138] at A136)
            by_cases c139 : 0 ≤ (ji138)
            ·rw [if_pos c139] at H
             have c139b0 : decide (0 ≤ (ji138)) = true := decide_eq_true c139
             clear c139
             by_cases c140 : (ji138) < (x25_3.length : Int)
             ·rw [if_pos c140] at H
              have c140b0 : decide ((ji138) < (x25_3.length : Int)) = true := decide_eq_true c140
              clear c140
              obtain ⟨y339, hy339⟩ : ∃ y_ : List Int, y_ = (x25_3.set ((ji138) : Int).toNat (wrap64 ((rd x25_3 (ji138)) + 1))) := ⟨_, rfl⟩
              replace H : (laws_FnSketch.l0 k3 y339 l1 (l1.length : Int) (wrap64 (x167_3 + 1)) t332 t335) = some r := by first | (rw [hy339]; with_reducible exact H) | (have H2_ := (Option.bind_some _ _).symm.trans H; rw [hy339]; with_reducible exact H2_) | (have H2_ := (Option.bind_some _ _).symm.trans H; with_reducible exact H2_) | with_reducible exact H | (rw [hy339]; exact H) | exact H
              have Ny339 := Aside0.mk hy339
              clear hy339
              have H' := Aside0.mk H
              clear H
              have p328 : 0 ≤ (x167_3 : Int) := of_decide_eq_true (by first | (with_reducible assumption) | assumption)
              have q328 : x167_3 < (l1.length : Int) := of_decide_eq_true (by first | (with_reducible assumption) | assumption)
              obtain ⟨ad328, e328, hx328_0⟩ := Kd.at_int HR1.out x167_3 p328 q328
              cases e328
              replace hx328_0 := (HB.out.cell (World.block_lt_of_cell? w _ hx328_0)).trans hx328_0
              replace p328 := eq_true p328
              replace q328 := eq_true q328
              have hnb142 := NB324_288.out
              have hnc142 := NB288_324.out
              have hnb143 := NB324_294.out
              have hnc143 := NB294_324.out
              have hnb144 := NB324_300.out
              have hnc144 := NB300_324.out
              have hcz145_0 : wr.cell? ⟨gb324, 0, none⟩ = some (u325000) := xk_ BK324 0
              have hcz145_1 : wr.cell? ⟨gb324, 1, none⟩ = some (.int .i64 x325001_3) := xk_ BK324 1
              have hfz145_0 := blk_frozen BK324.out 0
              have hfz145_1 := blk_frozen BK324.out 1
              go_wp2_with (first | ((with_reducible refine gate_dst (N := 182) rfl ?_); refine Kd.R_lit (Kd.int .u8) _ 5 ?hg (N := 182) ?hd (xs := ([(wrap64 (97 + (ji138))) % 256] : List Int)) (inner := [.int .u8 ((wrap64 (97 + (ji138))) % 256)]) (ok := fun _ => True) (okp := fun _ => True) ?hr ?hp (fun _ hk => hk) trivial (Below.refl _ _) (Nat.le_refl _) (by simp) ?_; (case hd => rfl); (case hg => rfl); (case hr => first | (go_simp; done) | (go_simp; rfl)); (case hp => exact (Reps.one (show Kd.M (Kd.int .u8) _ _ _ ((wrap64 (97 + (ji138))) % 256) [.int .u8 ((wrap64 (97 + (ji138))) % 256)] from rfl) (Reps.none _ _))); intro v330 w146 ho147 hb hg_ hnew_; clear hg_ hnew_; (first | rw [← Ny329.out] at ho147 | (simp only [Int.reduceToNat] at ho147; rw [← Ny329.out] at ho147)); replace HO_25 := xrb_ HO_25 hb; replace HO_289000 := xqb_ HO_289000 hb; replace HO_295000 := xqb_ HO_295000 hb; replace HO_301000 := xqb_ HO_301000 hb; replace HO_325000 := xqb_ HO_325000 hb; have HO331 := Aside0.mk (Kd.R_lower ho147 (below_size (xw_ HB))); replace BK288 := xbb_ BK288 hb; replace BK294 := xbb_ BK294 hb; replace BK300 := xbb_ BK300 hb; replace BK324 := xbb_ BK324 hb; replace HB := xws_ HB hb; clear hb ho147; have hcv148 := own_string (P := Try.prog) Try.underlying22 Try.underlying5 Try.underlying9 (Kd.own_of_R HO331.out); obtain ⟨Ao149, co149, eo149, _⟩ := Kd.Q_slice HO_325000.out; subst eo149) | ((with_reducible refine gate_callee (f := 6) rfl ?_); refine xgl_ (some 185) Try.func6 #[.agg #[.slice Ao149 x325000_3.length co149, .int .i64 x325001_3], .string ((⟨#[107, 101, 121, 45]⟩ : ByteArray) ++ (strOfNums y329)), .int .i64 1] ?_; (with_reducible refine (impl_CountIn.calls k3 _ _ x325000_3 x325001_3 ((⟨#[107, 101, 121, 45]⟩ : ByteArray) ++ (strOfNums y329)) 1 t332 t335 true _ ?side1 ?side2 A136.out).mono ?_); (case side1 => exact xc_ ((Kd.Q_reads' HO_325000.out).2.2)); (case side2 => exact (Kd.Q_reads' HO_325000.out).2.1); rintro e w150 ⟨v333, rfl, ho0, hb⟩; refine ⟨_, rfl, ?_⟩; replace HO331 := xrb_ HO331 hb; have HO334 := Aside0.mk (Kd.R_lower (Kd.R_new' (Kd.R_new' (Kd.R_new' (Kd.R_new' (Kd.R_new' ho0 (Kd.R_lt (xr_ HO_25))) (Kd.Q_lt (xq_ HO_289000))) (Kd.Q_lt (xq_ HO_295000))) (Kd.Q_lt (xq_ HO_301000))) (Kd.Q_lt (xq_ HO_325000))) (below_size (xw_ HB))); replace HO_25 := xre_ HO_25 ho0 hb; replace HO_289000 := xqe_ HO_289000 (Kd.R_base ho0) hb; replace HO_295000 := xqe_ HO_295000 (Kd.R_base ho0) hb; replace HO_301000 := xqe_ HO_301000 (Kd.R_base ho0) hb; replace HO_325000 := xqe_ HO_325000 (Kd.R_base ho0) hb; replace BK288 := xbb_ BK288 hb; replace BK294 := xbb_ BK294 hb; replace BK300 := xbb_ BK300 hb; replace BK324 := xbb_ BK324 hb; replace HB := xws_ HB hb; (try clear hb); (try clear hb2); (try clear hk); (try clear hi); (try clear ho0)) | ((with_reducible refine gate_dst (N := 29) rfl ?_); refine xbe_ (N := 29) (cs := #[.slice none 0 0, .int .i64 0]) (t := 25) ?_; intro gb337 hg w151 hbox hb; replace HO_25 := xrb_ HO_25 hb; replace HO_289000 := xqb_ HO_289000 hb; replace HO_295000 := xqb_ HO_295000 hb; replace HO_301000 := xqb_ HO_301000 hb; replace HO_325000 := xqb_ HO_325000 hb; replace HO331 := xrb_ HO331 hb; replace HO334 := xrb_ HO334 hb; have BK337 := Aside0.mk (hbox); have GW337 := xge_ HB hg; have GE337 := xge_ HB hg; replace HB := xws_ HB hb; have NB288_337 := xlt_ BK288 hg; have NB337_288 := xgt_ BK288 hg; replace BK288 := xbb_ BK288 hb; have NB294_337 := xlt_ BK294 hg; have NB337_294 := xgt_ BK294 hg; replace BK294 := xbb_ BK294 hb; have NB300_337 := xlt_ BK300 hg; have NB337_300 := xgt_ BK300 hg; replace BK300 := xbb_ BK300 hb; have NB324_337 := xlt_ BK324 hg; have NB337_324 := xgt_ BK324 hg; replace BK324 := xbb_ BK324 hb; clear hb hbox hg; obtain ⟨Ao152, co152, eo152⟩ := Kd.R_slice HO334.out; subst eo152; have hnb153 := NB337_288.out; have hnc153 := NB288_337.out; have hnb154 := NB337_294.out; have hnc154 := NB294_337.out; have hnb155 := NB337_300.out; have hnc155 := NB300_337.out; have hnb156 := NB337_324.out; have hnc156 := NB324_337.out; have hcz157_0 : w151.cell? ⟨gb337, 0, none⟩ = some (.slice none 0 0) := xk_ BK337 0; have hcz157_1 : w151.cell? ⟨gb337, 1, none⟩ = some (.int .i64 0) := xk_ BK337 1; have hfz157_0 := blk_frozen BK337.out 0; have hfz157_1 := blk_frozen BK337.out 1) | ((with_reducible refine gate_store (t := 25) (p := 29) rfl ?_); refine store_event (t := 25) (p := 29) (v := ?vo_w158) (w1 := ((w151.setCell ⟨gb337, 0, none⟩ (.slice Ao152 t332.length co152)).setCell ⟨gb337, 1, none⟩ (.int .i64 t335))) ?hg ?ho ?hn ?hr ?_; (case ho => rfl); (case hg => rfl); (case hn => rfl); (case hr => first | (go_simp; done) | (go_simp; rfl)); intro w158 hw; replace HO_25 : Aside0 (Kd.R (Kd.int .i64) 3 w158 w.heap.size (fun k_ => some k_ ≠ (.slice Ao10 t282.length co10 : Value).ownBlock ∧ some k_ ≠ (.slice Ao14 t289.length co14 : Value).ownBlock ∧ some k_ ≠ (.slice Ao20 t295.length co20 : Value).ownBlock ∧ some k_ ≠ (.slice Ao149 x325000_3.length co149 : Value).ownBlock ∧ some k_ ≠ (.slice Ao152 t332.length co152 : Value).ownBlock) v326 x25_3) := ⟨(by rw [hw]; exact (xrt_ (Kd.R_mono (Kd.R_far (p := ⟨gb337, 1, none⟩) (Kd.R_far (p := ⟨gb337, 0, none⟩) (Kd.R_types HO_25.out BK337.out (by decide)) (fun _ hk => hk.2) (.slice Ao152 t332.length co152)) (fun _ hk => hk.2) (.int .i64 t335)) (fun _ hk => ⟨hk.1.1.1, ⟨hk.1.1.2.1, ⟨hk.1.1.2.2.1, ⟨hk.1.1.2.2.2, hk.1.2⟩⟩⟩⟩))))⟩; replace HO_289000 : Aside0 (Kd.Q (Kd.int .i64) 3 w158 w.heap.size (fun k_ => some k_ ≠ (v326 : Value).ownBlock ∧ some k_ ≠ (.slice Ao14 t289.length co14 : Value).ownBlock ∧ some k_ ≠ (.slice Ao20 t295.length co20 : Value).ownBlock ∧ some k_ ≠ (.slice Ao149 x325000_3.length co149 : Value).ownBlock ∧ some k_ ≠ (.slice Ao152 t332.length co152 : Value).ownBlock) (.slice Ao10 t282.length co10) t282) := ⟨(by rw [hw]; exact (xqt_ (Kd.Q_mono (Kd.Q_far (p := ⟨gb337, 1, none⟩) (Kd.Q_far (p := ⟨gb337, 0, none⟩) (Kd.Q_types HO_289000.out BK337.out (by decide)) (fun _ hk => hk.2) (.slice Ao152 t332.length co152)) (fun _ hk => hk.2) (.int .i64 t335)) (fun _ hk => ⟨hk.1.1.1, ⟨hk.1.1.2.1, ⟨hk.1.1.2.2.1, ⟨hk.1.1.2.2.2, hk.1.2⟩⟩⟩⟩))))⟩; replace HO_295000 : Aside0 (Kd.Q (Kd.int .i64) 3 w158 w.heap.size (fun k_ => some k_ ≠ (v326 : Value).ownBlock ∧ some k_ ≠ (.slice Ao10 t282.length co10 : Value).ownBlock ∧ some k_ ≠ (.slice Ao20 t295.length co20 : Value).ownBlock ∧ some k_ ≠ (.slice Ao149 x325000_3.length co149 : Value).ownBlock ∧ some k_ ≠ (.slice Ao152 t332.length co152 : Value).ownBlock) (.slice Ao14 t289.length co14) t289) := ⟨(by rw [hw]; exact (xqt_ (Kd.Q_mono (Kd.Q_far (p := ⟨gb337, 1, none⟩) (Kd.Q_far (p := ⟨gb337, 0, none⟩) (Kd.Q_types HO_295000.out BK337.out (by decide)) (fun _ hk => hk.2) (.slice Ao152 t332.length co152)) (fun _ hk => hk.2) (.int .i64 t335)) (fun _ hk => ⟨hk.1.1.1, ⟨hk.1.1.2.1, ⟨hk.1.1.2.2.1, ⟨hk.1.1.2.2.2, hk.1.2⟩⟩⟩⟩))))⟩; replace HO_301000 : Aside0 (Kd.Q (Kd.int .i64) 3 w158 w.heap.size (fun k_ => some k_ ≠ (v326 : Value).ownBlock ∧ some k_ ≠ (.slice Ao10 t282.length co10 : Value).ownBlock ∧ some k_ ≠ (.slice Ao14 t289.length co14 : Value).ownBlock ∧ some k_ ≠ (.slice Ao149 x325000_3.length co149 : Value).ownBlock ∧ some k_ ≠ (.slice Ao152 t332.length co152 : Value).ownBlock) (.slice Ao20 t295.length co20) t295) := ⟨(by rw [hw]; exact (xqt_ (Kd.Q_mono (Kd.Q_far (p := ⟨gb337, 1, none⟩) (Kd.Q_far (p := ⟨gb337, 0, none⟩) (Kd.Q_types HO_301000.out BK337.out (by decide)) (fun _ hk => hk.2) (.slice Ao152 t332.length co152)) (fun _ hk => hk.2) (.int .i64 t335)) (fun _ hk => ⟨hk.1.1.1, ⟨hk.1.1.2.1, ⟨hk.1.1.2.2.1, ⟨hk.1.1.2.2.2, hk.1.2⟩⟩⟩⟩))))⟩; replace HO_325000 : Aside0 (Kd.Q (Kd.int .i64) 3 w158 w.heap.size (fun k_ => some k_ ≠ (v326 : Value).ownBlock ∧ some k_ ≠ (.slice Ao10 t282.length co10 : Value).ownBlock ∧ some k_ ≠ (.slice Ao14 t289.length co14 : Value).ownBlock ∧ some k_ ≠ (.slice Ao20 t295.length co20 : Value).ownBlock ∧ some k_ ≠ (.slice Ao152 t332.length co152 : Value).ownBlock) (.slice Ao149 x325000_3.length co149) x325000_3) := ⟨(by rw [hw]; exact (xqt_ (Kd.Q_mono (Kd.Q_far (p := ⟨gb337, 1, none⟩) (Kd.Q_far (p := ⟨gb337, 0, none⟩) (Kd.Q_types HO_325000.out BK337.out (by decide)) (fun _ hk => hk.2) (.slice Ao152 t332.length co152)) (fun _ hk => hk.2) (.int .i64 t335)) (fun _ hk => ⟨hk.1.1.1, ⟨hk.1.1.2.1, ⟨hk.1.1.2.2.1, ⟨hk.1.1.2.2.2, hk.1.2⟩⟩⟩⟩))))⟩; replace HO331 : Aside0 (Kd.R (Kd.int .u8) 5 w158 w.heap.size (fun _ => True) v330 y329) := ⟨(by rw [hw]; exact (xrt_ (Kd.R_mono (Kd.R_far (p := ⟨gb337, 1, none⟩) (Kd.R_far (p := ⟨gb337, 0, none⟩) (Kd.R_types HO331.out BK337.out (by decide)) (fun _ hk => hk.2) (.slice Ao152 t332.length co152)) (fun _ hk => hk.2) (.int .i64 t335)) (fun _ hk => trivial))))⟩; replace HO334 : Aside0 (Kd.R (Kd.int .i64) 3 w158 w.heap.size (fun k_ => some k_ ≠ (v326 : Value).ownBlock ∧ some k_ ≠ (.slice Ao10 t282.length co10 : Value).ownBlock ∧ some k_ ≠ (.slice Ao14 t289.length co14 : Value).ownBlock ∧ some k_ ≠ (.slice Ao20 t295.length co20 : Value).ownBlock ∧ some k_ ≠ (.slice Ao149 x325000_3.length co149 : Value).ownBlock) (.slice Ao152 t332.length co152) t332) := ⟨(by rw [hw]; exact (xrt_ (Kd.R_mono (Kd.R_far (p := ⟨gb337, 1, none⟩) (Kd.R_far (p := ⟨gb337, 0, none⟩) (Kd.R_types HO334.out BK337.out (by decide)) (fun _ hk => hk.2) (.slice Ao152 t332.length co152)) (fun _ hk => hk.2) (.int .i64 t335)) (fun _ hk => ⟨hk.1.1.1.1.1.2, ⟨hk.1.1.1.1.2, ⟨hk.1.1.1.2, ⟨hk.1.1.2, hk.1.2⟩⟩⟩⟩))))⟩; replace BK288 : Aside0 (w158.heap[gb288]? = some (.cells #[.slice Ao10 t282.length co10, .int .i64 t285] 25 (0, 0))) := ⟨(by rw [hw]; exact (by (with_reducible repeat (first | refine blk_drewN ?_ _ | refine blk_drew ?_ | refine blk_alloc ?_ _)); refine blk_far ?_ NB288_337.out _; (with_reducible repeat (first | refine blk_drewN ?_ _ | refine blk_drew ?_ | refine blk_alloc ?_ _)); refine blk_far ?_ NB288_337.out _; (with_reducible repeat (first | refine blk_drewN ?_ _ | refine blk_drew ?_ | refine blk_alloc ?_ _)); exact BK288.out))⟩; replace BK294 : Aside0 (w158.heap[gb294]? = some (.cells #[.slice Ao14 t289.length co14, .int .i64 t292] 25 (0, 0))) := ⟨(by rw [hw]; exact (by (with_reducible repeat (first | refine blk_drewN ?_ _ | refine blk_drew ?_ | refine blk_alloc ?_ _)); refine blk_far ?_ NB294_337.out _; (with_reducible repeat (first | refine blk_drewN ?_ _ | refine blk_drew ?_ | refine blk_alloc ?_ _)); refine blk_far ?_ NB294_337.out _; (with_reducible repeat (first | refine blk_drewN ?_ _ | refine blk_drew ?_ | refine blk_alloc ?_ _)); exact BK294.out))⟩; replace BK300 : Aside0 (w158.heap[gb300]? = some (.cells #[.slice Ao20 t295.length co20, .int .i64 t298] 25 (0, 0))) := ⟨(by rw [hw]; exact (by (with_reducible repeat (first | refine blk_drewN ?_ _ | refine blk_drew ?_ | refine blk_alloc ?_ _)); refine blk_far ?_ NB300_337.out _; (with_reducible repeat (first | refine blk_drewN ?_ _ | refine blk_drew ?_ | refine blk_alloc ?_ _)); refine blk_far ?_ NB300_337.out _; (with_reducible repeat (first | refine blk_drewN ?_ _ | refine blk_drew ?_ | refine blk_alloc ?_ _)); exact BK300.out))⟩; replace BK324 : Aside0 (w158.heap[gb324]? = some (.cells #[.slice Ao149 x325000_3.length co149, .int .i64 x325001_3] 25 (0, 0))) := ⟨(by rw [hw]; exact (by (with_reducible repeat (first | refine blk_drewN ?_ _ | refine blk_drew ?_ | refine blk_alloc ?_ _)); refine blk_far ?_ NB324_337.out _; (with_reducible repeat (first | refine blk_drewN ?_ _ | refine blk_drew ?_ | refine blk_alloc ?_ _)); refine blk_far ?_ NB324_337.out _; (with_reducible repeat (first | refine blk_drewN ?_ _ | refine blk_drew ?_ | refine blk_alloc ?_ _)); exact BK324.out))⟩; replace BK337 : Aside0 (w158.heap[gb337]? = some (.cells #[.slice Ao152 t332.length co152, .int .i64 t335] 25 (0, 0))) := ⟨(by rw [hw]; exact (by (with_reducible repeat (first | refine blk_drewN ?_ _ | refine blk_drew ?_ | refine blk_alloc ?_ _)); refine blk_put (cs := #[.slice Ao152 t332.length co152, .int .i64 0]) ?_ 1 _ rfl; (with_reducible repeat (first | refine blk_drewN ?_ _ | refine blk_drew ?_ | refine blk_alloc ?_ _)); refine blk_put (cs := #[.slice none 0 0, .int .i64 0]) ?_ 0 _ rfl; (with_reducible repeat (first | refine blk_drewN ?_ _ | refine blk_drew ?_ | refine blk_alloc ?_ _)); exact BK337.out))⟩; replace HB : Aside0 (Below w.heap.size w w158) := ⟨(by rw [hw]; exact (xw_ HB))⟩; clear hw; have hcz159_0 : w158.cell? ⟨gb337, 0, none⟩ = some (.slice Ao152 t332.length co152) := xk_ BK337 0; have hcz159_1 : w158.cell? ⟨gb337, 1, none⟩ = some (.int .i64 t335) := xk_ BK337 1; have hfz159_0 := blk_frozen BK337.out 0; have hfz159_1 := blk_frozen BK337.out 1; have hcz160_0 : w158.cell? ⟨gb324, 0, none⟩ = some (.slice Ao149 x325000_3.length co149) := xk_ BK324 0; have hcz160_1 : w158.cell? ⟨gb324, 1, none⟩ = some (.int .i64 x325001_3) := xk_ BK324 1; have hfz160_0 := blk_frozen BK324.out 0; have hfz160_1 := blk_frozen BK324.out 1) | ((with_reducible refine gate_store (t := 25) (p := 24) rfl ?_); refine store_event (t := 25) (p := 24) (v := ?vo_w161) (w1 := ((w158.setCell ⟨gb324, 0, none⟩ (.slice Ao152 t332.length co152)).setCell ⟨gb324, 1, none⟩ (.int .i64 t335))) ?hg ?ho ?hn ?hr ?_; (case ho => rfl); (case hg => rfl); (case hn => rfl); (case hr => first | (go_simp; done) | (go_simp; rfl)); intro w161 hw; replace HO_25 : Aside0 (Kd.R (Kd.int .i64) 3 w161 w.heap.size (fun k_ => some k_ ≠ (.slice Ao10 t282.length co10 : Value).ownBlock ∧ some k_ ≠ (.slice Ao14 t289.length co14 : Value).ownBlock ∧ some k_ ≠ (.slice Ao20 t295.length co20 : Value).ownBlock ∧ some k_ ≠ (.slice Ao149 x325000_3.length co149 : Value).ownBlock ∧ some k_ ≠ (.slice Ao152 t332.length co152 : Value).ownBlock) v326 x25_3) := ⟨(by rw [hw]; exact (xrt_ (Kd.R_mono (Kd.R_far (p := ⟨gb324, 1, none⟩) (Kd.R_far (p := ⟨gb324, 0, none⟩) (Kd.R_types HO_25.out BK324.out (by decide)) (fun _ hk => hk.2) (.slice Ao152 t332.length co152)) (fun _ hk => hk.2) (.int .i64 t335)) (fun _ hk => ⟨hk.1.1, ⟨hk.1.2.1, ⟨hk.1.2.2.1, ⟨hk.1.2.2.2.1, hk.1.2.2.2.2⟩⟩⟩⟩))))⟩; replace HO_289000 : Aside0 (Kd.Q (Kd.int .i64) 3 w161 w.heap.size (fun k_ => some k_ ≠ (v326 : Value).ownBlock ∧ some k_ ≠ (.slice Ao14 t289.length co14 : Value).ownBlock ∧ some k_ ≠ (.slice Ao20 t295.length co20 : Value).ownBlock ∧ some k_ ≠ (.slice Ao149 x325000_3.length co149 : Value).ownBlock ∧ some k_ ≠ (.slice Ao152 t332.length co152 : Value).ownBlock) (.slice Ao10 t282.length co10) t282) := ⟨(by rw [hw]; exact (xqt_ (Kd.Q_mono (Kd.Q_far (p := ⟨gb324, 1, none⟩) (Kd.Q_far (p := ⟨gb324, 0, none⟩) (Kd.Q_types HO_289000.out BK324.out (by decide)) (fun _ hk => hk.2) (.slice Ao152 t332.length co152)) (fun _ hk => hk.2) (.int .i64 t335)) (fun _ hk => ⟨hk.1.1, ⟨hk.1.2.1, ⟨hk.1.2.2.1, ⟨hk.1.2.2.2.1, hk.1.2.2.2.2⟩⟩⟩⟩))))⟩; replace HO_295000 : Aside0 (Kd.Q (Kd.int .i64) 3 w161 w.heap.size (fun k_ => some k_ ≠ (v326 : Value).ownBlock ∧ some k_ ≠ (.slice Ao10 t282.length co10 : Value).ownBlock ∧ some k_ ≠ (.slice Ao20 t295.length co20 : Value).ownBlock ∧ some k_ ≠ (.slice Ao149 x325000_3.length co149 : Value).ownBlock ∧ some k_ ≠ (.slice Ao152 t332.length co152 : Value).ownBlock) (.slice Ao14 t289.length co14) t289) := ⟨(by rw [hw]; exact (xqt_ (Kd.Q_mono (Kd.Q_far (p := ⟨gb324, 1, none⟩) (Kd.Q_far (p := ⟨gb324, 0, none⟩) (Kd.Q_types HO_295000.out BK324.out (by decide)) (fun _ hk => hk.2) (.slice Ao152 t332.length co152)) (fun _ hk => hk.2) (.int .i64 t335)) (fun _ hk => ⟨hk.1.1, ⟨hk.1.2.1, ⟨hk.1.2.2.1, ⟨hk.1.2.2.2.1, hk.1.2.2.2.2⟩⟩⟩⟩))))⟩; replace HO_301000 : Aside0 (Kd.Q (Kd.int .i64) 3 w161 w.heap.size (fun k_ => some k_ ≠ (v326 : Value).ownBlock ∧ some k_ ≠ (.slice Ao10 t282.length co10 : Value).ownBlock ∧ some k_ ≠ (.slice Ao14 t289.length co14 : Value).ownBlock ∧ some k_ ≠ (.slice Ao149 x325000_3.length co149 : Value).ownBlock ∧ some k_ ≠ (.slice Ao152 t332.length co152 : Value).ownBlock) (.slice Ao20 t295.length co20) t295) := ⟨(by rw [hw]; exact (xqt_ (Kd.Q_mono (Kd.Q_far (p := ⟨gb324, 1, none⟩) (Kd.Q_far (p := ⟨gb324, 0, none⟩) (Kd.Q_types HO_301000.out BK324.out (by decide)) (fun _ hk => hk.2) (.slice Ao152 t332.length co152)) (fun _ hk => hk.2) (.int .i64 t335)) (fun _ hk => ⟨hk.1.1, ⟨hk.1.2.1, ⟨hk.1.2.2.1, ⟨hk.1.2.2.2.1, hk.1.2.2.2.2⟩⟩⟩⟩))))⟩; replace HO_325000 : Aside0 (Kd.Q (Kd.int .i64) 3 w161 w.heap.size (fun k_ => some k_ ≠ (v326 : Value).ownBlock ∧ some k_ ≠ (.slice Ao10 t282.length co10 : Value).ownBlock ∧ some k_ ≠ (.slice Ao14 t289.length co14 : Value).ownBlock ∧ some k_ ≠ (.slice Ao20 t295.length co20 : Value).ownBlock ∧ some k_ ≠ (.slice Ao152 t332.length co152 : Value).ownBlock) (.slice Ao149 x325000_3.length co149) x325000_3) := ⟨(by rw [hw]; exact (xqt_ (Kd.Q_mono (Kd.Q_far (p := ⟨gb324, 1, none⟩) (Kd.Q_far (p := ⟨gb324, 0, none⟩) (Kd.Q_types HO_325000.out BK324.out (by decide)) (fun _ hk => hk.2) (.slice Ao152 t332.length co152)) (fun _ hk => hk.2) (.int .i64 t335)) (fun _ hk => ⟨hk.1.1, ⟨hk.1.2.1, ⟨hk.1.2.2.1, ⟨hk.1.2.2.2.1, hk.1.2.2.2.2⟩⟩⟩⟩))))⟩; replace HO331 : Aside0 (Kd.R (Kd.int .u8) 5 w161 w.heap.size (fun _ => True) v330 y329) := ⟨(by rw [hw]; exact (xrt_ (Kd.R_mono (Kd.R_far (p := ⟨gb324, 1, none⟩) (Kd.R_far (p := ⟨gb324, 0, none⟩) (Kd.R_types HO331.out BK324.out (by decide)) (fun _ hk => hk.2) (.slice Ao152 t332.length co152)) (fun _ hk => hk.2) (.int .i64 t335)) (fun _ hk => trivial))))⟩; replace HO334 : Aside0 (Kd.R (Kd.int .i64) 3 w161 w.heap.size (fun k_ => some k_ ≠ (v326 : Value).ownBlock ∧ some k_ ≠ (.slice Ao10 t282.length co10 : Value).ownBlock ∧ some k_ ≠ (.slice Ao14 t289.length co14 : Value).ownBlock ∧ some k_ ≠ (.slice Ao20 t295.length co20 : Value).ownBlock ∧ some k_ ≠ (.slice Ao149 x325000_3.length co149 : Value).ownBlock) (.slice Ao152 t332.length co152) t332) := ⟨(by rw [hw]; exact (xrt_ (Kd.R_mono (Kd.R_far (p := ⟨gb324, 1, none⟩) (Kd.R_far (p := ⟨gb324, 0, none⟩) (Kd.R_types HO334.out BK324.out (by decide)) (fun _ hk => hk.2) (.slice Ao152 t332.length co152)) (fun _ hk => hk.2) (.int .i64 t335)) (fun _ hk => ⟨hk.1.1, ⟨hk.1.2.1, ⟨hk.1.2.2.1, ⟨hk.1.2.2.2.1, hk.1.2.2.2.2⟩⟩⟩⟩))))⟩; replace BK288 : Aside0 (w161.heap[gb288]? = some (.cells #[.slice Ao10 t282.length co10, .int .i64 t285] 25 (0, 0))) := ⟨(by rw [hw]; exact (by (with_reducible repeat (first | refine blk_drewN ?_ _ | refine blk_drew ?_ | refine blk_alloc ?_ _)); refine blk_far ?_ NB288_324.out _; (with_reducible repeat (first | refine blk_drewN ?_ _ | refine blk_drew ?_ | refine blk_alloc ?_ _)); refine blk_far ?_ NB288_324.out _; (with_reducible repeat (first | refine blk_drewN ?_ _ | refine blk_drew ?_ | refine blk_alloc ?_ _)); exact BK288.out))⟩; replace BK294 : Aside0 (w161.heap[gb294]? = some (.cells #[.slice Ao14 t289.length co14, .int .i64 t292] 25 (0, 0))) := ⟨(by rw [hw]; exact (by (with_reducible repeat (first | refine blk_drewN ?_ _ | refine blk_drew ?_ | refine blk_alloc ?_ _)); refine blk_far ?_ NB294_324.out _; (with_reducible repeat (first | refine blk_drewN ?_ _ | refine blk_drew ?_ | refine blk_alloc ?_ _)); refine blk_far ?_ NB294_324.out _; (with_reducible repeat (first | refine blk_drewN ?_ _ | refine blk_drew ?_ | refine blk_alloc ?_ _)); exact BK294.out))⟩; replace BK300 : Aside0 (w161.heap[gb300]? = some (.cells #[.slice Ao20 t295.length co20, .int .i64 t298] 25 (0, 0))) := ⟨(by rw [hw]; exact (by (with_reducible repeat (first | refine blk_drewN ?_ _ | refine blk_drew ?_ | refine blk_alloc ?_ _)); refine blk_far ?_ NB300_324.out _; (with_reducible repeat (first | refine blk_drewN ?_ _ | refine blk_drew ?_ | refine blk_alloc ?_ _)); refine blk_far ?_ NB300_324.out _; (with_reducible repeat (first | refine blk_drewN ?_ _ | refine blk_drew ?_ | refine blk_alloc ?_ _)); exact BK300.out))⟩; replace BK324 : Aside0 (w161.heap[gb324]? = some (.cells #[.slice Ao152 t332.length co152, .int .i64 t335] 25 (0, 0))) := ⟨(by rw [hw]; exact (by (with_reducible repeat (first | refine blk_drewN ?_ _ | refine blk_drew ?_ | refine blk_alloc ?_ _)); refine blk_put (cs := #[.slice Ao152 t332.length co152, .int .i64 x325001_3]) ?_ 1 _ rfl; (with_reducible repeat (first | refine blk_drewN ?_ _ | refine blk_drew ?_ | refine blk_alloc ?_ _)); refine blk_put (cs := #[.slice Ao149 x325000_3.length co149, .int .i64 x325001_3]) ?_ 0 _ rfl; (with_reducible repeat (first | refine blk_drewN ?_ _ | refine blk_drew ?_ | refine blk_alloc ?_ _)); exact BK324.out))⟩; replace BK337 : Aside0 (w161.heap[gb337]? = some (.cells #[.slice Ao152 t332.length co152, .int .i64 t335] 25 (0, 0))) := ⟨(by rw [hw]; exact (by (with_reducible repeat (first | refine blk_drewN ?_ _ | refine blk_drew ?_ | refine blk_alloc ?_ _)); refine blk_far ?_ NB337_324.out _; (with_reducible repeat (first | refine blk_drewN ?_ _ | refine blk_drew ?_ | refine blk_alloc ?_ _)); refine blk_far ?_ NB337_324.out _; (with_reducible repeat (first | refine blk_drewN ?_ _ | refine blk_drew ?_ | refine blk_alloc ?_ _)); exact BK337.out))⟩; replace HB : Aside0 (Below w.heap.size w w161) := ⟨(by rw [hw]; exact (xw_ HB))⟩; clear hw; obtain ⟨Ao162, co162, eo162⟩ := Kd.R_slice HO_25.out; subst eo162; have p338 : 0 ≤ ((ji138) : Int) := of_decide_eq_true (by first | (with_reducible assumption) | assumption); have q338 : (ji138) < (x25_3.length : Int) := of_decide_eq_true (by first | (with_reducible assumption) | assumption); obtain ⟨ad338, e338, hx338_0⟩ := Kd.at_int (Kd.R_reads' HO_25.out).2.2 (ji138) p338 q338; cases e338; replace p338 := eq_true p338; replace q338 := eq_true q338; have p141 : 0 ≤ ((ji138) : Int) := of_decide_eq_true (by first | (with_reducible assumption) | assumption); have q141 : ((ji138) : Int) < ((x25_3.length : Int) : Int) := of_decide_eq_true (by first | (with_reducible assumption) | assumption); obtain ⟨go141, co141, eo141, gb141, gl141, cl141, HG141⟩ := Kd.R_form HO_25.out (by omega); (first | cases eo141 | (injection eo141 with ea_ en_ ec_; (first | subst ea_ | (injection ea_ with ea_; subst ea_)); subst ec_; clear en_)); have GB141 := Aside0.mk gb141; have GG141 := Aside0.mk HG141; clear gb141 gl141 HG141; (first | simp only [add_plain] at hx338_0 | skip); obtain ⟨hx141_0, hf141_0⟩ := Kd.R_celln 0 HO_25.out ((ji138) : Int) p141 q141; replace p141 := eq_true p141; replace q141 := eq_true q141; obtain ⟨hy163_, hz163_⟩ := Kd.R_celln 0 HO_25.out ((ji138) : Int) (of_decide_eq_true (by first | (with_reducible assumption) | assumption)) (of_decide_eq_true (by first | (with_reducible assumption) | assumption)); have HP163 := Kd.R_putg HO_25.out ((ji138) : Int) (wrap64 ((rd x25_3 (ji138)) + 1))) | ((with_reducible refine gate_store (t := 3) (p := 196) rfl ?_); refine store_event (t := 3) (p := 196) (v := ?vo_w164) (w1 := (w161.setCell ⟨go141, ((ji138) : Int).toNat, none⟩ (.int .i64 (wrap64 ((rd x25_3 (ji138)) + 1))))) ?hg ?ho ?hn ?hr ?_; (case ho => rfl); (case hg => rfl); (case hn => rfl); (case hr => first | (go_simp; done) | (go_simp; rfl)); intro w164 hw; have hg : w161.grownBy w164 (some go141) := (by rw [hw]; exact HP163.2); have hp_ : Kd.R (Kd.int .i64) 3 w164 w.heap.size (fun k_ => some k_ ≠ (.slice Ao10 t282.length co10 : Value).ownBlock ∧ some k_ ≠ (.slice Ao14 t289.length co14 : Value).ownBlock ∧ some k_ ≠ (.slice Ao20 t295.length co20 : Value).ownBlock ∧ some k_ ≠ (.slice Ao149 x325000_3.length co149 : Value).ownBlock ∧ some k_ ≠ (.slice Ao152 t332.length co152 : Value).ownBlock) (.slice (some ⟨go141, 0, none⟩) x25_3.length co162) y339 := (by rw [hw, Ny339.out]; exact HP163.1); clear HP163; replace HO_289000 := Aside0.mk (Kd.Q_after (v := (.slice (some ⟨go141, 0, none⟩) x25_3.length co162)) (v1 := (.slice (some ⟨go141, 0, none⟩) x25_3.length co162)) (ok := (fun k_ => some k_ ≠ (.slice Ao14 t289.length co14 : Value).ownBlock ∧ some k_ ≠ (.slice Ao20 t295.length co20 : Value).ownBlock ∧ some k_ ≠ (.slice Ao149 x325000_3.length co149 : Value).ownBlock ∧ some k_ ≠ (.slice Ao152 t332.length co152 : Value).ownBlock)) (xqt_ (Kd.Q_mono HO_289000.out (fun _ hk => ⟨⟨hk.2.1, ⟨hk.2.2.1, ⟨hk.2.2.2.1, hk.2.2.2.2⟩⟩⟩, hk.1⟩))) hg (.inl rfl)); replace HO_295000 := Aside0.mk (Kd.Q_after (v := (.slice (some ⟨go141, 0, none⟩) x25_3.length co162)) (v1 := (.slice (some ⟨go141, 0, none⟩) x25_3.length co162)) (ok := (fun k_ => some k_ ≠ (.slice Ao10 t282.length co10 : Value).ownBlock ∧ some k_ ≠ (.slice Ao20 t295.length co20 : Value).ownBlock ∧ some k_ ≠ (.slice Ao149 x325000_3.length co149 : Value).ownBlock ∧ some k_ ≠ (.slice Ao152 t332.length co152 : Value).ownBlock)) (xqt_ (Kd.Q_mono HO_295000.out (fun _ hk => ⟨⟨hk.2.1, ⟨hk.2.2.1, ⟨hk.2.2.2.1, hk.2.2.2.2⟩⟩⟩, hk.1⟩))) hg (.inl rfl)); replace HO_301000 := Aside0.mk (Kd.Q_after (v := (.slice (some ⟨go141, 0, none⟩) x25_3.length co162)) (v1 := (.slice (some ⟨go141, 0, none⟩) x25_3.length co162)) (ok := (fun k_ => some k_ ≠ (.slice Ao10 t282.length co10 : Value).ownBlock ∧ some k_ ≠ (.slice Ao14 t289.length co14 : Value).ownBlock ∧ some k_ ≠ (.slice Ao149 x325000_3.length co149 : Value).ownBlock ∧ some k_ ≠ (.slice Ao152 t332.length co152 : Value).ownBlock)) (xqt_ (Kd.Q_mono HO_301000.out (fun _ hk => ⟨⟨hk.2.1, ⟨hk.2.2.1, ⟨hk.2.2.2.1, hk.2.2.2.2⟩⟩⟩, hk.1⟩))) hg (.inl rfl)); replace HO_325000 := Aside0.mk (Kd.Q_after (v := (.slice (some ⟨go141, 0, none⟩) x25_3.length co162)) (v1 := (.slice (some ⟨go141, 0, none⟩) x25_3.length co162)) (ok := (fun k_ => some k_ ≠ (.slice Ao10 t282.length co10 : Value).ownBlock ∧ some k_ ≠ (.slice Ao14 t289.length co14 : Value).ownBlock ∧ some k_ ≠ (.slice Ao20 t295.length co20 : Value).ownBlock ∧ some k_ ≠ (.slice Ao152 t332.length co152 : Value).ownBlock)) (xqt_ (Kd.Q_mono HO_325000.out (fun _ hk => ⟨⟨hk.2.1, ⟨hk.2.2.1, ⟨hk.2.2.2.1, hk.2.2.2.2⟩⟩⟩, hk.1⟩))) hg (.inl rfl)); replace BK288 := Aside0.mk (blk_grown (g := gb288) (o := .cells #[.slice Ao10 t282.length co10, .int .i64 t285] 25 (0, 0)) (xb_ BK288) hg (Kd.R_ne HO_25.out BK288.out (by decide))); replace BK294 := Aside0.mk (blk_grown (g := gb294) (o := .cells #[.slice Ao14 t289.length co14, .int .i64 t292] 25 (0, 0)) (xb_ BK294) hg (Kd.R_ne HO_25.out BK294.out (by decide))); replace BK300 := Aside0.mk (blk_grown (g := gb300) (o := .cells #[.slice Ao20 t295.length co20, .int .i64 t298] 25 (0, 0)) (xb_ BK300) hg (Kd.R_ne HO_25.out BK300.out (by decide))); replace BK324 := Aside0.mk (blk_grown (g := gb324) (o := .cells #[.slice Ao152 t332.length co152, .int .i64 t335] 25 (0, 0)) (xb_ BK324) hg (Kd.R_ne HO_25.out BK324.out (by decide))); replace HO331 := Aside0.mk (Kd.R_over' (v := (.slice (some ⟨go141, 0, none⟩) x25_3.length co162)) (xr_ HO331) (Kd.R_typed HO_25.out) (by decide) hg); replace HO334 := Aside0.mk (Kd.R_after (v := (.slice (some ⟨go141, 0, none⟩) x25_3.length co162)) (v1 := (.slice (some ⟨go141, 0, none⟩) x25_3.length co162)) (ok := (fun k_ => some k_ ≠ (.slice Ao10 t282.length co10 : Value).ownBlock ∧ some k_ ≠ (.slice Ao14 t289.length co14 : Value).ownBlock ∧ some k_ ≠ (.slice Ao20 t295.length co20 : Value).ownBlock ∧ some k_ ≠ (.slice Ao149 x325000_3.length co149 : Value).ownBlock)) (xrt_ (Kd.R_mono HO334.out (fun _ hk => ⟨⟨hk.2.1, ⟨hk.2.2.1, ⟨hk.2.2.2.1, hk.2.2.2.2⟩⟩⟩, hk.1⟩))) hg (.inl rfl)); replace BK337 := Aside0.mk (blk_grown (g := gb337) (o := .cells #[.slice Ao152 t332.length co152, .int .i64 t335] 25 (0, 0)) (xb_ BK337) hg (Kd.R_ne HO_25.out BK337.out (by decide))); replace HO_25 := Aside0.mk (hp_); replace HB := Aside0.mk ((by rw [hw]; exact below_set (HB.out) GB141.out : Below w.heap.size w w164)); clear hg hw hp_))
              go_roundg k3
              case measure => have := HJ6.out; have := HJ39.out; have := HK3.out; omega
              case rel => exact ⟨(y339), (wrap64 (x167_3 + 1)), (t332), (t335), (.slice Ao152 t332.length co152), (by first | rfl | (simp; done) | (simp [*]; done)), H', ⟨by have := HJ6.out; have := HJ39.out; have := HK3.out; omega⟩, ⟨xrt_ (Kd.R_mono HO_25.out (fun _ hk => ⟨hk.1, ⟨hk.2.1, ⟨hk.2.2.1, hk.2.2.2.2⟩⟩⟩))⟩, ⟨xqt_ (Kd.Q_mono HO_289000.out (fun _ hk => ⟨hk.2, ⟨hk.1.1, ⟨hk.1.2.1, hk.1.2.2.2⟩⟩⟩))⟩, ⟨xqt_ (Kd.Q_mono HO_295000.out (fun _ hk => ⟨hk.2, ⟨hk.1.1, ⟨hk.1.2.1, hk.1.2.2.2⟩⟩⟩))⟩, ⟨xqt_ (Kd.Q_mono HO_301000.out (fun _ hk => ⟨hk.2, ⟨hk.1.1, ⟨hk.1.2.1, hk.1.2.2.2⟩⟩⟩))⟩, ⟨Kd.Q_of_R (xrt_ (Kd.R_mono HO334.out (fun _ hk => ⟨hk.2, ⟨hk.1.1, ⟨hk.1.2.1, hk.1.2.2.1⟩⟩⟩)))⟩, ⟨xb_ BK288⟩, ⟨xb_ BK294⟩, ⟨xb_ BK300⟩, ⟨xb_ BK324⟩, ⟨xw_ HB⟩⟩
             ·rw [if_neg c140] at H
              exact absurd H (by simp)
            ·rw [if_neg c139] at H
             exact absurd H (by simp)
           ·replace c137 := Bool.eq_false_iff.mpr c137
            subst c137
            have H1 : (some false) = some r := by rw [if_neg (show ¬ (false = true) by decide)] at H; exact H
            clear H
            have H := H1
            clear H1
            obtain rfl := Option.some.inj H
            have p328 : 0 ≤ (x167_3 : Int) := of_decide_eq_true (by first | (with_reducible assumption) | assumption)
            have q328 : x167_3 < (l1.length : Int) := of_decide_eq_true (by first | (with_reducible assumption) | assumption)
            obtain ⟨ad328, e328, hx328_0⟩ := Kd.at_int HR1.out x167_3 p328 q328
            cases e328
            replace hx328_0 := (HB.out.cell (World.block_lt_of_cell? w _ hx328_0)).trans hx328_0
            replace p328 := eq_true p328
            replace q328 := eq_true q328
            have hnb165 := NB324_288.out
            have hnc165 := NB288_324.out
            have hnb166 := NB324_294.out
            have hnc166 := NB294_324.out
            have hnb167 := NB324_300.out
            have hnc167 := NB300_324.out
            have hcz168_0 : wr.cell? ⟨gb324, 0, none⟩ = some (u325000) := xk_ BK324 0
            have hcz168_1 : wr.cell? ⟨gb324, 1, none⟩ = some (.int .i64 x325001_3) := xk_ BK324 1
            have hfz168_0 := blk_frozen BK324.out 0
            have hfz168_1 := blk_frozen BK324.out 1
            go_wp2_with (first | ((with_reducible refine gate_dst (N := 182) rfl ?_); refine Kd.R_lit (Kd.int .u8) _ 5 ?hg (N := 182) ?hd (xs := ([(wrap64 (97 + (Int.tmod (wrap64 (rd l1 x167_3)) 4))) % 256] : List Int)) (inner := [.int .u8 ((wrap64 (97 + (Int.tmod (wrap64 (rd l1 x167_3)) 4))) % 256)]) (ok := fun _ => True) (okp := fun _ => True) ?hr ?hp (fun _ hk => hk) trivial (Below.refl _ _) (Nat.le_refl _) (by simp) ?_; (case hd => rfl); (case hg => rfl); (case hr => first | (go_simp; done) | (go_simp; rfl)); (case hp => exact (Reps.one (show Kd.M (Kd.int .u8) _ _ _ ((wrap64 (97 + (Int.tmod (wrap64 (rd l1 x167_3)) 4))) % 256) [.int .u8 ((wrap64 (97 + (Int.tmod (wrap64 (rd l1 x167_3)) 4))) % 256)] from rfl) (Reps.none _ _))); intro v330 w169 ho170 hb hg_ hnew_; clear hg_ hnew_; (first | rw [← Ny329.out] at ho170 | (simp only [Int.reduceToNat] at ho170; rw [← Ny329.out] at ho170)); replace HO_25 := xrb_ HO_25 hb; replace HO_289000 := xqb_ HO_289000 hb; replace HO_295000 := xqb_ HO_295000 hb; replace HO_301000 := xqb_ HO_301000 hb; replace HO_325000 := xqb_ HO_325000 hb; have HO331 := Aside0.mk (Kd.R_lower ho170 (below_size (xw_ HB))); replace BK288 := xbb_ BK288 hb; replace BK294 := xbb_ BK294 hb; replace BK300 := xbb_ BK300 hb; replace BK324 := xbb_ BK324 hb; replace HB := xws_ HB hb; clear hb ho170; have hcv171 := own_string (P := Try.prog) Try.underlying22 Try.underlying5 Try.underlying9 (Kd.own_of_R HO331.out); obtain ⟨Ao172, co172, eo172, _⟩ := Kd.Q_slice HO_325000.out; subst eo172) | ((with_reducible refine gate_callee (f := 6) rfl ?_); refine xgl_ (some 185) Try.func6 #[.agg #[.slice Ao172 x325000_3.length co172, .int .i64 x325001_3], .string ((⟨#[107, 101, 121, 45]⟩ : ByteArray) ++ (strOfNums y329)), .int .i64 1] ?_; (with_reducible refine (impl_CountIn.calls k3 _ _ x325000_3 x325001_3 ((⟨#[107, 101, 121, 45]⟩ : ByteArray) ++ (strOfNums y329)) 1 t332 t335 false _ ?side1 ?side2 A136.out).mono ?_); (case side1 => exact xc_ ((Kd.Q_reads' HO_325000.out).2.2)); (case side2 => exact (Kd.Q_reads' HO_325000.out).2.1); rintro e w173 ⟨v333, rfl, ho0, hb⟩; refine ⟨_, rfl, ?_⟩; replace HO331 := xrb_ HO331 hb; have HO334 := Aside0.mk (Kd.R_lower (Kd.R_new' (Kd.R_new' (Kd.R_new' (Kd.R_new' (Kd.R_new' ho0 (Kd.R_lt (xr_ HO_25))) (Kd.Q_lt (xq_ HO_289000))) (Kd.Q_lt (xq_ HO_295000))) (Kd.Q_lt (xq_ HO_301000))) (Kd.Q_lt (xq_ HO_325000))) (below_size (xw_ HB))); replace HO_25 := xre_ HO_25 ho0 hb; replace HO_289000 := xqe_ HO_289000 (Kd.R_base ho0) hb; replace HO_295000 := xqe_ HO_295000 (Kd.R_base ho0) hb; replace HO_301000 := xqe_ HO_301000 (Kd.R_base ho0) hb; replace HO_325000 := xqe_ HO_325000 (Kd.R_base ho0) hb; replace BK288 := xbb_ BK288 hb; replace BK294 := xbb_ BK294 hb; replace BK300 := xbb_ BK300 hb; replace BK324 := xbb_ BK324 hb; replace HB := xws_ HB hb; (try clear hb); (try clear hb2); (try clear hk); (try clear hi); (try clear ho0)) | ((with_reducible refine gate_dst (N := 29) rfl ?_); refine xbe_ (N := 29) (cs := #[.slice none 0 0, .int .i64 0]) (t := 25) ?_; intro gb337 hg w174 hbox hb; replace HO_25 := xrb_ HO_25 hb; replace HO_289000 := xqb_ HO_289000 hb; replace HO_295000 := xqb_ HO_295000 hb; replace HO_301000 := xqb_ HO_301000 hb; replace HO_325000 := xqb_ HO_325000 hb; replace HO331 := xrb_ HO331 hb; replace HO334 := xrb_ HO334 hb; have BK337 := Aside0.mk (hbox); have GW337 := xge_ HB hg; have GE337 := xge_ HB hg; replace HB := xws_ HB hb; have NB288_337 := xlt_ BK288 hg; have NB337_288 := xgt_ BK288 hg; replace BK288 := xbb_ BK288 hb; have NB294_337 := xlt_ BK294 hg; have NB337_294 := xgt_ BK294 hg; replace BK294 := xbb_ BK294 hb; have NB300_337 := xlt_ BK300 hg; have NB337_300 := xgt_ BK300 hg; replace BK300 := xbb_ BK300 hb; have NB324_337 := xlt_ BK324 hg; have NB337_324 := xgt_ BK324 hg; replace BK324 := xbb_ BK324 hb; clear hb hbox hg; obtain ⟨Ao175, co175, eo175⟩ := Kd.R_slice HO334.out; subst eo175; have hnb176 := NB337_288.out; have hnc176 := NB288_337.out; have hnb177 := NB337_294.out; have hnc177 := NB294_337.out; have hnb178 := NB337_300.out; have hnc178 := NB300_337.out; have hnb179 := NB337_324.out; have hnc179 := NB324_337.out; have hcz180_0 : w174.cell? ⟨gb337, 0, none⟩ = some (.slice none 0 0) := xk_ BK337 0; have hcz180_1 : w174.cell? ⟨gb337, 1, none⟩ = some (.int .i64 0) := xk_ BK337 1; have hfz180_0 := blk_frozen BK337.out 0; have hfz180_1 := blk_frozen BK337.out 1))
            go_ret
            exact ⟨by first | rfl | (simp [errW_none, errW_some] <;> rfl) | (simp [*, errW_none, errW_some] <;> rfl), xw_ HB⟩
          ·rw [if_neg c135] at H
           exact absurd H (by simp)
        ·rw [if_neg c133] at H
         exact absurd H (by simp)
       ·rw [if_neg c132] at H
        exact absurd H (by simp)
      ·rw [if_neg c131] at H
       have c131b0 : decide (x167_3 < (l1.length : Int)) = false := decide_eq_false c131
       clear c131
       (first | rw [c131b0] | (simp only [i64_w, i32_w]; rw [c131b0]) | skip)
       have H' := Aside0.mk H
       clear H
       go_wp2
       go_meet
       case rel => exact ⟨_, (x25_3), (x325000_3), (x325001_3), (u325000), H', ⟨by have := HJ6.out; have := HJ39.out; have := HK3.out; first | omega | exact Nat.le_refl _⟩, ⟨xr_ HO_25⟩, ⟨xq_ HO_289000⟩, ⟨xq_ HO_295000⟩, ⟨xq_ HO_301000⟩, ⟨xq_ HO_325000⟩, ⟨xb_ BK288⟩, ⟨xb_ BK294⟩, ⟨xb_ BK300⟩, ⟨xb_ BK324⟩, ⟨xw_ HB⟩⟩
   case rest =>
    clear HC121
    try clear c1
    try clear p1
    try clear q1
    try clear hx1
    try clear hcv1
    try clear c2
    try clear p2
    try clear c3
    try clear p3
    try clear q3
    try clear hx3
    try clear c4
    try clear c5
    try clear c6
    try clear p6
    try clear c7
    try clear c8
    try clear c9
    try clear c10
    try clear c11
    try clear c12
    try clear c13
    try clear c14
    try clear p14
    try clear q14
    try clear hx14
    try clear hcv14
    try clear hf14
    try clear c15
    try clear c16
    try clear c17
    try clear hcv17
    try clear c24
    try clear c24b0
    try clear c24b1
    try clear c24b2
    try clear c28
    try clear p32
    try clear q32
    try clear hx32
    try clear p33
    try clear q33
    try clear hx33
    try clear c39
    try clear c41
    try clear c48
    try clear c49
    try clear c52
    try clear c58
    try clear c59
    try clear c60
    try clear p64
    try clear c66
    try clear c67
    try clear c68
    try clear c68b0
    try clear c68b1
    try clear c69
    try clear c69b0
    try clear c70
    try clear c71
    try clear c72
    try clear c74
    try clear c74b0
    try clear c74b1
    try clear c74b2
    try clear c75
    try clear c76
    try clear c77
    try clear c79
    try clear c79b0
    try clear c80
    try clear c81
    try clear c82
    try clear c84
    try clear c85
    try clear c86
    try clear c88
    try clear c90
    try clear c90b0
    try clear c90b1
    try clear c90b2
    try clear c91
    try clear c92
    try clear c93
    try clear c96
    try clear c97
    try clear c97b0
    try clear c97b1
    try clear c97b2
    try clear c98
    try clear c99
    try clear c100
    try clear c103
    try clear c104
    try clear c105
    try clear c108
    try clear c108b0
    try clear c108b1
    try clear c108b2
    try clear c109
    try clear c110
    try clear c111
    try clear c114
    try clear c115
    try clear c116
    try clear c120
    try clear c120b0
    try clear c120b1
    try clear c125
    try clear c126
    try clear c127
    try clear c131
    try clear c131b0
    try clear c132
    try clear c132b0
    try clear c133
    try clear c133b0
    try clear c134
    try clear c134b0
    try clear c134b1
    try clear c135
    try clear c135b0
    try clear c135b1
    try clear c135b2
    try clear c137
    try clear c139
    try clear c139b0
    try clear c140
    try clear c140b0
    try clear p141
    try clear q141
    try clear hx141
    try clear hf141
    try clear c142
    try clear c143
    try clear c144
    try clear hcv148
    try clear c153
    try clear c154
    try clear c155
    try clear c156
    try clear c165
    try clear c166
    try clear c167
    try clear hcv171
    try clear c176
    try clear c177
    try clear c178
    try clear c179
    try clear hcz101_0
    try clear hcz101_1
    try clear hcz106_0
    try clear hcz106_1
    try clear hcz112_0
    try clear hcz112_1
    try clear hcz117_0
    try clear hcz117_1
    try clear hcz128_0
    try clear hcz128_1
    try clear hcz145_0
    try clear hcz145_1
    try clear hcz157_0
    try clear hcz157_1
    try clear hcz159_0
    try clear hcz159_1
    try clear hcz160_0
    try clear hcz160_1
    try clear hcz168_0
    try clear hcz168_1
    try clear hcz180_0
    try clear hcz180_1
    try clear hcz50_0
    try clear hcz50_1
    try clear hcz53_0
    try clear hcz53_1
    try clear hcz61_0
    try clear hcz61_1
    try clear hcz62_0
    try clear hcz62_1
    try clear hcz64_0
    try clear hcz64_1
    try clear hcz73_0
    try clear hcz73_1
    try clear hcz78_0
    try clear hcz78_1
    try clear hcz83_0
    try clear hcz83_1
    try clear hcz87_0
    try clear hcz87_1
    try clear hcz94_0
    try clear hcz94_1
    try clear hfz101_0
    try clear hfz101_1
    try clear hfz106_0
    try clear hfz106_1
    try clear hfz112_0
    try clear hfz112_1
    try clear hfz117_0
    try clear hfz117_1
    try clear hfz128_0
    try clear hfz128_1
    try clear hfz145_0
    try clear hfz145_1
    try clear hfz157_0
    try clear hfz157_1
    try clear hfz159_0
    try clear hfz159_1
    try clear hfz160_0
    try clear hfz160_1
    try clear hfz168_0
    try clear hfz168_1
    try clear hfz180_0
    try clear hfz180_1
    try clear hfz50_0
    try clear hfz50_1
    try clear hfz53_0
    try clear hfz53_1
    try clear hfz61_0
    try clear hfz61_1
    try clear hfz62_0
    try clear hfz62_1
    try clear hfz64_0
    try clear hfz64_1
    try clear hfz73_0
    try clear hfz73_1
    try clear hfz78_0
    try clear hfz78_1
    try clear hfz83_0
    try clear hfz83_1
    try clear hfz87_0
    try clear hfz87_1
    try clear hfz94_0
    try clear hfz94_1
    try clear hx141_0
    try clear hx328_0
    try clear hx338_0
    try clear p141
    try clear p2
    try clear p328
    try clear p338
    try clear p6
    try clear p64
    try clear q141
    try clear q328
    try clear q338
    obtain ⟨kq, x25_120, x325000_120, x325001_120, u325000, HA, HJ120, HO_25, HO_289000, HO_295000, HO_301000, HO_325000, BK288, BK294, BK300, BK324, HB⟩ := hcut
    cases kq with
    | zero => exact absurd HA.out (by simp [laws_FnSketch.j4])
    | succ kj120 =>
     have H := HA.out
     clear HA
     simp only [laws_FnSketch.j4] at H
     have H' := Aside0.mk H
     clear H
     obtain ⟨Ao181, co181, eo181⟩ := Kd.R_slice HO_25.out
     subst eo181
     go_wp2
     go_loopg [200] kj120 (fun kq v200 w' => ∃ (x200_4 : Int), v200 = .int .i64 x200_4 ∧ Aside0 (laws_FnSketch.l1 kq x25_120 (x25_120.length : Int) x200_4 x325000_120 x325001_120 = some r) ∧ Aside0 (kq ≤ kj120) ∧ Aside0 (Kd.R (Kd.int .i64) 3 w' w.heap.size (fun k_ => some k_ ≠ ((.slice Ao10 t282.length co10) : Value).ownBlock ∧ some k_ ≠ ((.slice Ao14 t289.length co14) : Value).ownBlock ∧ some k_ ≠ ((.slice Ao20 t295.length co20) : Value).ownBlock ∧ some k_ ≠ (u325000 : Value).ownBlock) (.slice Ao181 x25_120.length co181) x25_120) ∧ Aside0 (Kd.Q (Kd.int .i64) 3 w' w.heap.size (fun k_ => some k_ ≠ ((.slice Ao181 x25_120.length co181) : Value).ownBlock ∧ some k_ ≠ ((.slice Ao14 t289.length co14) : Value).ownBlock ∧ some k_ ≠ ((.slice Ao20 t295.length co20) : Value).ownBlock ∧ some k_ ≠ (u325000 : Value).ownBlock) (.slice Ao10 t282.length co10) t282) ∧ Aside0 (Kd.Q (Kd.int .i64) 3 w' w.heap.size (fun k_ => some k_ ≠ ((.slice Ao181 x25_120.length co181) : Value).ownBlock ∧ some k_ ≠ ((.slice Ao10 t282.length co10) : Value).ownBlock ∧ some k_ ≠ ((.slice Ao20 t295.length co20) : Value).ownBlock ∧ some k_ ≠ (u325000 : Value).ownBlock) (.slice Ao14 t289.length co14) t289) ∧ Aside0 (Kd.Q (Kd.int .i64) 3 w' w.heap.size (fun k_ => some k_ ≠ ((.slice Ao181 x25_120.length co181) : Value).ownBlock ∧ some k_ ≠ ((.slice Ao10 t282.length co10) : Value).ownBlock ∧ some k_ ≠ ((.slice Ao14 t289.length co14) : Value).ownBlock ∧ some k_ ≠ (u325000 : Value).ownBlock) (.slice Ao20 t295.length co20) t295) ∧ Aside0 (Kd.Q (Kd.int .i64) 3 w' w.heap.size (fun k_ => some k_ ≠ ((.slice Ao181 x25_120.length co181) : Value).ownBlock ∧ some k_ ≠ ((.slice Ao10 t282.length co10) : Value).ownBlock ∧ some k_ ≠ ((.slice Ao14 t289.length co14) : Value).ownBlock ∧ some k_ ≠ ((.slice Ao20 t295.length co20) : Value).ownBlock) u325000 x325000_120) ∧ Aside0 (w'.heap[gb288]? = some (.cells #[(.slice Ao10 t282.length co10), .int .i64 t285] 25 (0, 0))) ∧ Aside0 (w'.heap[gb294]? = some (.cells #[(.slice Ao14 t289.length co14), .int .i64 t292] 25 (0, 0))) ∧ Aside0 (w'.heap[gb300]? = some (.cells #[(.slice Ao20 t295.length co20), .int .i64 t298] 25 (0, 0))) ∧ Aside0 (w'.heap[gb324]? = some (.cells #[u325000, .int .i64 x325001_120] 25 (0, 0))) ∧ Aside0 (Below w.heap.size w w'))
     case atStart => exact ⟨(0), (by first | rfl | (simp; done) | (simp [*]; done)), H', ⟨Nat.le_refl _⟩, ⟨xr_ HO_25⟩, ⟨xq_ HO_289000⟩, ⟨xq_ HO_295000⟩, ⟨xq_ HO_301000⟩, ⟨xq_ HO_325000⟩, ⟨xb_ BK288⟩, ⟨xb_ BK294⟩, ⟨xb_ BK300⟩, ⟨xb_ BK324⟩, ⟨xw_ HB⟩⟩
     case round =>
      clear H'
      try clear c1
      try clear p1
      try clear q1
      try clear hx1
      try clear hcv1
      try clear c2
      try clear p2
      try clear c3
      try clear p3
      try clear q3
      try clear hx3
      try clear c4
      try clear c5
      try clear c6
      try clear p6
      try clear c7
      try clear c8
      try clear c9
      try clear c10
      try clear c11
      try clear c12
      try clear c13
      try clear c14
      try clear p14
      try clear q14
      try clear hx14
      try clear hcv14
      try clear hf14
      try clear c15
      try clear c16
      try clear c17
      try clear hcv17
      try clear c24
      try clear c24b0
      try clear c24b1
      try clear c24b2
      try clear c28
      try clear p32
      try clear q32
      try clear hx32
      try clear p33
      try clear q33
      try clear hx33
      try clear c39
      try clear c41
      try clear c48
      try clear c49
      try clear c52
      try clear c58
      try clear c59
      try clear c60
      try clear p64
      try clear c66
      try clear c67
      try clear c68
      try clear c68b0
      try clear c68b1
      try clear c69
      try clear c69b0
      try clear c70
      try clear c71
      try clear c72
      try clear c74
      try clear c74b0
      try clear c74b1
      try clear c74b2
      try clear c75
      try clear c76
      try clear c77
      try clear c79
      try clear c79b0
      try clear c80
      try clear c81
      try clear c82
      try clear c84
      try clear c85
      try clear c86
      try clear c88
      try clear c90
      try clear c90b0
      try clear c90b1
      try clear c90b2
      try clear c91
      try clear c92
      try clear c93
      try clear c96
      try clear c97
      try clear c97b0
      try clear c97b1
      try clear c97b2
      try clear c98
      try clear c99
      try clear c100
      try clear c103
      try clear c104
      try clear c105
      try clear c108
      try clear c108b0
      try clear c108b1
      try clear c108b2
      try clear c109
      try clear c110
      try clear c111
      try clear c114
      try clear c115
      try clear c116
      try clear c120
      try clear c120b0
      try clear c120b1
      try clear c125
      try clear c126
      try clear c127
      try clear c131
      try clear c131b0
      try clear c132
      try clear c132b0
      try clear c133
      try clear c133b0
      try clear c134
      try clear c134b0
      try clear c134b1
      try clear c135
      try clear c135b0
      try clear c135b1
      try clear c135b2
      try clear c137
      try clear c139
      try clear c139b0
      try clear c140
      try clear c140b0
      try clear p141
      try clear q141
      try clear hx141
      try clear hf141
      try clear c142
      try clear c143
      try clear c144
      try clear hcv148
      try clear c153
      try clear c154
      try clear c155
      try clear c156
      try clear c165
      try clear c166
      try clear c167
      try clear hcv171
      try clear c176
      try clear c177
      try clear c178
      try clear c179
      try clear hcz101_0
      try clear hcz101_1
      try clear hcz106_0
      try clear hcz106_1
      try clear hcz112_0
      try clear hcz112_1
      try clear hcz117_0
      try clear hcz117_1
      try clear hcz128_0
      try clear hcz128_1
      try clear hcz145_0
      try clear hcz145_1
      try clear hcz157_0
      try clear hcz157_1
      try clear hcz159_0
      try clear hcz159_1
      try clear hcz160_0
      try clear hcz160_1
      try clear hcz168_0
      try clear hcz168_1
      try clear hcz180_0
      try clear hcz180_1
      try clear hcz50_0
      try clear hcz50_1
      try clear hcz53_0
      try clear hcz53_1
      try clear hcz61_0
      try clear hcz61_1
      try clear hcz62_0
      try clear hcz62_1
      try clear hcz64_0
      try clear hcz64_1
      try clear hcz73_0
      try clear hcz73_1
      try clear hcz78_0
      try clear hcz78_1
      try clear hcz83_0
      try clear hcz83_1
      try clear hcz87_0
      try clear hcz87_1
      try clear hcz94_0
      try clear hcz94_1
      try clear hfz101_0
      try clear hfz101_1
      try clear hfz106_0
      try clear hfz106_1
      try clear hfz112_0
      try clear hfz112_1
      try clear hfz117_0
      try clear hfz117_1
      try clear hfz128_0
      try clear hfz128_1
      try clear hfz145_0
      try clear hfz145_1
      try clear hfz157_0
      try clear hfz157_1
      try clear hfz159_0
      try clear hfz159_1
      try clear hfz160_0
      try clear hfz160_1
      try clear hfz168_0
      try clear hfz168_1
      try clear hfz180_0
      try clear hfz180_1
      try clear hfz50_0
      try clear hfz50_1
      try clear hfz53_0
      try clear hfz53_1
      try clear hfz61_0
      try clear hfz61_1
      try clear hfz62_0
      try clear hfz62_1
      try clear hfz64_0
      try clear hfz64_1
      try clear hfz73_0
      try clear hfz73_1
      try clear hfz78_0
      try clear hfz78_1
      try clear hfz83_0
      try clear hfz83_1
      try clear hfz87_0
      try clear hfz87_1
      try clear hfz94_0
      try clear hfz94_1
      try clear hx141_0
      try clear hx328_0
      try clear hx338_0
      try clear p1
      try clear p14
      try clear p141
      try clear p2
      try clear p3
      try clear p32
      try clear p328
      try clear p33
      try clear p338
      try clear p6
      try clear p64
      try clear q1
      try clear q14
      try clear q141
      try clear q3
      try clear q32
      try clear q328
      try clear q33
      try clear q338
      obtain ⟨x200_4, rfl, HA, HK4, HO_198, HO_289000, HO_295000, HO_301000, HO_325000, BK288, BK294, BK300, BK324, HB⟩ := hrel
      cases gk with
      | zero => exact absurd HA.out (by simp [laws_FnSketch.l1])
      | succ k4 =>
       have H := HA.out
       clear HA
       simp only [laws_FnSketch.l1] at H
       by_cases c182 : x200_4 < (x25_120.length : Int)
       ·rw [if_pos c182] at H
        have c182b0 : decide (x200_4 < (x25_120.length : Int)) = true := decide_eq_true c182
        clear c182
        by_cases c183 : 0 ≤ x200_4
        ·rw [if_pos c183] at H
         have c183b0 : decide (0 ≤ x200_4) = true := decide_eq_true c183
         clear c183
         by_cases c184 : x200_4 < (x25_120.length : Int)
         ·rw [if_pos c184] at H
          have c184b0 : decide (x200_4 < (x25_120.length : Int)) = true := decide_eq_true c184
          clear c184
          obtain ⟨y341, hy341⟩ : ∃ y_ : List Int, y_ = (([(wrap64 (97 + x200_4)) % 256] : List Int)) := ⟨_, rfl⟩
          replace H : (if 4 + (strOfNums y341).size ≤ 9223372036854775807 then ((impl_EstimateOf.f k4 x325000_120 x325001_120 ((⟨#[107, 101, 121, 45]⟩ : ByteArray) ++ (strOfNums y341))).bind fun bt344 => (if bt344.2 = true then (if bt344.1 < (rd x25_120 x200_4) then (some false) else (if bt344.1 > x325001_120 then (some false) else (laws_FnSketch.l1 k4 x25_120 (x25_120.length : Int) (wrap64 (x200_4 + 1)) x325000_120 x325001_120))) else (some false))) else (none)) = some r := by first | (rw [hy341]; with_reducible exact H) | (have H2_ := (Option.bind_some _ _).symm.trans H; rw [hy341]; with_reducible exact H2_) | (have H2_ := (Option.bind_some _ _).symm.trans H; with_reducible exact H2_) | with_reducible exact H | (rw [hy341]; exact H) | exact H
          have Ny341 := Aside0.mk hy341
          clear hy341
          by_cases c185 : 4 + (strOfNums y341).size ≤ 9223372036854775807
          ·rw [if_pos c185] at H
           have c185b0 := eq_true c185
           have c185b1 : decide (4 + (strOfNums y341).size ≤ 9223372036854775807) = true := decide_eq_true c185
           try have c185b2 : (9223372036854775807 < 4 + (strOfNums y341).size) = False := eq_false (Nat.not_lt.2 c185)
           replace H := Option.bind_eq_some_iff.mp H
           obtain ⟨⟨t344, t345⟩, A1860, H⟩ := H
           replace H : (if t345 = true then (if t344 < (rd x25_120 x200_4) then (some false) else (if t344 > x325001_120 then (some false) else (laws_FnSketch.l1 k4 x25_120 (x25_120.length : Int) (wrap64 (x200_4 + 1)) x325000_120 x325001_120))) else (some false)) = some r := H
           have A186 := Aside0.mk A1860
           clear A1860
           by_cases c187 : t345 = true
           ·subst c187
            have H1 : (if t344 < (rd x25_120 x200_4) then (some false) else (if t344 > x325001_120 then (some false) else (laws_FnSketch.l1 k4 x25_120 (x25_120.length : Int) (wrap64 (x200_4 + 1)) x325000_120 x325001_120))) = some r := by rw [if_pos rfl] at H; exact H
            clear H
            have H := H1
            clear H1
            by_cases c188 : t344 < (rd x25_120 x200_4)
            ·rw [if_pos c188] at H
             have c188b0 : decide (t344 < (rd x25_120 x200_4)) = true := decide_eq_true c188
             clear c188
             obtain rfl := Option.some.inj H
             have p340 : 0 ≤ (x200_4 : Int) := of_decide_eq_true (by first | (with_reducible assumption) | assumption)
             have q340 : x200_4 < (x25_120.length : Int) := of_decide_eq_true (by first | (with_reducible assumption) | assumption)
             obtain ⟨ad340, e340, hx340_0⟩ := Kd.at_int (Kd.R_reads' HO_198.out).2.2 x200_4 p340 q340
             cases e340
             replace p340 := eq_true p340
             replace q340 := eq_true q340
             have hnb189 := NB324_288.out
             have hnc189 := NB288_324.out
             have hnb190 := NB324_294.out
             have hnc190 := NB294_324.out
             have hnb191 := NB324_300.out
             have hnc191 := NB300_324.out
             have hcz192_0 : wr.cell? ⟨gb324, 0, none⟩ = some (u325000) := xk_ BK324 0
             have hcz192_1 : wr.cell? ⟨gb324, 1, none⟩ = some (.int .i64 x325001_120) := xk_ BK324 1
             have hfz192_0 := blk_frozen BK324.out 0
             have hfz192_1 := blk_frozen BK324.out 1
             go_wp2_with (first | ((with_reducible refine gate_dst (N := 210) rfl ?_); refine Kd.R_lit (Kd.int .u8) _ 5 ?hg (N := 210) ?hd (xs := ([(wrap64 (97 + x200_4)) % 256] : List Int)) (inner := [.int .u8 ((wrap64 (97 + x200_4)) % 256)]) (ok := fun _ => True) (okp := fun _ => True) ?hr ?hp (fun _ hk => hk) trivial (Below.refl _ _) (Nat.le_refl _) (by simp) ?_; (case hd => rfl); (case hg => rfl); (case hr => first | (go_simp; done) | (go_simp; rfl)); (case hp => exact (Reps.one (show Kd.M (Kd.int .u8) _ _ _ ((wrap64 (97 + x200_4)) % 256) [.int .u8 ((wrap64 (97 + x200_4)) % 256)] from rfl) (Reps.none _ _))); intro v342 w193 ho194 hb hg_ hnew_; clear hg_ hnew_; (first | rw [← Ny341.out] at ho194 | (simp only [Int.reduceToNat] at ho194; rw [← Ny341.out] at ho194)); replace HO_198 := xrb_ HO_198 hb; replace HO_289000 := xqb_ HO_289000 hb; replace HO_295000 := xqb_ HO_295000 hb; replace HO_301000 := xqb_ HO_301000 hb; replace HO_325000 := xqb_ HO_325000 hb; have HO343 := Aside0.mk (Kd.R_lower ho194 (below_size (xw_ HB))); replace BK288 := xbb_ BK288 hb; replace BK294 := xbb_ BK294 hb; replace BK300 := xbb_ BK300 hb; replace BK324 := xbb_ BK324 hb; replace HB := xws_ HB hb; clear hb ho194; have hcv195 := own_string (P := Try.prog) Try.underlying22 Try.underlying5 Try.underlying9 (Kd.own_of_R HO343.out); obtain ⟨Ao196, co196, eo196, _⟩ := Kd.Q_slice HO_325000.out; subst eo196) | ((with_reducible refine gate_callee (f := 11) rfl ?_); refine xgl_ (some 213) Try.func11 #[.agg #[.slice Ao196 x325000_120.length co196, .int .i64 x325001_120], .string ((⟨#[107, 101, 121, 45]⟩ : ByteArray) ++ (strOfNums y341))] ?_; (with_reducible refine (impl_EstimateOf.calls k4 _ _ x325000_120 x325001_120 ((⟨#[107, 101, 121, 45]⟩ : ByteArray) ++ (strOfNums y341)) t344 true _ ?side1 ?side2 A186.out).mono ?_); (case side1 => exact xc_ ((Kd.Q_reads' HO_325000.out).2.2)); (case side2 => exact (Kd.Q_reads' HO_325000.out).2.1); rintro e w197 ⟨rfl, hb⟩; refine ⟨_, rfl, ?_⟩; replace HO_198 := xrb_ HO_198 hb; replace HO_289000 := xqb_ HO_289000 hb; replace HO_295000 := xqb_ HO_295000 hb; replace HO_301000 := xqb_ HO_301000 hb; replace HO_325000 := xqb_ HO_325000 hb; replace HO343 := xrb_ HO343 hb; replace BK288 := xbb_ BK288 hb; replace BK294 := xbb_ BK294 hb; replace BK300 := xbb_ BK300 hb; replace BK324 := xbb_ BK324 hb; replace HB := xws_ HB hb; (try clear hb); (try clear hb2); (try clear hk); (try clear hi)))
             go_ret
             exact ⟨by first | rfl | (simp [errW_none, errW_some] <;> rfl) | (simp [*, errW_none, errW_some] <;> rfl), xw_ HB⟩
            ·rw [if_neg c188] at H
             have c188b0 : decide (t344 < (rd x25_120 x200_4)) = false := decide_eq_false c188
             clear c188
             by_cases c198 : t344 > x325001_120
             ·rw [if_pos c198] at H
              have c198b0 : decide (x325001_120 < t344) = true := decide_eq_true c198
              clear c198
              obtain rfl := Option.some.inj H
              have p340 : 0 ≤ (x200_4 : Int) := of_decide_eq_true (by first | (with_reducible assumption) | assumption)
              have q340 : x200_4 < (x25_120.length : Int) := of_decide_eq_true (by first | (with_reducible assumption) | assumption)
              obtain ⟨ad340, e340, hx340_0⟩ := Kd.at_int (Kd.R_reads' HO_198.out).2.2 x200_4 p340 q340
              cases e340
              replace p340 := eq_true p340
              replace q340 := eq_true q340
              have hnb199 := NB324_288.out
              have hnc199 := NB288_324.out
              have hnb200 := NB324_294.out
              have hnc200 := NB294_324.out
              have hnb201 := NB324_300.out
              have hnc201 := NB300_324.out
              have hcz202_0 : wr.cell? ⟨gb324, 0, none⟩ = some (u325000) := xk_ BK324 0
              have hcz202_1 : wr.cell? ⟨gb324, 1, none⟩ = some (.int .i64 x325001_120) := xk_ BK324 1
              have hfz202_0 := blk_frozen BK324.out 0
              have hfz202_1 := blk_frozen BK324.out 1
              go_wp2_with (first | ((with_reducible refine gate_dst (N := 210) rfl ?_); refine Kd.R_lit (Kd.int .u8) _ 5 ?hg (N := 210) ?hd (xs := ([(wrap64 (97 + x200_4)) % 256] : List Int)) (inner := [.int .u8 ((wrap64 (97 + x200_4)) % 256)]) (ok := fun _ => True) (okp := fun _ => True) ?hr ?hp (fun _ hk => hk) trivial (Below.refl _ _) (Nat.le_refl _) (by simp) ?_; (case hd => rfl); (case hg => rfl); (case hr => first | (go_simp; done) | (go_simp; rfl)); (case hp => exact (Reps.one (show Kd.M (Kd.int .u8) _ _ _ ((wrap64 (97 + x200_4)) % 256) [.int .u8 ((wrap64 (97 + x200_4)) % 256)] from rfl) (Reps.none _ _))); intro v342 w203 ho204 hb hg_ hnew_; clear hg_ hnew_; (first | rw [← Ny341.out] at ho204 | (simp only [Int.reduceToNat] at ho204; rw [← Ny341.out] at ho204)); replace HO_198 := xrb_ HO_198 hb; replace HO_289000 := xqb_ HO_289000 hb; replace HO_295000 := xqb_ HO_295000 hb; replace HO_301000 := xqb_ HO_301000 hb; replace HO_325000 := xqb_ HO_325000 hb; have HO343 := Aside0.mk (Kd.R_lower ho204 (below_size (xw_ HB))); replace BK288 := xbb_ BK288 hb; replace BK294 := xbb_ BK294 hb; replace BK300 := xbb_ BK300 hb; replace BK324 := xbb_ BK324 hb; replace HB := xws_ HB hb; clear hb ho204; have hcv205 := own_string (P := Try.prog) Try.underlying22 Try.underlying5 Try.underlying9 (Kd.own_of_R HO343.out); obtain ⟨Ao206, co206, eo206, _⟩ := Kd.Q_slice HO_325000.out; subst eo206) | ((with_reducible refine gate_callee (f := 11) rfl ?_); refine xgl_ (some 213) Try.func11 #[.agg #[.slice Ao206 x325000_120.length co206, .int .i64 x325001_120], .string ((⟨#[107, 101, 121, 45]⟩ : ByteArray) ++ (strOfNums y341))] ?_; (with_reducible refine (impl_EstimateOf.calls k4 _ _ x325000_120 x325001_120 ((⟨#[107, 101, 121, 45]⟩ : ByteArray) ++ (strOfNums y341)) t344 true _ ?side1 ?side2 A186.out).mono ?_); (case side1 => exact xc_ ((Kd.Q_reads' HO_325000.out).2.2)); (case side2 => exact (Kd.Q_reads' HO_325000.out).2.1); rintro e w207 ⟨rfl, hb⟩; refine ⟨_, rfl, ?_⟩; replace HO_198 := xrb_ HO_198 hb; replace HO_289000 := xqb_ HO_289000 hb; replace HO_295000 := xqb_ HO_295000 hb; replace HO_301000 := xqb_ HO_301000 hb; replace HO_325000 := xqb_ HO_325000 hb; replace HO343 := xrb_ HO343 hb; replace BK288 := xbb_ BK288 hb; replace BK294 := xbb_ BK294 hb; replace BK300 := xbb_ BK300 hb; replace BK324 := xbb_ BK324 hb; replace HB := xws_ HB hb; (try clear hb); (try clear hb2); (try clear hk); (try clear hi); have hcz208_0 : w207.cell? ⟨gb324, 0, none⟩ = some (.slice Ao206 x325000_120.length co206) := xk_ BK324 0; have hcz208_1 : w207.cell? ⟨gb324, 1, none⟩ = some (.int .i64 x325001_120) := xk_ BK324 1; have hfz208_0 := blk_frozen BK324.out 0; have hfz208_1 := blk_frozen BK324.out 1))
              go_ret
              exact ⟨by first | rfl | (simp [errW_none, errW_some] <;> rfl) | (simp [*, errW_none, errW_some] <;> rfl), xw_ HB⟩
             ·rw [if_neg c198] at H
              have c198b0 : decide (x325001_120 < t344) = false := decide_eq_false c198
              clear c198
              have H' := Aside0.mk H
              clear H
              have p340 : 0 ≤ (x200_4 : Int) := of_decide_eq_true (by first | (with_reducible assumption) | assumption)
              have q340 : x200_4 < (x25_120.length : Int) := of_decide_eq_true (by first | (with_reducible assumption) | assumption)
              obtain ⟨ad340, e340, hx340_0⟩ := Kd.at_int (Kd.R_reads' HO_198.out).2.2 x200_4 p340 q340
              cases e340
              replace p340 := eq_true p340
              replace q340 := eq_true q340
              have hnb209 := NB324_288.out
              have hnc209 := NB288_324.out
              have hnb210 := NB324_294.out
              have hnc210 := NB294_324.out
              have hnb211 := NB324_300.out
              have hnc211 := NB300_324.out
              have hcz212_0 : wr.cell? ⟨gb324, 0, none⟩ = some (u325000) := xk_ BK324 0
              have hcz212_1 : wr.cell? ⟨gb324, 1, none⟩ = some (.int .i64 x325001_120) := xk_ BK324 1
              have hfz212_0 := blk_frozen BK324.out 0
              have hfz212_1 := blk_frozen BK324.out 1
              go_wp2_with (first | ((with_reducible refine gate_dst (N := 210) rfl ?_); refine Kd.R_lit (Kd.int .u8) _ 5 ?hg (N := 210) ?hd (xs := ([(wrap64 (97 + x200_4)) % 256] : List Int)) (inner := [.int .u8 ((wrap64 (97 + x200_4)) % 256)]) (ok := fun _ => True) (okp := fun _ => True) ?hr ?hp (fun _ hk => hk) trivial (Below.refl _ _) (Nat.le_refl _) (by simp) ?_; (case hd => rfl); (case hg => rfl); (case hr => first | (go_simp; done) | (go_simp; rfl)); (case hp => exact (Reps.one (show Kd.M (Kd.int .u8) _ _ _ ((wrap64 (97 + x200_4)) % 256) [.int .u8 ((wrap64 (97 + x200_4)) % 256)] from rfl) (Reps.none _ _))); intro v342 w213 ho214 hb hg_ hnew_; clear hg_ hnew_; (first | rw [← Ny341.out] at ho214 | (simp only [Int.reduceToNat] at ho214; rw [← Ny341.out] at ho214)); replace HO_198 := xrb_ HO_198 hb; replace HO_289000 := xqb_ HO_289000 hb; replace HO_295000 := xqb_ HO_295000 hb; replace HO_301000 := xqb_ HO_301000 hb; replace HO_325000 := xqb_ HO_325000 hb; have HO343 := Aside0.mk (Kd.R_lower ho214 (below_size (xw_ HB))); replace BK288 := xbb_ BK288 hb; replace BK294 := xbb_ BK294 hb; replace BK300 := xbb_ BK300 hb; replace BK324 := xbb_ BK324 hb; replace HB := xws_ HB hb; clear hb ho214; have hcv215 := own_string (P := Try.prog) Try.underlying22 Try.underlying5 Try.underlying9 (Kd.own_of_R HO343.out); obtain ⟨Ao216, co216, eo216, _⟩ := Kd.Q_slice HO_325000.out; subst eo216) | ((with_reducible refine gate_callee (f := 11) rfl ?_); refine xgl_ (some 213) Try.func11 #[.agg #[.slice Ao216 x325000_120.length co216, .int .i64 x325001_120], .string ((⟨#[107, 101, 121, 45]⟩ : ByteArray) ++ (strOfNums y341))] ?_; (with_reducible refine (impl_EstimateOf.calls k4 _ _ x325000_120 x325001_120 ((⟨#[107, 101, 121, 45]⟩ : ByteArray) ++ (strOfNums y341)) t344 true _ ?side1 ?side2 A186.out).mono ?_); (case side1 => exact xc_ ((Kd.Q_reads' HO_325000.out).2.2)); (case side2 => exact (Kd.Q_reads' HO_325000.out).2.1); rintro e w217 ⟨rfl, hb⟩; refine ⟨_, rfl, ?_⟩; replace HO_198 := xrb_ HO_198 hb; replace HO_289000 := xqb_ HO_289000 hb; replace HO_295000 := xqb_ HO_295000 hb; replace HO_301000 := xqb_ HO_301000 hb; replace HO_325000 := xqb_ HO_325000 hb; replace HO343 := xrb_ HO343 hb; replace BK288 := xbb_ BK288 hb; replace BK294 := xbb_ BK294 hb; replace BK300 := xbb_ BK300 hb; replace BK324 := xbb_ BK324 hb; replace HB := xws_ HB hb; (try clear hb); (try clear hb2); (try clear hk); (try clear hi); have hcz218_0 : w217.cell? ⟨gb324, 0, none⟩ = some (.slice Ao216 x325000_120.length co216) := xk_ BK324 0; have hcz218_1 : w217.cell? ⟨gb324, 1, none⟩ = some (.int .i64 x325001_120) := xk_ BK324 1; have hfz218_0 := blk_frozen BK324.out 0; have hfz218_1 := blk_frozen BK324.out 1))
              go_roundg k4
              case measure => have := HJ6.out; have := HJ39.out; have := HJ120.out; have := HK4.out; omega
              case rel => exact ⟨(wrap64 (x200_4 + 1)), (by first | rfl | (simp; done) | (simp [*]; done)), H', ⟨by have := HJ6.out; have := HJ39.out; have := HJ120.out; have := HK4.out; omega⟩, ⟨xr_ HO_198⟩, ⟨xq_ HO_289000⟩, ⟨xq_ HO_295000⟩, ⟨xq_ HO_301000⟩, ⟨xq_ HO_325000⟩, ⟨xb_ BK288⟩, ⟨xb_ BK294⟩, ⟨xb_ BK300⟩, ⟨xb_ BK324⟩, ⟨xw_ HB⟩⟩
           ·replace c187 := Bool.eq_false_iff.mpr c187
            subst c187
            have H1 : (some false) = some r := by rw [if_neg (show ¬ (false = true) by decide)] at H; exact H
            clear H
            have H := H1
            clear H1
            obtain rfl := Option.some.inj H
            have p340 : 0 ≤ (x200_4 : Int) := of_decide_eq_true (by first | (with_reducible assumption) | assumption)
            have q340 : x200_4 < (x25_120.length : Int) := of_decide_eq_true (by first | (with_reducible assumption) | assumption)
            obtain ⟨ad340, e340, hx340_0⟩ := Kd.at_int (Kd.R_reads' HO_198.out).2.2 x200_4 p340 q340
            cases e340
            replace p340 := eq_true p340
            replace q340 := eq_true q340
            have hnb219 := NB324_288.out
            have hnc219 := NB288_324.out
            have hnb220 := NB324_294.out
            have hnc220 := NB294_324.out
            have hnb221 := NB324_300.out
            have hnc221 := NB300_324.out
            have hcz222_0 : wr.cell? ⟨gb324, 0, none⟩ = some (u325000) := xk_ BK324 0
            have hcz222_1 : wr.cell? ⟨gb324, 1, none⟩ = some (.int .i64 x325001_120) := xk_ BK324 1
            have hfz222_0 := blk_frozen BK324.out 0
            have hfz222_1 := blk_frozen BK324.out 1
            go_wp2_with (first | ((with_reducible refine gate_dst (N := 210) rfl ?_); refine Kd.R_lit (Kd.int .u8) _ 5 ?hg (N := 210) ?hd (xs := ([(wrap64 (97 + x200_4)) % 256] : List Int)) (inner := [.int .u8 ((wrap64 (97 + x200_4)) % 256)]) (ok := fun _ => True) (okp := fun _ => True) ?hr ?hp (fun _ hk => hk) trivial (Below.refl _ _) (Nat.le_refl _) (by simp) ?_; (case hd => rfl); (case hg => rfl); (case hr => first | (go_simp; done) | (go_simp; rfl)); (case hp => exact (Reps.one (show Kd.M (Kd.int .u8) _ _ _ ((wrap64 (97 + x200_4)) % 256) [.int .u8 ((wrap64 (97 + x200_4)) % 256)] from rfl) (Reps.none _ _))); intro v342 w223 ho224 hb hg_ hnew_; clear hg_ hnew_; (first | rw [← Ny341.out] at ho224 | (simp only [Int.reduceToNat] at ho224; rw [← Ny341.out] at ho224)); replace HO_198 := xrb_ HO_198 hb; replace HO_289000 := xqb_ HO_289000 hb; replace HO_295000 := xqb_ HO_295000 hb; replace HO_301000 := xqb_ HO_301000 hb; replace HO_325000 := xqb_ HO_325000 hb; have HO343 := Aside0.mk (Kd.R_lower ho224 (below_size (xw_ HB))); replace BK288 := xbb_ BK288 hb; replace BK294 := xbb_ BK294 hb; replace BK300 := xbb_ BK300 hb; replace BK324 := xbb_ BK324 hb; replace HB := xws_ HB hb; clear hb ho224; have hcv225 := own_string (P := Try.prog) Try.underlying22 Try.underlying5 Try.underlying9 (Kd.own_of_R HO343.out); obtain ⟨Ao226, co226, eo226, _⟩ := Kd.Q_slice HO_325000.out; subst eo226) | ((with_reducible refine gate_callee (f := 11) rfl ?_); refine xgl_ (some 213) Try.func11 #[.agg #[.slice Ao226 x325000_120.length co226, .int .i64 x325001_120], .string ((⟨#[107, 101, 121, 45]⟩ : ByteArray) ++ (strOfNums y341))] ?_; (with_reducible refine (impl_EstimateOf.calls k4 _ _ x325000_120 x325001_120 ((⟨#[107, 101, 121, 45]⟩ : ByteArray) ++ (strOfNums y341)) t344 false _ ?side1 ?side2 A186.out).mono ?_); (case side1 => exact xc_ ((Kd.Q_reads' HO_325000.out).2.2)); (case side2 => exact (Kd.Q_reads' HO_325000.out).2.1); rintro e w227 ⟨rfl, hb⟩; refine ⟨_, rfl, ?_⟩; replace HO_198 := xrb_ HO_198 hb; replace HO_289000 := xqb_ HO_289000 hb; replace HO_295000 := xqb_ HO_295000 hb; replace HO_301000 := xqb_ HO_301000 hb; replace HO_325000 := xqb_ HO_325000 hb; replace HO343 := xrb_ HO343 hb; replace BK288 := xbb_ BK288 hb; replace BK294 := xbb_ BK294 hb; replace BK300 := xbb_ BK300 hb; replace BK324 := xbb_ BK324 hb; replace HB := xws_ HB hb; (try clear hb); (try clear hb2); (try clear hk); (try clear hi)))
            go_ret
            exact ⟨by first | rfl | (simp [errW_none, errW_some] <;> rfl) | (simp [*, errW_none, errW_some] <;> rfl), xw_ HB⟩
          ·rw [if_neg c185] at H
           exact absurd H (by simp)
         ·rw [if_neg c184] at H
          exact absurd H (by simp)
        ·rw [if_neg c183] at H
         exact absurd H (by simp)
       ·rw [if_neg c182] at H
        have c182b0 : decide (x200_4 < (x25_120.length : Int)) = false := decide_eq_false c182
        clear c182
        obtain rfl := Option.some.inj H
        go_wp2
        go_ret
        exact ⟨by first | rfl | (simp [errW_none, errW_some] <;> rfl) | (simp [*, errW_none, errW_some] <;> rfl), xw_ HB⟩
  ·rw [if_neg c120] at H
   exact absurd H (by simp)

theorem laws_FnSketch.calls2_0 (k : Nat) (A0 : Option Addr) (c0 : Nat) (l0 : List Int) (A1 : Option Addr) (c1 : Nat) (l1 : List Int) (r : Bool) (w : World) :
    laws_FnSketch.calls1.1 k A0 c0 l0 A1 c1 l1 r w := laws_FnSketch.calls2_01.2 k A0 c0 l0 A1 c1 l1 r w ⟨laws_FnSketch.calls2_02_0 k A0 c0 l0 A1 c1 l1 r w⟩
theorem laws_FnSketch.calls (k : Nat) (A0 : Option Addr) (c0 : Nat) (l0 : List Int) (A1 : Option Addr) (c1 : Nat) (l1 : List Int) (r : Bool) (w : World) (hr0 : Kd.C (Kd.int .u8) w A0 l0.length l0) (hc0 : l0.length ≤ c0) (hr1 : Kd.C (Kd.int .u8) w A1 l1.length l1) (hc1 : l1.length ≤ c1) (h : laws_FnSketch.f k l0 l1 = some r) :
    Calls Try.prog 3 #[.slice A0 l0.length c0, .slice A1 l1.length c1] w fun e w' => e = .returned (.bool r) ∧ Below w.heap.size w w' := laws_FnSketch.calls1.2 k A0 c0 l0 A1 c1 l1 r w hr0 hc0 hr1 hc1 h ⟨laws_FnSketch.calls2_0 k A0 c0 l0 A1 c1 l1 r w⟩
/-- THE ONE PURE STATEMENT of laws_FnSketch: yours. -/
def laws_FnSketch.Pure : Prop := ∀ (l0 : List Int) (l1 : List Int), l0.length ≤ maxLen → l0.length * 1 ≤ 140737488351232 → (∀ x ∈ l0, (Lit.int .u8 x).wf = true) → l1.length ≤ maxLen → l1.length * 1 ≤ 140737488351232 → (∀ x ∈ l1, (Lit.int .u8 x).wf = true) → ∃ k, laws_FnSketch.f k l0 l1 = some true
theorem laws_FnSketch.walk (P : laws_FnSketch.Pure) (a0 : Option Addr) (len0 cap0 : Nat) (z0 : List Int) (a1 : Option Addr) (len1 cap1 : Nat) (z1 : List Int) (w : World) (w0 : (a0 = none ∧ len0 = 0 ∧ cap0 = 0 ∧ z0 = []) ∨ ∃ x, a0 = some x ∧ len0 ≤ cap0 ∧ cap0 ≤ maxLen ∧ z0.length = cap0 ∧ (∀ i, i < z0.length → w.cell? (x.add i) = some (.int .u8 (z0.getD i 0))) ∧ ∀ n ∈ z0, (Lit.int .u8 n).wf = true) (y0 : len0 * 1 ≤ 140737488351232) (w1 : (a1 = none ∧ len1 = 0 ∧ cap1 = 0 ∧ z1 = []) ∨ ∃ x, a1 = some x ∧ len1 ≤ cap1 ∧ cap1 ≤ maxLen ∧ z1.length = cap1 ∧ (∀ i, i < z1.length → w.cell? (x.add i) = some (.int .u8 (z1.getD i 0))) ∧ ∀ n ∈ z1, (Lit.int .u8 n).wf = true) (y1 : len1 * 1 ≤ 140737488351232) :
  Calls Try.prog 3 #[.slice a0 len0 cap0, .slice a1 len1 cap1] w fun e w' => e = .returned (.bool true) ∧ Below w.heap.size w w' := by
 obtain ⟨l0, rfl, hr0, hm0, hw0, hc0⟩ := ReadsInt.ofRowC w0
 obtain ⟨l1, rfl, hr1, hm1, hw1, hc1⟩ := ReadsInt.ofRowC w1
 obtain ⟨k, h⟩ := P l0 l1 hm0 y0 hw0 hm1 y1 hw1
 refine (laws_FnSketch.calls k _ _ l0 _ _ l1 true w (Kd.C_of_reads (d := (0 : Int)) (h1 := fun _ => rfl) hr0) hc0 (Kd.C_of_reads (d := (0 : Int)) (h1 := fun _ => rfl) hr1) hc1 h).mono ?_
 rintro e w' ⟨rfl, hd⟩
 exact ⟨rfl, hd⟩

end Go.Proofs.Ytemeajidcggniaa.PFnSketch
