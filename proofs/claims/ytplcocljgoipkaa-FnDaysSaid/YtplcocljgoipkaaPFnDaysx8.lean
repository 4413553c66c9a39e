-- Written by a program of this project (xprint.py) out of the translation; Lean checks it.
import Derived.Test.YtplcocljgoipkaaPFnDaysx0
import Derived.Test.YtplcocljgoipkaaPFnDaysx1
import Derived.Test.YtplcocljgoipkaaPFnDaysx2
import Derived.Test.YtplcocljgoipkaaPFnDaysx3
import Derived.Test.YtplcocljgoipkaaPFnDaysx4
import Derived.Test.YtplcocljgoipkaaPFnDaysx6
import Derived.Test.YtplcocljgoipkaaPFnDaysx7
namespace Go.Proofs.Ytplcocljgoipkaa.PFnDays
open Go.RowKit Go.Proofs.YtplcocljgoipkaaW.PrintWords Go.Proofs.YtplcocljgoipkaaW.PrintLast Go.Proofs.YtplcocljgoipkaaW.PrintMore
attribute [local go_sem] max2_int min2_int max_two min_two max_three min_three max_four min_four   -- for this text's walks alone
set_option linter.unusedVariables false
set_option linter.unusedSimpArgs false

attribute [local go_sem high] eqA24
set_option maxHeartbeats 8000000 in
set_option maxRecDepth 100000 in
theorem laws_FnDays.calls2_0 (k : Nat) (A0 : Option Addr) (c0 : Nat) (l0 : List Int) (A1 : Option Addr) (c1 : Nat) (l1 : List Int) (r : Bool) (w : World) :
  laws_FnDays.calls1.1 k A0 c0 l0 A1 c1 l1 r w := by
  conv => whnf
  intro hu24 HR0 HC0 HR1 HC1 t263 t264 t265 t266 t267 t268 A4 t270 t272 t273 A6 zz0_0 w8 gb269 w9 GW269 GE269 w11 w13 zz0_1 zz0_2 zz0_3 zz0_4 zz0_5 zz0_6 zz0_7 zz0_8 zz0_9 zz0_10 zz0_11 zz0_12 zz0_13 zz0_14 zz0_15 zz0_16 zz0_17 zz0_18 zz0_19 zz0_20 zz0_21 zz0_22 zz0_23 zz0_24 zz0_25 zz0_26 zz0_27 zz0_28 zz0_29 zz0_30 zz0_31 zz0_32 zz0_33 zz0_34 zz0_35 zz0_36 zz0_37 zz0_38 zz0_39 zz0_40 zz0_41 zz0_42 zz0_43 zz0_44 zz0_45 zz0_46 zz0_47 zz0_48 zz0_49 zz0_50 zz0_51 zz0_52 zz0_53 zz0_54 zz0_55 zz0_56 zz0_57 zz0_58 zz0_59 zz0_60 zz0_61 zz0_62 zz0_63 zz0_64 zz0_65 zz0_66 u96 zz0_67 zz0_68 zz0_69 zz0_70 zz0_71 zz0_72 zz0_73 zz0_74 zz0_75 zz0_76 zz0_77 zz0_78 zz0_79 zz0_80 zz0_81 zz0_82 zz0_83 zz0_84 zz0_85 zz0_86 zz0_87 zz0_88 zz0_89 zz0_90 zz0_91 zz0_92 zz0_93 zz0_94 zz0_95 zz0_96 zz0_97 zz0_98 zz0_99 zz0_100 zz0_101 zz0_102 zz0_103 zz0_104 zz0_105 zz0_106 zz0_107 zz0_108 zz0_109 zz0_110 zz0_111 zz0_112 zz0_113 zz0_114 zz0_115 zz0_116 zz0_117 zz0_118 zz0_119 zz0_120 zz0_121 zz0_122 zz0_123 zz0_124 zz0_125 zz0_126 zz0_127 zz0_128 zz0_129 zz0_130 zz0_131 zz0_132 zz0_133 zz0_134 zz0_135 zz0_136 zz0_137 zz0_138 zz0_139 zz0_140 zz0_141 zz0_142 zz0_143 zz0_144 zz0_145 zz0_146 zz0_147 zz0_148 zz0_149 zz0_150 zz0_151 zz0_152 zz0_153 zz0_154 zz0_155 zz0_156 zz0_157 zz0_158 zz0_159 zz0_160 zz0_161 zz0_162 zz0_163 zz0_164 zz0_165 zz0_166 zz0_167 zz0_168 zz0_169 zz0_170 zz0_171 kj6 HJ6 zz0_172 zz0_173 zz0_174 zz0_175 zz0_176 A5 zz0_177 t275 t276 t277 t278 t279 t280 t281 A22 t283 t284 A23 w25 gb282 w26 GW282 GE282 NB269_282 NB282_269 hnb27 hnc27 w30 zz0_178 zz0_179 zz0_180 zz0_181 zz0_182 zz0_183 zz0_184 wc u32 u33 u34 u35 u36 u37 u38 u39 u40 u41 u42 u43 u44 u45 u46 u47 u48 u49 u50 u51 u52 u53 u54 u55 u56 u57 u58 u59 u60 u61 u62 u63 u64 u65 u66 u67 u68 u69 u70 u71 u72 u73 u74 u75 u76 u77 u78 u79 u80 u81 u82 u83 u84 u85 u86 u87 u88 u89 u90 u91 u92 u93 u94 u95 u97 u98 u99 u100 u101 u102 u103 u104 u105 u106 u107 u108 u109 u110 u111 u112 u113 u114 u115 u116 u117 u118 u119 u120 u121 u122 u123 u124 u125 u126 u127 u128 u129 u130 u131 u132 u133 u134 u135 u136 u137 u138 u139 u140 u141 u142 u143 u144 u145 u146 u147 u148 u149 u150 u151 u152 u153 u154 u155 u156 u157 u158 u159 u160 u161 u162 u163 u164 u165 u166 u167 u168 u169 u170 u171 u172 u173 u174 u175 u176 u177 u178 u179 u180 u181 u182 u183 u184 u185 u186 u187 u188 u189 u190 u191 u192 u193 u194 u195 u196 u197 u198 u199 u200 u201 kq x96_23 HA HJ23 BK269 BK282 HB
  cases kq with
  | zero => exact absurd HA.out (by simp [laws_FnDays.j1])
  | succ kj23 =>
    have H := HA.out
    clear HA
    simp only [laws_FnDays.j1] at H
    by_cases c40 : x96_23 = true
    · subst c40
      have H1 : (some false) = some r := by rw [if_pos rfl] at H; exact H
      clear H
      have H := H1
      clear H1
      obtain rfl := Option.some.inj H
      go_wp2
      go_ret
      exact ⟨by first | rfl | (simp [errW_none, errW_some] <;> rfl) | (simp [*, errW_none, errW_some] <;> rfl), by repeat (first | (with_reducible first | exact HB.out | apply below_alloc | apply pw_below_drewN | apply below_drew1 | refine below_set ?_ GE269.out | refine below_set ?_ GE282.out) | exact HB.out)⟩
    · replace c40 := Bool.eq_false_iff.mpr c40
      subst c40
      have H1 : ((impl_WeekdayOf.f t283).bind fun bt285 => ((impl_WeekdayOf.f (wrap64 (t283 + 1))).bind fun bt287 => (if bt285.2 = true then (if bt287.2 = true then (laws_FnDays.j2 kj23 l1 (bt287.1 != (Int.tmod (wrap64 (bt285.1 + 1)) 7)) t263 t264 t265 t266 t267 t268) else (laws_FnDays.j2 kj23 l1 false t263 t264 t265 t266 t267 t268)) else (laws_FnDays.j2 kj23 l1 true t263 t264 t265 t266 t267 t268)))) = some r := by rw [if_neg (show ¬ (false = true) by decide)] at H; exact H
      clear H
      have H := H1
      clear H1
      replace H := Option.bind_eq_some_iff.mp H
      obtain ⟨⟨t285, t286⟩, A410, H⟩ := H
      replace H : ((impl_WeekdayOf.f (wrap64 (t283 + 1))).bind fun bt287 => (if t286 = true then (if bt287.2 = true then (laws_FnDays.j2 kj23 l1 (bt287.1 != (Int.tmod (wrap64 (t285 + 1)) 7)) t263 t264 t265 t266 t267 t268) else (laws_FnDays.j2 kj23 l1 false t263 t264 t265 t266 t267 t268)) else (laws_FnDays.j2 kj23 l1 true t263 t264 t265 t266 t267 t268))) = some r := H
      have A41 := Aside0.mk A410
      clear A410
      replace H := Option.bind_eq_some_iff.mp H
      obtain ⟨⟨t287, t288⟩, A420, H⟩ := H
      replace H : (if t286 = true then (if t288 = true then (laws_FnDays.j2 kj23 l1 (t287 != (Int.tmod (wrap64 (t285 + 1)) 7)) t263 t264 t265 t266 t267 t268) else (laws_FnDays.j2 kj23 l1 false t263 t264 t265 t266 t267 t268)) else (laws_FnDays.j2 kj23 l1 true t263 t264 t265 t266 t267 t268)) = some r := H
      have A42 := Aside0.mk A420
      clear A420
      have HC43 := Aside0.mk H
      clear H
      go_upto_region 15 with (first | ((with_reducible refine gate_callee (f := 11) rfl ?_); refine goesL_ (some 99) rfl rfl Try.func11 (by kernel_rfl) rfl #[.int .i64 t283] rfl (by (try simp only [List.map_toArray, List.map_cons, List.map_nil]); first | done | rfl | (simp only [List.length_drop, List.length_take]; rfl)) ?_; (with_reducible refine (impl_WeekdayOf.calls t283 t285 t286 _ A41.out).mono ?_); rintro e w' ⟨rfl, ⟨nd, rfl⟩⟩; refine ⟨_, rfl, ?_⟩) | ((with_reducible refine gate_callee (f := 11) rfl ?_); refine goesL_ (some 105) rfl rfl Try.func11 (by kernel_rfl) rfl #[.int .i64 (wrap64 (t283 + 1))] rfl (by (try simp only [List.map_toArray, List.map_cons, List.map_nil]); first | done | rfl | (simp only [List.length_drop, List.length_take]; rfl)) ?_; (with_reducible refine (impl_WeekdayOf.calls (wrap64 (t283 + 1)) t287 t288 _ A42.out).mono ?_); rintro e w' ⟨rfl, ⟨nd, rfl⟩⟩; refine ⟨_, rfl, ?_⟩))
      (try simp only [Act.put, List.setIfInBounds_toArray, List.set_cons_zero, List.set_cons_succ])
      go_cut [119] (fun v119 wc => ∃ (kq : Nat) (x119_42 : Bool), v119 = .bool x119_42 ∧ Aside0 (laws_FnDays.j2 kq l1 x119_42 t263 t264 t265 t266 t267 t268 = some r) ∧ Aside0 (kq ≤ kj23) ∧ Aside0 (wc.heap[gb269]? = some (.cells #[.int .i64 t263, .int .i64 t264, .int .i64 t265, .int .i64 t266, .int .i64 t267, .int .i64 t268] 24 (0, 0))) ∧ Aside0 (wc.heap[gb282]? = some (.cells #[.int .i64 t275, .int .i64 t276, .int .i64 t277, .int .i64 t278, .int .i64 t279, .int .i64 t280] 24 (0, 0))) ∧ Aside0 (Below w.heap.size w wc))
      case first =>
        have H := HC43.out
        clear HC43
        by_cases c44 : t286 = true
        · subst c44
          have H1 : (if t288 = true then (laws_FnDays.j2 kj23 l1 (t287 != (Int.tmod (wrap64 (t285 + 1)) 7)) t263 t264 t265 t266 t267 t268) else (laws_FnDays.j2 kj23 l1 false t263 t264 t265 t266 t267 t268)) = some r := by rw [if_pos rfl] at H; exact H
          clear H
          have H := H1
          clear H1
          by_cases c45 : t288 = true
          · subst c45
            have H1 : (laws_FnDays.j2 kj23 l1 (t287 != (Int.tmod (wrap64 (t285 + 1)) 7)) t263 t264 t265 t266 t267 t268) = some r := by rw [if_pos rfl] at H; exact H
            clear H
            have H := H1
            clear H1
            have H' := Aside0.mk H
            clear H
            go_wp2
            go_meet
            case rel => exact ⟨_, ((t287 != (Int.tmod (wrap64 (t285 + 1)) 7))), (by first | rfl | (simp; done) | (simp [*]; done)), H', ⟨by have := HJ6.out; have := HJ23.out; first | omega | exact Nat.le_refl _⟩, ⟨by (with_reducible repeat (first | refine blk_drewN ?_ _ | refine blk_drew ?_ | refine blk_alloc ?_ _)); exact BK269.out⟩, ⟨by (with_reducible repeat (first | refine blk_drewN ?_ _ | refine blk_drew ?_ | refine blk_alloc ?_ _)); exact BK282.out⟩, ⟨by repeat (first | (with_reducible first | exact HB.out | apply below_alloc | apply pw_below_drewN | apply below_drew1 | refine below_set ?_ GE269.out | refine below_set ?_ GE282.out) | exact HB.out)⟩⟩
          · replace c45 := Bool.eq_false_iff.mpr c45
            subst c45
            have H1 : (laws_FnDays.j2 kj23 l1 false t263 t264 t265 t266 t267 t268) = some r := by rw [if_neg (show ¬ (false = true) by decide)] at H; exact H
            clear H
            have H := H1
            clear H1
            have H' := Aside0.mk H
            clear H
            go_wp2
            go_meet
            case rel => exact ⟨_, (false), (by first | rfl | (simp; done) | (simp [*]; done)), H', ⟨by have := HJ6.out; have := HJ23.out; first | omega | exact Nat.le_refl _⟩, ⟨by (with_reducible repeat (first | refine blk_drewN ?_ _ | refine blk_drew ?_ | refine blk_alloc ?_ _)); exact BK269.out⟩, ⟨by (with_reducible repeat (first | refine blk_drewN ?_ _ | refine blk_drew ?_ | refine blk_alloc ?_ _)); exact BK282.out⟩, ⟨by repeat (first | (with_reducible first | exact HB.out | apply below_alloc | apply pw_below_drewN | apply below_drew1 | refine below_set ?_ GE269.out | refine below_set ?_ GE282.out) | exact HB.out)⟩⟩
        · replace c44 := Bool.eq_false_iff.mpr c44
          subst c44
          have H1 : (laws_FnDays.j2 kj23 l1 true t263 t264 t265 t266 t267 t268) = some r := by rw [if_neg (show ¬ (false = true) by decide)] at H; exact H
          clear H
          have H := H1
          clear H1
          have H' := Aside0.mk H
          clear H
          go_wp2
          go_meet
          case rel => exact ⟨_, (true), (by first | rfl | (simp; done) | (simp [*]; done)), H', ⟨by have := HJ6.out; have := HJ23.out; first | omega | exact Nat.le_refl _⟩, ⟨by (with_reducible repeat (first | refine blk_drewN ?_ _ | refine blk_drew ?_ | refine blk_alloc ?_ _)); exact BK269.out⟩, ⟨by (with_reducible repeat (first | refine blk_drewN ?_ _ | refine blk_drew ?_ | refine blk_alloc ?_ _)); exact BK282.out⟩, ⟨by repeat (first | (with_reducible first | exact HB.out | apply below_alloc | apply pw_below_drewN | apply below_drew1 | refine below_set ?_ GE269.out | refine below_set ?_ GE282.out) | exact HB.out)⟩⟩
      case rest =>
        clear HC43
        try clear c1
        try clear c2
        try clear p2
        try clear c3
        try clear c3b0
        try clear c4
        try clear c5
        try clear c6
        try clear p6
        try clear c7
        try clear c9
        try clear c10
        try clear c11
        try clear c14
        try clear c14b0
        try clear c14b1
        try clear c14b2
        try clear c15
        try clear c15b0
        try clear c15b1
        try clear c19
        try clear c21
        try clear c27
        try clear c31
        try clear c32
        try clear c33
        try clear c33b0
        try clear c34
        try clear c37
        try clear c40
        try clear c44
        try clear c45
        try clear hcz10_0
        try clear hcz10_1
        try clear hcz10_2
        try clear hcz10_3
        try clear hcz10_4
        try clear hcz10_5
        try clear hcz12_0
        try clear hcz12_1
        try clear hcz12_2
        try clear hcz12_3
        try clear hcz12_4
        try clear hcz12_5
        try clear hcz17_0
        try clear hcz17_1
        try clear hcz17_2
        try clear hcz17_3
        try clear hcz17_4
        try clear hcz17_5
        try clear hcz28_0
        try clear hcz28_1
        try clear hcz28_2
        try clear hcz28_3
        try clear hcz28_4
        try clear hcz28_5
        try clear hcz29_0
        try clear hcz29_1
        try clear hcz29_2
        try clear hcz29_3
        try clear hcz29_4
        try clear hcz29_5
        try clear hcz35_0
        try clear hcz35_1
        try clear hcz35_2
        try clear hcz35_3
        try clear hcz35_4
        try clear hcz35_5
        try clear hcz36_0
        try clear hcz36_1
        try clear hcz36_2
        try clear hcz36_3
        try clear hcz36_4
        try clear hcz36_5
        try clear hcz38_0
        try clear hcz38_1
        try clear hcz38_2
        try clear hcz38_3
        try clear hcz38_4
        try clear hcz38_5
        try clear hcz39_0
        try clear hcz39_1
        try clear hcz39_2
        try clear hcz39_3
        try clear hcz39_4
        try clear hcz39_5
        try clear hfz10_0
        try clear hfz10_1
        try clear hfz10_2
        try clear hfz10_3
        try clear hfz10_4
        try clear hfz10_5
        try clear hfz12_0
        try clear hfz12_1
        try clear hfz12_2
        try clear hfz12_3
        try clear hfz12_4
        try clear hfz12_5
        try clear hfz17_0
        try clear hfz17_1
        try clear hfz17_2
        try clear hfz17_3
        try clear hfz17_4
        try clear hfz17_5
        try clear hfz28_0
        try clear hfz28_1
        try clear hfz28_2
        try clear hfz28_3
        try clear hfz28_4
        try clear hfz28_5
        try clear hfz29_0
        try clear hfz29_1
        try clear hfz29_2
        try clear hfz29_3
        try clear hfz29_4
        try clear hfz29_5
        try clear hfz35_0
        try clear hfz35_1
        try clear hfz35_2
        try clear hfz35_3
        try clear hfz35_4
        try clear hfz35_5
        try clear hfz36_0
        try clear hfz36_1
        try clear hfz36_2
        try clear hfz36_3
        try clear hfz36_4
        try clear hfz36_5
        try clear hfz38_0
        try clear hfz38_1
        try clear hfz38_2
        try clear hfz38_3
        try clear hfz38_4
        try clear hfz38_5
        try clear hfz39_0
        try clear hfz39_1
        try clear hfz39_2
        try clear hfz39_3
        try clear hfz39_4
        try clear hfz39_5
        try clear p2
        try clear p6
        obtain ⟨kq, x119_42, rfl, HA, HJ42, BK269, BK282, HB⟩ := hcut
        cases kq with
        | zero => exact absurd HA.out (by simp [laws_FnDays.j2])
        | succ kj42 =>
          have H := HA.out
          clear HA
          simp only [laws_FnDays.j2] at H
          by_cases c46 : x119_42 = true
          · subst c46
            have H1 : (some false) = some r := by rw [if_pos rfl] at H; exact H
            clear H
            have H := H1
            clear H1
            obtain rfl := Option.some.inj H
            go_wp2
            go_ret
            exact ⟨by first | rfl | (simp [errW_none, errW_some] <;> rfl) | (simp [*, errW_none, errW_some] <;> rfl), by repeat (first | (with_reducible first | exact HB.out | apply below_alloc | apply pw_below_drewN | apply below_drew1 | refine below_set ?_ GE269.out | refine below_set ?_ GE282.out) | exact HB.out)⟩
          · replace c46 := Bool.eq_false_iff.mpr c46
            subst c46
            have H1 : ((impl_IsLeap.f t263).bind fun bt289 => ((impl_DaysOf.f kj42 t263 1 1).bind fun bt291 => ((impl_DaysOf.f kj42 t263 12 31).bind fun bt293 => (if bt289.2 = true then (if bt291.2 = true then (if bt293.2 = true then (if (bt289.1 != ((wrap64 ((wrap64 (bt293.1 - bt291.1)) + 1)) == 366)) = true then (some false) else (if bt289.1 = true then (laws_FnDays.j3 kj42 l1) else (if (wrap64 ((wrap64 (bt293.1 - bt291.1)) + 1)) = 365 then (laws_FnDays.j3 kj42 l1) else (some false)))) else (some false)) else (some false)) else (some false))))) = some r := by rw [if_neg (show ¬ (false = true) by decide)] at H; exact H
            clear H
            have H := H1
            clear H1
            replace H := Option.bind_eq_some_iff.mp H
            obtain ⟨⟨t289, t290⟩, A470, H⟩ := H
            replace H : ((impl_DaysOf.f kj42 t263 1 1).bind fun bt291 => ((impl_DaysOf.f kj42 t263 12 31).bind fun bt293 => (if t290 = true then (if bt291.2 = true then (if bt293.2 = true then (if (t289 != ((wrap64 ((wrap64 (bt293.1 - bt291.1)) + 1)) == 366)) = true then (some false) else (if t289 = true then (laws_FnDays.j3 kj42 l1) else (if (wrap64 ((wrap64 (bt293.1 - bt291.1)) + 1)) = 365 then (laws_FnDays.j3 kj42 l1) else (some false)))) else (some false)) else (some false)) else (some false)))) = some r := H
            have A47 := Aside0.mk A470
            clear A470
            replace H := Option.bind_eq_some_iff.mp H
            obtain ⟨⟨t291, t292⟩, A480, H⟩ := H
            replace H : ((impl_DaysOf.f kj42 t263 12 31).bind fun bt293 => (if t290 = true then (if t292 = true then (if bt293.2 = true then (if (t289 != ((wrap64 ((wrap64 (bt293.1 - t291)) + 1)) == 366)) = true then (some false) else (if t289 = true then (laws_FnDays.j3 kj42 l1) else (if (wrap64 ((wrap64 (bt293.1 - t291)) + 1)) = 365 then (laws_FnDays.j3 kj42 l1) else (some false)))) else (some false)) else (some false)) else (some false))) = some r := H
            have A48 := Aside0.mk A480
            clear A480
            replace H := Option.bind_eq_some_iff.mp H
            obtain ⟨⟨t293, t294⟩, A490, H⟩ := H
            replace H : (if t290 = true then (if t292 = true then (if t294 = true then (if (t289 != ((wrap64 ((wrap64 (t293 - t291)) + 1)) == 366)) = true then (some false) else (if t289 = true then (laws_FnDays.j3 kj42 l1) else (if (wrap64 ((wrap64 (t293 - t291)) + 1)) = 365 then (laws_FnDays.j3 kj42 l1) else (some false)))) else (some false)) else (some false)) else (some false)) = some r := H
            have A49 := Aside0.mk A490
            clear A490
            by_cases c50 : t290 = true
            · subst c50
              have H1 : (if t292 = true then (if t294 = true then (if (t289 != ((wrap64 ((wrap64 (t293 - t291)) + 1)) == 366)) = true then (some false) else (if t289 = true then (laws_FnDays.j3 kj42 l1) else (if (wrap64 ((wrap64 (t293 - t291)) + 1)) = 365 then (laws_FnDays.j3 kj42 l1) else (some false)))) else (some false)) else (some false)) = some r := by rw [if_pos rfl] at H; exact H
              clear H
              have H := H1
              clear H1
              by_cases c51 : t292 = true
              · subst c51
                have H1 : (if t294 = true then (if (t289 != ((wrap64 ((wrap64 (t293 - t291)) + 1)) == 366)) = true then (some false) else (if t289 = true then (laws_FnDays.j3 kj42 l1) else (if (wrap64 ((wrap64 (t293 - t291)) + 1)) = 365 then (laws_FnDays.j3 kj42 l1) else (some false)))) else (some false)) = some r := by rw [if_pos rfl] at H; exact H
                clear H
                have H := H1
                clear H1
                by_cases c52 : t294 = true
                · subst c52
                  have H1 : (if (t289 != ((wrap64 ((wrap64 (t293 - t291)) + 1)) == 366)) = true then (some false) else (if t289 = true then (laws_FnDays.j3 kj42 l1) else (if (wrap64 ((wrap64 (t293 - t291)) + 1)) = 365 then (laws_FnDays.j3 kj42 l1) else (some false)))) = some r := by rw [if_pos rfl] at H; exact H
                  clear H
                  have H := H1
                  clear H1
                  by_cases c53 : (t289 != ((wrap64 ((wrap64 (t293 - t291)) + 1)) == 366)) = true
                  · rw [if_pos c53] at H
                    have c53b0 : (t289 != ((wrap64 ((wrap64 (t293 - t291)) + 1)) == 366)) = true := c53
                    (try (have c53b1 : decide (t289 = ((wrap64 ((wrap64 (t293 - t291)) + 1)) == 366)) = false := by simpa using c53))
                    (try (have c53b2 : (t289 == ((wrap64 ((wrap64 (t293 - t291)) + 1)) == 366)) = false := by simpa using c53))
                    (try (have c53b3 : ¬ (t289 = ((wrap64 ((wrap64 (t293 - t291)) + 1)) == 366)) := by simpa using c53))
                    clear c53
                    obtain rfl := Option.some.inj H
                    have hnb54 := NB269_282.out
                    have hnc54 := NB282_269.out
                    have hcz55_0 : wc.cell? ⟨gb269, 0, none⟩ = some (.int .i64 t263) := (blk_cell BK269.out 0).trans rfl
                    have hcz55_1 : wc.cell? ⟨gb269, 1, none⟩ = some (.int .i64 t264) := (blk_cell BK269.out 1).trans rfl
                    have hcz55_2 : wc.cell? ⟨gb269, 2, none⟩ = some (.int .i64 t265) := (blk_cell BK269.out 2).trans rfl
                    have hcz55_3 : wc.cell? ⟨gb269, 3, none⟩ = some (.int .i64 t266) := (blk_cell BK269.out 3).trans rfl
                    have hcz55_4 : wc.cell? ⟨gb269, 4, none⟩ = some (.int .i64 t267) := (blk_cell BK269.out 4).trans rfl
                    have hcz55_5 : wc.cell? ⟨gb269, 5, none⟩ = some (.int .i64 t268) := (blk_cell BK269.out 5).trans rfl
                    have hfz55_0 := blk_frozen BK269.out 0
                    have hfz55_1 := blk_frozen BK269.out 1
                    have hfz55_2 := blk_frozen BK269.out 2
                    have hfz55_3 := blk_frozen BK269.out 3
                    have hfz55_4 := blk_frozen BK269.out 4
                    have hfz55_5 := blk_frozen BK269.out 5
                    go_wp2_with (first | ((with_reducible refine gate_callee (f := 12) rfl ?_); refine goesL_ (some 123) rfl rfl Try.func12 (by kernel_rfl) rfl #[.int .i64 t263] rfl (by (try simp only [List.map_toArray, List.map_cons, List.map_nil]); first | done | rfl | (simp only [List.length_drop, List.length_take]; rfl)) ?_; (with_reducible refine (impl_IsLeap.calls t263 t289 true _ A47.out).mono ?_); rintro e w' ⟨rfl, ⟨nd, rfl⟩⟩; refine ⟨_, rfl, ?_⟩) | ((with_reducible refine gate_callee (f := 10) rfl ?_); refine goesL_ (some 129) rfl rfl Try.func10 (by kernel_rfl) rfl #[.int .i64 t263, .int .i64 1, .int .i64 1] rfl (by (try simp only [List.map_toArray, List.map_cons, List.map_nil]); first | done | rfl | (simp only [List.length_drop, List.length_take]; rfl)) ?_; (with_reducible refine (impl_DaysOf.calls kj42 t263 1 1 t291 true _ A48.out).mono ?_); rintro e w56 ⟨rfl, hb⟩; refine ⟨_, rfl, ?_⟩; have n0_ := Aside0.mk (blk_below (g := gb269) (o := .cells #[.int .i64 t263, .int .i64 t264, .int .i64 t265, .int .i64 t266, .int .i64 t267, .int .i64 t268] 24 (0, 0)) (by (with_reducible repeat (first | refine blk_drewN ?_ _ | refine blk_drew ?_ | refine blk_alloc ?_ _)); exact BK269.out) hb); have n1_ := Aside0.mk (blk_below (g := gb282) (o := .cells #[.int .i64 t275, .int .i64 t276, .int .i64 t277, .int .i64 t278, .int .i64 t279, .int .i64 t280] 24 (0, 0)) (by (with_reducible repeat (first | refine blk_drewN ?_ _ | refine blk_drew ?_ | refine blk_alloc ?_ _)); exact BK282.out) hb); have n2_ := Aside0.mk (below_step (by repeat (first | (with_reducible first | exact HB.out | apply below_alloc | apply pw_below_drewN | apply below_drew1 | refine below_set ?_ GE269.out | refine below_set ?_ GE282.out) | exact HB.out)) hb); clear BK269; clear BK282; clear HB; have BK269 := n0_; have BK282 := n1_; have HB := n2_; clear n0_ n1_ n2_; (try clear hb); (try clear hb2); (try clear hk); (try clear hi); have hcz57_0 : w56.cell? ⟨gb269, 0, none⟩ = some (.int .i64 t263) := (blk_cell BK269.out 0).trans rfl; have hcz57_1 : w56.cell? ⟨gb269, 1, none⟩ = some (.int .i64 t264) := (blk_cell BK269.out 1).trans rfl; have hcz57_2 : w56.cell? ⟨gb269, 2, none⟩ = some (.int .i64 t265) := (blk_cell BK269.out 2).trans rfl; have hcz57_3 : w56.cell? ⟨gb269, 3, none⟩ = some (.int .i64 t266) := (blk_cell BK269.out 3).trans rfl; have hcz57_4 : w56.cell? ⟨gb269, 4, none⟩ = some (.int .i64 t267) := (blk_cell BK269.out 4).trans rfl; have hcz57_5 : w56.cell? ⟨gb269, 5, none⟩ = some (.int .i64 t268) := (blk_cell BK269.out 5).trans rfl; have hfz57_0 := blk_frozen BK269.out 0; have hfz57_1 := blk_frozen BK269.out 1; have hfz57_2 := blk_frozen BK269.out 2; have hfz57_3 := blk_frozen BK269.out 3; have hfz57_4 := blk_frozen BK269.out 4; have hfz57_5 := blk_frozen BK269.out 5) | ((with_reducible refine gate_callee (f := 10) rfl ?_); refine goesL_ (some 135) rfl rfl Try.func10 (by kernel_rfl) rfl #[.int .i64 t263, .int .i64 12, .int .i64 31] rfl (by (try simp only [List.map_toArray, List.map_cons, List.map_nil]); first | done | rfl | (simp only [List.length_drop, List.length_take]; rfl)) ?_; (with_reducible refine (impl_DaysOf.calls kj42 t263 12 31 t293 true _ A49.out).mono ?_); rintro e w58 ⟨rfl, hb⟩; refine ⟨_, rfl, ?_⟩; have n0_ := Aside0.mk (blk_below (g := gb269) (o := .cells #[.int .i64 t263, .int .i64 t264, .int .i64 t265, .int .i64 t266, .int .i64 t267, .int .i64 t268] 24 (0, 0)) (by (with_reducible repeat (first | refine blk_drewN ?_ _ | refine blk_drew ?_ | refine blk_alloc ?_ _)); exact BK269.out) hb); have n1_ := Aside0.mk (blk_below (g := gb282) (o := .cells #[.int .i64 t275, .int .i64 t276, .int .i64 t277, .int .i64 t278, .int .i64 t279, .int .i64 t280] 24 (0, 0)) (by (with_reducible repeat (first | refine blk_drewN ?_ _ | refine blk_drew ?_ | refine blk_alloc ?_ _)); exact BK282.out) hb); have n2_ := Aside0.mk (below_step (by repeat (first | (with_reducible first | exact HB.out | apply below_alloc | apply pw_below_drewN | apply below_drew1 | refine below_set ?_ GE269.out | refine below_set ?_ GE282.out) | exact HB.out)) hb); clear BK269; clear BK282; clear HB; have BK269 := n0_; have BK282 := n1_; have HB := n2_; clear n0_ n1_ n2_; (try clear hb); (try clear hb2); (try clear hk); (try clear hi)))
                    go_ret
                    exact ⟨by first | rfl | (simp [errW_none, errW_some] <;> rfl) | (simp [*, errW_none, errW_some] <;> rfl), by repeat (first | (with_reducible first | exact HB.out | apply below_alloc | apply pw_below_drewN | apply below_drew1 | refine below_set ?_ GE269.out | refine below_set ?_ GE282.out) | exact HB.out)⟩
                  · rw [if_neg c53] at H
                    have c53b0 : (t289 != ((wrap64 ((wrap64 (t293 - t291)) + 1)) == 366)) = false := by simpa using c53
                    (try (have c53b1 : decide (t289 = ((wrap64 ((wrap64 (t293 - t291)) + 1)) == 366)) = true := by simpa using c53))
                    (try (have c53b2 : (t289 == ((wrap64 ((wrap64 (t293 - t291)) + 1)) == 366)) = true := by simpa using c53))
                    clear c53
                    by_cases c59 : t289 = true
                    · subst c59
                      have H1 : (laws_FnDays.j3 kj42 l1) = some r := by rw [if_pos rfl] at H; exact H
                      clear H
                      have H := H1
                      clear H1
                      have H' := Aside0.mk H
                      clear H
                      have hnb60 := NB269_282.out
                      have hnc60 := NB282_269.out
                      have hcz61_0 : wc.cell? ⟨gb269, 0, none⟩ = some (.int .i64 t263) := (blk_cell BK269.out 0).trans rfl
                      have hcz61_1 : wc.cell? ⟨gb269, 1, none⟩ = some (.int .i64 t264) := (blk_cell BK269.out 1).trans rfl
                      have hcz61_2 : wc.cell? ⟨gb269, 2, none⟩ = some (.int .i64 t265) := (blk_cell BK269.out 2).trans rfl
                      have hcz61_3 : wc.cell? ⟨gb269, 3, none⟩ = some (.int .i64 t266) := (blk_cell BK269.out 3).trans rfl
                      have hcz61_4 : wc.cell? ⟨gb269, 4, none⟩ = some (.int .i64 t267) := (blk_cell BK269.out 4).trans rfl
                      have hcz61_5 : wc.cell? ⟨gb269, 5, none⟩ = some (.int .i64 t268) := (blk_cell BK269.out 5).trans rfl
                      have hfz61_0 := blk_frozen BK269.out 0
                      have hfz61_1 := blk_frozen BK269.out 1
                      have hfz61_2 := blk_frozen BK269.out 2
                      have hfz61_3 := blk_frozen BK269.out 3
                      have hfz61_4 := blk_frozen BK269.out 4
                      have hfz61_5 := blk_frozen BK269.out 5
                      go_wp2_with (first | ((with_reducible refine gate_callee (f := 12) rfl ?_); refine goesL_ (some 123) rfl rfl Try.func12 (by kernel_rfl) rfl #[.int .i64 t263] rfl (by (try simp only [List.map_toArray, List.map_cons, List.map_nil]); first | done | rfl | (simp only [List.length_drop, List.length_take]; rfl)) ?_; (with_reducible refine (impl_IsLeap.calls t263 true true _ A47.out).mono ?_); rintro e w' ⟨rfl, ⟨nd, rfl⟩⟩; refine ⟨_, rfl, ?_⟩) | ((with_reducible refine gate_callee (f := 10) rfl ?_); refine goesL_ (some 129) rfl rfl Try.func10 (by kernel_rfl) rfl #[.int .i64 t263, .int .i64 1, .int .i64 1] rfl (by (try simp only [List.map_toArray, List.map_cons, List.map_nil]); first | done | rfl | (simp only [List.length_drop, List.length_take]; rfl)) ?_; (with_reducible refine (impl_DaysOf.calls kj42 t263 1 1 t291 true _ A48.out).mono ?_); rintro e w62 ⟨rfl, hb⟩; refine ⟨_, rfl, ?_⟩; have n0_ := Aside0.mk (blk_below (g := gb269) (o := .cells #[.int .i64 t263, .int .i64 t264, .int .i64 t265, .int .i64 t266, .int .i64 t267, .int .i64 t268] 24 (0, 0)) (by (with_reducible repeat (first | refine blk_drewN ?_ _ | refine blk_drew ?_ | refine blk_alloc ?_ _)); exact BK269.out) hb); have n1_ := Aside0.mk (blk_below (g := gb282) (o := .cells #[.int .i64 t275, .int .i64 t276, .int .i64 t277, .int .i64 t278, .int .i64 t279, .int .i64 t280] 24 (0, 0)) (by (with_reducible repeat (first | refine blk_drewN ?_ _ | refine blk_drew ?_ | refine blk_alloc ?_ _)); exact BK282.out) hb); have n2_ := Aside0.mk (below_step (by repeat (first | (with_reducible first | exact HB.out | apply below_alloc | apply pw_below_drewN | apply below_drew1 | refine below_set ?_ GE269.out | refine below_set ?_ GE282.out) | exact HB.out)) hb); clear BK269; clear BK282; clear HB; have BK269 := n0_; have BK282 := n1_; have HB := n2_; clear n0_ n1_ n2_; (try clear hb); (try clear hb2); (try clear hk); (try clear hi); have hcz63_0 : w62.cell? ⟨gb269, 0, none⟩ = some (.int .i64 t263) := (blk_cell BK269.out 0).trans rfl; have hcz63_1 : w62.cell? ⟨gb269, 1, none⟩ = some (.int .i64 t264) := (blk_cell BK269.out 1).trans rfl; have hcz63_2 : w62.cell? ⟨gb269, 2, none⟩ = some (.int .i64 t265) := (blk_cell BK269.out 2).trans rfl; have hcz63_3 : w62.cell? ⟨gb269, 3, none⟩ = some (.int .i64 t266) := (blk_cell BK269.out 3).trans rfl; have hcz63_4 : w62.cell? ⟨gb269, 4, none⟩ = some (.int .i64 t267) := (blk_cell BK269.out 4).trans rfl; have hcz63_5 : w62.cell? ⟨gb269, 5, none⟩ = some (.int .i64 t268) := (blk_cell BK269.out 5).trans rfl; have hfz63_0 := blk_frozen BK269.out 0; have hfz63_1 := blk_frozen BK269.out 1; have hfz63_2 := blk_frozen BK269.out 2; have hfz63_3 := blk_frozen BK269.out 3; have hfz63_4 := blk_frozen BK269.out 4; have hfz63_5 := blk_frozen BK269.out 5) | ((with_reducible refine gate_callee (f := 10) rfl ?_); refine goesL_ (some 135) rfl rfl Try.func10 (by kernel_rfl) rfl #[.int .i64 t263, .int .i64 12, .int .i64 31] rfl (by (try simp only [List.map_toArray, List.map_cons, List.map_nil]); first | done | rfl | (simp only [List.length_drop, List.length_take]; rfl)) ?_; (with_reducible refine (impl_DaysOf.calls kj42 t263 12 31 t293 true _ A49.out).mono ?_); rintro e w64 ⟨rfl, hb⟩; refine ⟨_, rfl, ?_⟩; have n0_ := Aside0.mk (blk_below (g := gb269) (o := .cells #[.int .i64 t263, .int .i64 t264, .int .i64 t265, .int .i64 t266, .int .i64 t267, .int .i64 t268] 24 (0, 0)) (by (with_reducible repeat (first | refine blk_drewN ?_ _ | refine blk_drew ?_ | refine blk_alloc ?_ _)); exact BK269.out) hb); have n1_ := Aside0.mk (blk_below (g := gb282) (o := .cells #[.int .i64 t275, .int .i64 t276, .int .i64 t277, .int .i64 t278, .int .i64 t279, .int .i64 t280] 24 (0, 0)) (by (with_reducible repeat (first | refine blk_drewN ?_ _ | refine blk_drew ?_ | refine blk_alloc ?_ _)); exact BK282.out) hb); have n2_ := Aside0.mk (below_step (by repeat (first | (with_reducible first | exact HB.out | apply below_alloc | apply pw_below_drewN | apply below_drew1 | refine below_set ?_ GE269.out | refine below_set ?_ GE282.out) | exact HB.out)) hb); clear BK269; clear BK282; clear HB; have BK269 := n0_; have BK282 := n1_; have HB := n2_; clear n0_ n1_ n2_; (try clear hb); (try clear hb2); (try clear hk); (try clear hi)))
                      go_meet
                      case rel => exact ⟨_, H', ⟨by have := HJ6.out; have := HJ23.out; have := HJ42.out; first | omega | exact Nat.le_refl _⟩, ⟨by (with_reducible repeat (first | refine blk_drewN ?_ _ | refine blk_drew ?_ | refine blk_alloc ?_ _)); exact BK269.out⟩, ⟨by repeat (first | (with_reducible first | exact HB.out | apply below_alloc | apply pw_below_drewN | apply below_drew1 | refine below_set ?_ GE269.out | refine below_set ?_ GE282.out) | exact HB.out)⟩⟩
                    · replace c59 := Bool.eq_false_iff.mpr c59
                      subst c59
                      have H1 : (if (wrap64 ((wrap64 (t293 - t291)) + 1)) = 365 then (laws_FnDays.j3 kj42 l1) else (some false)) = some r := by rw [if_neg (show ¬ (false = true) by decide)] at H; exact H
                      clear H
                      have H := H1
                      clear H1
                      by_cases c65 : (wrap64 ((wrap64 (t293 - t291)) + 1)) = 365
                      · rw [if_pos c65] at H
                        have c65b0 : ((wrap64 ((wrap64 (t293 - t291)) + 1)) == 365) = true := beq_iff_eq.mpr c65
                        have c65b1 : ((wrap64 ((wrap64 (t293 - t291)) + 1)) != 365) = false := bne_eq_false_iff_eq.mpr c65
                        clear c65
                        have H' := Aside0.mk H
                        clear H
                        have hnb66 := NB269_282.out
                        have hnc66 := NB282_269.out
                        have hcz67_0 : wc.cell? ⟨gb269, 0, none⟩ = some (.int .i64 t263) := (blk_cell BK269.out 0).trans rfl
                        have hcz67_1 : wc.cell? ⟨gb269, 1, none⟩ = some (.int .i64 t264) := (blk_cell BK269.out 1).trans rfl
                        have hcz67_2 : wc.cell? ⟨gb269, 2, none⟩ = some (.int .i64 t265) := (blk_cell BK269.out 2).trans rfl
                        have hcz67_3 : wc.cell? ⟨gb269, 3, none⟩ = some (.int .i64 t266) := (blk_cell BK269.out 3).trans rfl
                        have hcz67_4 : wc.cell? ⟨gb269, 4, none⟩ = some (.int .i64 t267) := (blk_cell BK269.out 4).trans rfl
                        have hcz67_5 : wc.cell? ⟨gb269, 5, none⟩ = some (.int .i64 t268) := (blk_cell BK269.out 5).trans rfl
                        have hfz67_0 := blk_frozen BK269.out 0
                        have hfz67_1 := blk_frozen BK269.out 1
                        have hfz67_2 := blk_frozen BK269.out 2
                        have hfz67_3 := blk_frozen BK269.out 3
                        have hfz67_4 := blk_frozen BK269.out 4
                        have hfz67_5 := blk_frozen BK269.out 5
                        go_wp2_with (first | ((with_reducible refine gate_callee (f := 12) rfl ?_); refine goesL_ (some 123) rfl rfl Try.func12 (by kernel_rfl) rfl #[.int .i64 t263] rfl (by (try simp only [List.map_toArray, List.map_cons, List.map_nil]); first | done | rfl | (simp only [List.length_drop, List.length_take]; rfl)) ?_; (with_reducible refine (impl_IsLeap.calls t263 false true _ A47.out).mono ?_); rintro e w' ⟨rfl, ⟨nd, rfl⟩⟩; refine ⟨_, rfl, ?_⟩) | ((with_reducible refine gate_callee (f := 10) rfl ?_); refine goesL_ (some 129) rfl rfl Try.func10 (by kernel_rfl) rfl #[.int .i64 t263, .int .i64 1, .int .i64 1] rfl (by (try simp only [List.map_toArray, List.map_cons, List.map_nil]); first | done | rfl | (simp only [List.length_drop, List.length_take]; rfl)) ?_; (with_reducible refine (impl_DaysOf.calls kj42 t263 1 1 t291 true _ A48.out).mono ?_); rintro e w68 ⟨rfl, hb⟩; refine ⟨_, rfl, ?_⟩; have n0_ := Aside0.mk (blk_below (g := gb269) (o := .cells #[.int .i64 t263, .int .i64 t264, .int .i64 t265, .int .i64 t266, .int .i64 t267, .int .i64 t268] 24 (0, 0)) (by (with_reducible repeat (first | refine blk_drewN ?_ _ | refine blk_drew ?_ | refine blk_alloc ?_ _)); exact BK269.out) hb); have n1_ := Aside0.mk (blk_below (g := gb282) (o := .cells #[.int .i64 t275, .int .i64 t276, .int .i64 t277, .int .i64 t278, .int .i64 t279, .int .i64 t280] 24 (0, 0)) (by (with_reducible repeat (first | refine blk_drewN ?_ _ | refine blk_drew ?_ | refine blk_alloc ?_ _)); exact BK282.out) hb); have n2_ := Aside0.mk (below_step (by repeat (first | (with_reducible first | exact HB.out | apply below_alloc | apply pw_below_drewN | apply below_drew1 | refine below_set ?_ GE269.out | refine below_set ?_ GE282.out) | exact HB.out)) hb); clear BK269; clear BK282; clear HB; have BK269 := n0_; have BK282 := n1_; have HB := n2_; clear n0_ n1_ n2_; (try clear hb); (try clear hb2); (try clear hk); (try clear hi); have hcz69_0 : w68.cell? ⟨gb269, 0, none⟩ = some (.int .i64 t263) := (blk_cell BK269.out 0).trans rfl; have hcz69_1 : w68.cell? ⟨gb269, 1, none⟩ = some (.int .i64 t264) := (blk_cell BK269.out 1).trans rfl; have hcz69_2 : w68.cell? ⟨gb269, 2, none⟩ = some (.int .i64 t265) := (blk_cell BK269.out 2).trans rfl; have hcz69_3 : w68.cell? ⟨gb269, 3, none⟩ = some (.int .i64 t266) := (blk_cell BK269.out 3).trans rfl; have hcz69_4 : w68.cell? ⟨gb269, 4, none⟩ = some (.int .i64 t267) := (blk_cell BK269.out 4).trans rfl; have hcz69_5 : w68.cell? ⟨gb269, 5, none⟩ = some (.int .i64 t268) := (blk_cell BK269.out 5).trans rfl; have hfz69_0 := blk_frozen BK269.out 0; have hfz69_1 := blk_frozen BK269.out 1; have hfz69_2 := blk_frozen BK269.out 2; have hfz69_3 := blk_frozen BK269.out 3; have hfz69_4 := blk_frozen BK269.out 4; have hfz69_5 := blk_frozen BK269.out 5) | ((with_reducible refine gate_callee (f := 10) rfl ?_); refine goesL_ (some 135) rfl rfl Try.func10 (by kernel_rfl) rfl #[.int .i64 t263, .int .i64 12, .int .i64 31] rfl (by (try simp only [List.map_toArray, List.map_cons, List.map_nil]); first | done | rfl | (simp only [List.length_drop, List.length_take]; rfl)) ?_; (with_reducible refine (impl_DaysOf.calls kj42 t263 12 31 t293 true _ A49.out).mono ?_); rintro e w70 ⟨rfl, hb⟩; refine ⟨_, rfl, ?_⟩; have n0_ := Aside0.mk (blk_below (g := gb269) (o := .cells #[.int .i64 t263, .int .i64 t264, .int .i64 t265, .int .i64 t266, .int .i64 t267, .int .i64 t268] 24 (0, 0)) (by (with_reducible repeat (first | refine blk_drewN ?_ _ | refine blk_drew ?_ | refine blk_alloc ?_ _)); exact BK269.out) hb); have n1_ := Aside0.mk (blk_below (g := gb282) (o := .cells #[.int .i64 t275, .int .i64 t276, .int .i64 t277, .int .i64 t278, .int .i64 t279, .int .i64 t280] 24 (0, 0)) (by (with_reducible repeat (first | refine blk_drewN ?_ _ | refine blk_drew ?_ | refine blk_alloc ?_ _)); exact BK282.out) hb); have n2_ := Aside0.mk (below_step (by repeat (first | (with_reducible first | exact HB.out | apply below_alloc | apply pw_below_drewN | apply below_drew1 | refine below_set ?_ GE269.out | refine below_set ?_ GE282.out) | exact HB.out)) hb); clear BK269; clear BK282; clear HB; have BK269 := n0_; have BK282 := n1_; have HB := n2_; clear n0_ n1_ n2_; (try clear hb); (try clear hb2); (try clear hk); (try clear hi)))
                        go_meet
                        case rel => exact ⟨_, H', ⟨by have := HJ6.out; have := HJ23.out; have := HJ42.out; first | omega | exact Nat.le_refl _⟩, ⟨by (with_reducible repeat (first | refine blk_drewN ?_ _ | refine blk_drew ?_ | refine blk_alloc ?_ _)); exact BK269.out⟩, ⟨by repeat (first | (with_reducible first | exact HB.out | apply below_alloc | apply pw_below_drewN | apply below_drew1 | refine below_set ?_ GE269.out | refine below_set ?_ GE282.out) | exact HB.out)⟩⟩
                      · rw [if_neg c65] at H
                        have c65b0 : ((wrap64 ((wrap64 (t293 - t291)) + 1)) == 365) = false := beq_eq_false_iff_ne.mpr c65
                        have c65b1 : ((wrap64 ((wrap64 (t293 - t291)) + 1)) != 365) = true := bne_iff_ne.mpr c65
                        obtain rfl := Option.some.inj H
                        have hnb71 := NB269_282.out
                        have hnc71 := NB282_269.out
                        have hcz72_0 : wc.cell? ⟨gb269, 0, none⟩ = some (.int .i64 t263) := (blk_cell BK269.out 0).trans rfl
                        have hcz72_1 : wc.cell? ⟨gb269, 1, none⟩ = some (.int .i64 t264) := (blk_cell BK269.out 1).trans rfl
                        have hcz72_2 : wc.cell? ⟨gb269, 2, none⟩ = some (.int .i64 t265) := (blk_cell BK269.out 2).trans rfl
                        have hcz72_3 : wc.cell? ⟨gb269, 3, none⟩ = some (.int .i64 t266) := (blk_cell BK269.out 3).trans rfl
                        have hcz72_4 : wc.cell? ⟨gb269, 4, none⟩ = some (.int .i64 t267) := (blk_cell BK269.out 4).trans rfl
                        have hcz72_5 : wc.cell? ⟨gb269, 5, none⟩ = some (.int .i64 t268) := (blk_cell BK269.out 5).trans rfl
                        have hfz72_0 := blk_frozen BK269.out 0
                        have hfz72_1 := blk_frozen BK269.out 1
                        have hfz72_2 := blk_frozen BK269.out 2
                        have hfz72_3 := blk_frozen BK269.out 3
                        have hfz72_4 := blk_frozen BK269.out 4
                        have hfz72_5 := blk_frozen BK269.out 5
                        go_wp2_with (first | ((with_reducible refine gate_callee (f := 12) rfl ?_); refine goesL_ (some 123) rfl rfl Try.func12 (by kernel_rfl) rfl #[.int .i64 t263] rfl (by (try simp only [List.map_toArray, List.map_cons, List.map_nil]); first | done | rfl | (simp only [List.length_drop, List.length_take]; rfl)) ?_; (with_reducible refine (impl_IsLeap.calls t263 false true _ A47.out).mono ?_); rintro e w' ⟨rfl, ⟨nd, rfl⟩⟩; refine ⟨_, rfl, ?_⟩) | ((with_reducible refine gate_callee (f := 10) rfl ?_); refine goesL_ (some 129) rfl rfl Try.func10 (by kernel_rfl) rfl #[.int .i64 t263, .int .i64 1, .int .i64 1] rfl (by (try simp only [List.map_toArray, List.map_cons, List.map_nil]); first | done | rfl | (simp only [List.length_drop, List.length_take]; rfl)) ?_; (with_reducible refine (impl_DaysOf.calls kj42 t263 1 1 t291 true _ A48.out).mono ?_); rintro e w73 ⟨rfl, hb⟩; refine ⟨_, rfl, ?_⟩; have n0_ := Aside0.mk (blk_below (g := gb269) (o := .cells #[.int .i64 t263, .int .i64 t264, .int .i64 t265, .int .i64 t266, .int .i64 t267, .int .i64 t268] 24 (0, 0)) (by (with_reducible repeat (first | refine blk_drewN ?_ _ | refine blk_drew ?_ | refine blk_alloc ?_ _)); exact BK269.out) hb); have n1_ := Aside0.mk (blk_below (g := gb282) (o := .cells #[.int .i64 t275, .int .i64 t276, .int .i64 t277, .int .i64 t278, .int .i64 t279, .int .i64 t280] 24 (0, 0)) (by (with_reducible repeat (first | refine blk_drewN ?_ _ | refine blk_drew ?_ | refine blk_alloc ?_ _)); exact BK282.out) hb); have n2_ := Aside0.mk (below_step (by repeat (first | (with_reducible first | exact HB.out | apply below_alloc | apply pw_below_drewN | apply below_drew1 | refine below_set ?_ GE269.out | refine below_set ?_ GE282.out) | exact HB.out)) hb); clear BK269; clear BK282; clear HB; have BK269 := n0_; have BK282 := n1_; have HB := n2_; clear n0_ n1_ n2_; (try clear hb); (try clear hb2); (try clear hk); (try clear hi); have hcz74_0 : w73.cell? ⟨gb269, 0, none⟩ = some (.int .i64 t263) := (blk_cell BK269.out 0).trans rfl; have hcz74_1 : w73.cell? ⟨gb269, 1, none⟩ = some (.int .i64 t264) := (blk_cell BK269.out 1).trans rfl; have hcz74_2 : w73.cell? ⟨gb269, 2, none⟩ = some (.int .i64 t265) := (blk_cell BK269.out 2).trans rfl; have hcz74_3 : w73.cell? ⟨gb269, 3, none⟩ = some (.int .i64 t266) := (blk_cell BK269.out 3).trans rfl; have hcz74_4 : w73.cell? ⟨gb269, 4, none⟩ = some (.int .i64 t267) := (blk_cell BK269.out 4).trans rfl; have hcz74_5 : w73.cell? ⟨gb269, 5, none⟩ = some (.int .i64 t268) := (blk_cell BK269.out 5).trans rfl; have hfz74_0 := blk_frozen BK269.out 0; have hfz74_1 := blk_frozen BK269.out 1; have hfz74_2 := blk_frozen BK269.out 2; have hfz74_3 := blk_frozen BK269.out 3; have hfz74_4 := blk_frozen BK269.out 4; have hfz74_5 := blk_frozen BK269.out 5) | ((with_reducible refine gate_callee (f := 10) rfl ?_); refine goesL_ (some 135) rfl rfl Try.func10 (by kernel_rfl) rfl #[.int .i64 t263, .int .i64 12, .int .i64 31] rfl (by (try simp only [List.map_toArray, List.map_cons, List.map_nil]); first | done | rfl | (simp only [List.length_drop, List.length_take]; rfl)) ?_; (with_reducible refine (impl_DaysOf.calls kj42 t263 12 31 t293 true _ A49.out).mono ?_); rintro e w75 ⟨rfl, hb⟩; refine ⟨_, rfl, ?_⟩; have n0_ := Aside0.mk (blk_below (g := gb269) (o := .cells #[.int .i64 t263, .int .i64 t264, .int .i64 t265, .int .i64 t266, .int .i64 t267, .int .i64 t268] 24 (0, 0)) (by (with_reducible repeat (first | refine blk_drewN ?_ _ | refine blk_drew ?_ | refine blk_alloc ?_ _)); exact BK269.out) hb); have n1_ := Aside0.mk (blk_below (g := gb282) (o := .cells #[.int .i64 t275, .int .i64 t276, .int .i64 t277, .int .i64 t278, .int .i64 t279, .int .i64 t280] 24 (0, 0)) (by (with_reducible repeat (first | refine blk_drewN ?_ _ | refine blk_drew ?_ | refine blk_alloc ?_ _)); exact BK282.out) hb); have n2_ := Aside0.mk (below_step (by repeat (first | (with_reducible first | exact HB.out | apply below_alloc | apply pw_below_drewN | apply below_drew1 | refine below_set ?_ GE269.out | refine below_set ?_ GE282.out) | exact HB.out)) hb); clear BK269; clear BK282; clear HB; have BK269 := n0_; have BK282 := n1_; have HB := n2_; clear n0_ n1_ n2_; (try clear hb); (try clear hb2); (try clear hk); (try clear hi)))
                        go_ret
                        exact ⟨by first | rfl | (simp [errW_none, errW_some] <;> rfl) | (simp [*, errW_none, errW_some] <;> rfl), by repeat (first | (with_reducible first | exact HB.out | apply below_alloc | apply pw_below_drewN | apply below_drew1 | refine below_set ?_ GE269.out | refine below_set ?_ GE282.out) | exact HB.out)⟩
                · replace c52 := Bool.eq_false_iff.mpr c52
                  subst c52
                  have H1 : (some false) = some r := by rw [if_neg (show ¬ (false = true) by decide)] at H; exact H
                  clear H
                  have H := H1
                  clear H1
                  obtain rfl := Option.some.inj H
                  have hnb76 := NB269_282.out
                  have hnc76 := NB282_269.out
                  have hcz77_0 : wc.cell? ⟨gb269, 0, none⟩ = some (.int .i64 t263) := (blk_cell BK269.out 0).trans rfl
                  have hcz77_1 : wc.cell? ⟨gb269, 1, none⟩ = some (.int .i64 t264) := (blk_cell BK269.out 1).trans rfl
                  have hcz77_2 : wc.cell? ⟨gb269, 2, none⟩ = some (.int .i64 t265) := (blk_cell BK269.out 2).trans rfl
                  have hcz77_3 : wc.cell? ⟨gb269, 3, none⟩ = some (.int .i64 t266) := (blk_cell BK269.out 3).trans rfl
                  have hcz77_4 : wc.cell? ⟨gb269, 4, none⟩ = some (.int .i64 t267) := (blk_cell BK269.out 4).trans rfl
                  have hcz77_5 : wc.cell? ⟨gb269, 5, none⟩ = some (.int .i64 t268) := (blk_cell BK269.out 5).trans rfl
                  have hfz77_0 := blk_frozen BK269.out 0
                  have hfz77_1 := blk_frozen BK269.out 1
                  have hfz77_2 := blk_frozen BK269.out 2
                  have hfz77_3 := blk_frozen BK269.out 3
                  have hfz77_4 := blk_frozen BK269.out 4
                  have hfz77_5 := blk_frozen BK269.out 5
                  go_wp2_with (first | ((with_reducible refine gate_callee (f := 12) rfl ?_); refine goesL_ (some 123) rfl rfl Try.func12 (by kernel_rfl) rfl #[.int .i64 t263] rfl (by (try simp only [List.map_toArray, List.map_cons, List.map_nil]); first | done | rfl | (simp only [List.length_drop, List.length_take]; rfl)) ?_; (with_reducible refine (impl_IsLeap.calls t263 t289 true _ A47.out).mono ?_); rintro e w' ⟨rfl, ⟨nd, rfl⟩⟩; refine ⟨_, rfl, ?_⟩) | ((with_reducible refine gate_callee (f := 10) rfl ?_); refine goesL_ (some 129) rfl rfl Try.func10 (by kernel_rfl) rfl #[.int .i64 t263, .int .i64 1, .int .i64 1] rfl (by (try simp only [List.map_toArray, List.map_cons, List.map_nil]); first | done | rfl | (simp only [List.length_drop, List.length_take]; rfl)) ?_; (with_reducible refine (impl_DaysOf.calls kj42 t263 1 1 t291 true _ A48.out).mono ?_); rintro e w78 ⟨rfl, hb⟩; refine ⟨_, rfl, ?_⟩; have n0_ := Aside0.mk (blk_below (g := gb269) (o := .cells #[.int .i64 t263, .int .i64 t264, .int .i64 t265, .int .i64 t266, .int .i64 t267, .int .i64 t268] 24 (0, 0)) (by (with_reducible repeat (first | refine blk_drewN ?_ _ | refine blk_drew ?_ | refine blk_alloc ?_ _)); exact BK269.out) hb); have n1_ := Aside0.mk (blk_below (g := gb282) (o := .cells #[.int .i64 t275, .int .i64 t276, .int .i64 t277, .int .i64 t278, .int .i64 t279, .int .i64 t280] 24 (0, 0)) (by (with_reducible repeat (first | refine blk_drewN ?_ _ | refine blk_drew ?_ | refine blk_alloc ?_ _)); exact BK282.out) hb); have n2_ := Aside0.mk (below_step (by repeat (first | (with_reducible first | exact HB.out | apply below_alloc | apply pw_below_drewN | apply below_drew1 | refine below_set ?_ GE269.out | refine below_set ?_ GE282.out) | exact HB.out)) hb); clear BK269; clear BK282; clear HB; have BK269 := n0_; have BK282 := n1_; have HB := n2_; clear n0_ n1_ n2_; (try clear hb); (try clear hb2); (try clear hk); (try clear hi); have hcz79_0 : w78.cell? ⟨gb269, 0, none⟩ = some (.int .i64 t263) := (blk_cell BK269.out 0).trans rfl; have hcz79_1 : w78.cell? ⟨gb269, 1, none⟩ = some (.int .i64 t264) := (blk_cell BK269.out 1).trans rfl; have hcz79_2 : w78.cell? ⟨gb269, 2, none⟩ = some (.int .i64 t265) := (blk_cell BK269.out 2).trans rfl; have hcz79_3 : w78.cell? ⟨gb269, 3, none⟩ = some (.int .i64 t266) := (blk_cell BK269.out 3).trans rfl; have hcz79_4 : w78.cell? ⟨gb269, 4, none⟩ = some (.int .i64 t267) := (blk_cell BK269.out 4).trans rfl; have hcz79_5 : w78.cell? ⟨gb269, 5, none⟩ = some (.int .i64 t268) := (blk_cell BK269.out 5).trans rfl; have hfz79_0 := blk_frozen BK269.out 0; have hfz79_1 := blk_frozen BK269.out 1; have hfz79_2 := blk_frozen BK269.out 2; have hfz79_3 := blk_frozen BK269.out 3; have hfz79_4 := blk_frozen BK269.out 4; have hfz79_5 := blk_frozen BK269.out 5) | ((with_reducible refine gate_callee (f := 10) rfl ?_); refine goesL_ (some 135) rfl rfl Try.func10 (by kernel_rfl) rfl #[.int .i64 t263, .int .i64 12, .int .i64 31] rfl (by (try simp only [List.map_toArray, List.map_cons, List.map_nil]); first | done | rfl | (simp only [List.length_drop, List.length_take]; rfl)) ?_; (with_reducible refine (impl_DaysOf.calls kj42 t263 12 31 t293 false _ A49.out).mono ?_); rintro e w80 ⟨rfl, hb⟩; refine ⟨_, rfl, ?_⟩; have n0_ := Aside0.mk (blk_below (g := gb269) (o := .cells #[.int .i64 t263, .int .i64 t264, .int .i64 t265, .int .i64 t266, .int .i64 t267, .int .i64 t268] 24 (0, 0)) (by (with_reducible repeat (first | refine blk_drewN ?_ _ | refine blk_drew ?_ | refine blk_alloc ?_ _)); exact BK269.out) hb); have n1_ := Aside0.mk (blk_below (g := gb282) (o := .cells #[.int .i64 t275, .int .i64 t276, .int .i64 t277, .int .i64 t278, .int .i64 t279, .int .i64 t280] 24 (0, 0)) (by (with_reducible repeat (first | refine blk_drewN ?_ _ | refine blk_drew ?_ | refine blk_alloc ?_ _)); exact BK282.out) hb); have n2_ := Aside0.mk (below_step (by repeat (first | (with_reducible first | exact HB.out | apply below_alloc | apply pw_below_drewN | apply below_drew1 | refine below_set ?_ GE269.out | refine below_set ?_ GE282.out) | exact HB.out)) hb); clear BK269; clear BK282; clear HB; have BK269 := n0_; have BK282 := n1_; have HB := n2_; clear n0_ n1_ n2_; (try clear hb); (try clear hb2); (try clear hk); (try clear hi)))
                  go_ret
                  exact ⟨by first | rfl | (simp [errW_none, errW_some] <;> rfl) | (simp [*, errW_none, errW_some] <;> rfl), by repeat (first | (with_reducible first | exact HB.out | apply below_alloc | apply pw_below_drewN | apply below_drew1 | refine below_set ?_ GE269.out | refine below_set ?_ GE282.out) | exact HB.out)⟩
              · replace c51 := Bool.eq_false_iff.mpr c51
                subst c51
                have H1 : (some false) = some r := by rw [if_neg (show ¬ (false = true) by decide)] at H; exact H
                clear H
                have H := H1
                clear H1
                obtain rfl := Option.some.inj H
                have hnb81 := NB269_282.out
                have hnc81 := NB282_269.out
                have hcz82_0 : wc.cell? ⟨gb269, 0, none⟩ = some (.int .i64 t263) := (blk_cell BK269.out 0).trans rfl
                have hcz82_1 : wc.cell? ⟨gb269, 1, none⟩ = some (.int .i64 t264) := (blk_cell BK269.out 1).trans rfl
                have hcz82_2 : wc.cell? ⟨gb269, 2, none⟩ = some (.int .i64 t265) := (blk_cell BK269.out 2).trans rfl
                have hcz82_3 : wc.cell? ⟨gb269, 3, none⟩ = some (.int .i64 t266) := (blk_cell BK269.out 3).trans rfl
                have hcz82_4 : wc.cell? ⟨gb269, 4, none⟩ = some (.int .i64 t267) := (blk_cell BK269.out 4).trans rfl
                have hcz82_5 : wc.cell? ⟨gb269, 5, none⟩ = some (.int .i64 t268) := (blk_cell BK269.out 5).trans rfl
                have hfz82_0 := blk_frozen BK269.out 0
                have hfz82_1 := blk_frozen BK269.out 1
                have hfz82_2 := blk_frozen BK269.out 2
                have hfz82_3 := blk_frozen BK269.out 3
                have hfz82_4 := blk_frozen BK269.out 4
                have hfz82_5 := blk_frozen BK269.out 5
                go_wp2_with (first | ((with_reducible refine gate_callee (f := 12) rfl ?_); refine goesL_ (some 123) rfl rfl Try.func12 (by kernel_rfl) rfl #[.int .i64 t263] rfl (by (try simp only [List.map_toArray, List.map_cons, List.map_nil]); first | done | rfl | (simp only [List.length_drop, List.length_take]; rfl)) ?_; (with_reducible refine (impl_IsLeap.calls t263 t289 true _ A47.out).mono ?_); rintro e w' ⟨rfl, ⟨nd, rfl⟩⟩; refine ⟨_, rfl, ?_⟩) | ((with_reducible refine gate_callee (f := 10) rfl ?_); refine goesL_ (some 129) rfl rfl Try.func10 (by kernel_rfl) rfl #[.int .i64 t263, .int .i64 1, .int .i64 1] rfl (by (try simp only [List.map_toArray, List.map_cons, List.map_nil]); first | done | rfl | (simp only [List.length_drop, List.length_take]; rfl)) ?_; (with_reducible refine (impl_DaysOf.calls kj42 t263 1 1 t291 false _ A48.out).mono ?_); rintro e w83 ⟨rfl, hb⟩; refine ⟨_, rfl, ?_⟩; have n0_ := Aside0.mk (blk_below (g := gb269) (o := .cells #[.int .i64 t263, .int .i64 t264, .int .i64 t265, .int .i64 t266, .int .i64 t267, .int .i64 t268] 24 (0, 0)) (by (with_reducible repeat (first | refine blk_drewN ?_ _ | refine blk_drew ?_ | refine blk_alloc ?_ _)); exact BK269.out) hb); have n1_ := Aside0.mk (blk_below (g := gb282) (o := .cells #[.int .i64 t275, .int .i64 t276, .int .i64 t277, .int .i64 t278, .int .i64 t279, .int .i64 t280] 24 (0, 0)) (by (with_reducible repeat (first | refine blk_drewN ?_ _ | refine blk_drew ?_ | refine blk_alloc ?_ _)); exact BK282.out) hb); have n2_ := Aside0.mk (below_step (by repeat (first | (with_reducible first | exact HB.out | apply below_alloc | apply pw_below_drewN | apply below_drew1 | refine below_set ?_ GE269.out | refine below_set ?_ GE282.out) | exact HB.out)) hb); clear BK269; clear BK282; clear HB; have BK269 := n0_; have BK282 := n1_; have HB := n2_; clear n0_ n1_ n2_; (try clear hb); (try clear hb2); (try clear hk); (try clear hi); have hcz84_0 : w83.cell? ⟨gb269, 0, none⟩ = some (.int .i64 t263) := (blk_cell BK269.out 0).trans rfl; have hcz84_1 : w83.cell? ⟨gb269, 1, none⟩ = some (.int .i64 t264) := (blk_cell BK269.out 1).trans rfl; have hcz84_2 : w83.cell? ⟨gb269, 2, none⟩ = some (.int .i64 t265) := (blk_cell BK269.out 2).trans rfl; have hcz84_3 : w83.cell? ⟨gb269, 3, none⟩ = some (.int .i64 t266) := (blk_cell BK269.out 3).trans rfl; have hcz84_4 : w83.cell? ⟨gb269, 4, none⟩ = some (.int .i64 t267) := (blk_cell BK269.out 4).trans rfl; have hcz84_5 : w83.cell? ⟨gb269, 5, none⟩ = some (.int .i64 t268) := (blk_cell BK269.out 5).trans rfl; have hfz84_0 := blk_frozen BK269.out 0; have hfz84_1 := blk_frozen BK269.out 1; have hfz84_2 := blk_frozen BK269.out 2; have hfz84_3 := blk_frozen BK269.out 3; have hfz84_4 := blk_frozen BK269.out 4; have hfz84_5 := blk_frozen BK269.out 5) | ((with_reducible refine gate_callee (f := 10) rfl ?_); refine goesL_ (some 135) rfl rfl Try.func10 (by kernel_rfl) rfl #[.int .i64 t263, .int .i64 12, .int .i64 31] rfl (by (try simp only [List.map_toArray, List.map_cons, List.map_nil]); first | done | rfl | (simp only [List.length_drop, List.length_take]; rfl)) ?_; (with_reducible refine (impl_DaysOf.calls kj42 t263 12 31 t293 t294 _ A49.out).mono ?_); rintro e w85 ⟨rfl, hb⟩; refine ⟨_, rfl, ?_⟩; have n0_ := Aside0.mk (blk_below (g := gb269) (o := .cells #[.int .i64 t263, .int .i64 t264, .int .i64 t265, .int .i64 t266, .int .i64 t267, .int .i64 t268] 24 (0, 0)) (by (with_reducible repeat (first | refine blk_drewN ?_ _ | refine blk_drew ?_ | refine blk_alloc ?_ _)); exact BK269.out) hb); have n1_ := Aside0.mk (blk_below (g := gb282) (o := .cells #[.int .i64 t275, .int .i64 t276, .int .i64 t277, .int .i64 t278, .int .i64 t279, .int .i64 t280] 24 (0, 0)) (by (with_reducible repeat (first | refine blk_drewN ?_ _ | refine blk_drew ?_ | refine blk_alloc ?_ _)); exact BK282.out) hb); have n2_ := Aside0.mk (below_step (by repeat (first | (with_reducible first | exact HB.out | apply below_alloc | apply pw_below_drewN | apply below_drew1 | refine below_set ?_ GE269.out | refine below_set ?_ GE282.out) | exact HB.out)) hb); clear BK269; clear BK282; clear HB; have BK269 := n0_; have BK282 := n1_; have HB := n2_; clear n0_ n1_ n2_; (try clear hb); (try clear hb2); (try clear hk); (try clear hi)))
                go_ret
                exact ⟨by first | rfl | (simp [errW_none, errW_some] <;> rfl) | (simp [*, errW_none, errW_some] <;> rfl), by repeat (first | (with_reducible first | exact HB.out | apply below_alloc | apply pw_below_drewN | apply below_drew1 | refine below_set ?_ GE269.out | refine below_set ?_ GE282.out) | exact HB.out)⟩
            · replace c50 := Bool.eq_false_iff.mpr c50
              subst c50
              have H1 : (some false) = some r := by rw [if_neg (show ¬ (false = true) by decide)] at H; exact H
              clear H
              have H := H1
              clear H1
              obtain rfl := Option.some.inj H
              have hnb86 := NB269_282.out
              have hnc86 := NB282_269.out
              have hcz87_0 : wc.cell? ⟨gb269, 0, none⟩ = some (.int .i64 t263) := (blk_cell BK269.out 0).trans rfl
              have hcz87_1 : wc.cell? ⟨gb269, 1, none⟩ = some (.int .i64 t264) := (blk_cell BK269.out 1).trans rfl
              have hcz87_2 : wc.cell? ⟨gb269, 2, none⟩ = some (.int .i64 t265) := (blk_cell BK269.out 2).trans rfl
              have hcz87_3 : wc.cell? ⟨gb269, 3, none⟩ = some (.int .i64 t266) := (blk_cell BK269.out 3).trans rfl
              have hcz87_4 : wc.cell? ⟨gb269, 4, none⟩ = some (.int .i64 t267) := (blk_cell BK269.out 4).trans rfl
              have hcz87_5 : wc.cell? ⟨gb269, 5, none⟩ = some (.int .i64 t268) := (blk_cell BK269.out 5).trans rfl
              have hfz87_0 := blk_frozen BK269.out 0
              have hfz87_1 := blk_frozen BK269.out 1
              have hfz87_2 := blk_frozen BK269.out 2
              have hfz87_3 := blk_frozen BK269.out 3
              have hfz87_4 := blk_frozen BK269.out 4
              have hfz87_5 := blk_frozen BK269.out 5
              go_wp2_with (first | ((with_reducible refine gate_callee (f := 12) rfl ?_); refine goesL_ (some 123) rfl rfl Try.func12 (by kernel_rfl) rfl #[.int .i64 t263] rfl (by (try simp only [List.map_toArray, List.map_cons, List.map_nil]); first | done | rfl | (simp only [List.length_drop, List.length_take]; rfl)) ?_; (with_reducible refine (impl_IsLeap.calls t263 t289 false _ A47.out).mono ?_); rintro e w' ⟨rfl, ⟨nd, rfl⟩⟩; refine ⟨_, rfl, ?_⟩) | ((with_reducible refine gate_callee (f := 10) rfl ?_); refine goesL_ (some 129) rfl rfl Try.func10 (by kernel_rfl) rfl #[.int .i64 t263, .int .i64 1, .int .i64 1] rfl (by (try simp only [List.map_toArray, List.map_cons, List.map_nil]); first | done | rfl | (simp only [List.length_drop, List.length_take]; rfl)) ?_; (with_reducible refine (impl_DaysOf.calls kj42 t263 1 1 t291 t292 _ A48.out).mono ?_); rintro e w88 ⟨rfl, hb⟩; refine ⟨_, rfl, ?_⟩; have n0_ := Aside0.mk (blk_below (g := gb269) (o := .cells #[.int .i64 t263, .int .i64 t264, .int .i64 t265, .int .i64 t266, .int .i64 t267, .int .i64 t268] 24 (0, 0)) (by (with_reducible repeat (first | refine blk_drewN ?_ _ | refine blk_drew ?_ | refine blk_alloc ?_ _)); exact BK269.out) hb); have n1_ := Aside0.mk (blk_below (g := gb282) (o := .cells #[.int .i64 t275, .int .i64 t276, .int .i64 t277, .int .i64 t278, .int .i64 t279, .int .i64 t280] 24 (0, 0)) (by (with_reducible repeat (first | refine blk_drewN ?_ _ | refine blk_drew ?_ | refine blk_alloc ?_ _)); exact BK282.out) hb); have n2_ := Aside0.mk (below_step (by repeat (first | (with_reducible first | exact HB.out | apply below_alloc | apply pw_below_drewN | apply below_drew1 | refine below_set ?_ GE269.out | refine below_set ?_ GE282.out) | exact HB.out)) hb); clear BK269; clear BK282; clear HB; have BK269 := n0_; have BK282 := n1_; have HB := n2_; clear n0_ n1_ n2_; (try clear hb); (try clear hb2); (try clear hk); (try clear hi); have hcz89_0 : w88.cell? ⟨gb269, 0, none⟩ = some (.int .i64 t263) := (blk_cell BK269.out 0).trans rfl; have hcz89_1 : w88.cell? ⟨gb269, 1, none⟩ = some (.int .i64 t264) := (blk_cell BK269.out 1).trans rfl; have hcz89_2 : w88.cell? ⟨gb269, 2, none⟩ = some (.int .i64 t265) := (blk_cell BK269.out 2).trans rfl; have hcz89_3 : w88.cell? ⟨gb269, 3, none⟩ = some (.int .i64 t266) := (blk_cell BK269.out 3).trans rfl; have hcz89_4 : w88.cell? ⟨gb269, 4, none⟩ = some (.int .i64 t267) := (blk_cell BK269.out 4).trans rfl; have hcz89_5 : w88.cell? ⟨gb269, 5, none⟩ = some (.int .i64 t268) := (blk_cell BK269.out 5).trans rfl; have hfz89_0 := blk_frozen BK269.out 0; have hfz89_1 := blk_frozen BK269.out 1; have hfz89_2 := blk_frozen BK269.out 2; have hfz89_3 := blk_frozen BK269.out 3; have hfz89_4 := blk_frozen BK269.out 4; have hfz89_5 := blk_frozen BK269.out 5) | ((with_reducible refine gate_callee (f := 10) rfl ?_); refine goesL_ (some 135) rfl rfl Try.func10 (by kernel_rfl) rfl #[.int .i64 t263, .int .i64 12, .int .i64 31] rfl (by (try simp only [List.map_toArray, List.map_cons, List.map_nil]); first | done | rfl | (simp only [List.length_drop, List.length_take]; rfl)) ?_; (with_reducible refine (impl_DaysOf.calls kj42 t263 12 31 t293 t294 _ A49.out).mono ?_); rintro e w90 ⟨rfl, hb⟩; refine ⟨_, rfl, ?_⟩; have n0_ := Aside0.mk (blk_below (g := gb269) (o := .cells #[.int .i64 t263, .int .i64 t264, .int .i64 t265, .int .i64 t266, .int .i64 t267, .int .i64 t268] 24 (0, 0)) (by (with_reducible repeat (first | refine blk_drewN ?_ _ | refine blk_drew ?_ | refine blk_alloc ?_ _)); exact BK269.out) hb); have n1_ := Aside0.mk (blk_below (g := gb282) (o := .cells #[.int .i64 t275, .int .i64 t276, .int .i64 t277, .int .i64 t278, .int .i64 t279, .int .i64 t280] 24 (0, 0)) (by (with_reducible repeat (first | refine blk_drewN ?_ _ | refine blk_drew ?_ | refine blk_alloc ?_ _)); exact BK282.out) hb); have n2_ := Aside0.mk (below_step (by repeat (first | (with_reducible first | exact HB.out | apply below_alloc | apply pw_below_drewN | apply below_drew1 | refine below_set ?_ GE269.out | refine below_set ?_ GE282.out) | exact HB.out)) hb); clear BK269; clear BK282; clear HB; have BK269 := n0_; have BK282 := n1_; have HB := n2_; clear n0_ n1_ n2_; (try clear hb); (try clear hb2); (try clear hk); (try clear hi)))
              go_ret
              exact ⟨by first | rfl | (simp [errW_none, errW_some] <;> rfl) | (simp [*, errW_none, errW_some] <;> rfl), by repeat (first | (with_reducible first | exact HB.out | apply below_alloc | apply pw_below_drewN | apply below_drew1 | refine below_set ?_ GE269.out | refine below_set ?_ GE282.out) | exact HB.out)⟩
end Go.Proofs.Ytplcocljgoipkaa.PFnDays
