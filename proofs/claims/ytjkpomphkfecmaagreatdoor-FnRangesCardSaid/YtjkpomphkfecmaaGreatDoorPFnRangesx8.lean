-- Written by a program of this project (xprint.py) out of the translation; Lean checks it.
import Derived.Test.YtjkpomphkfecmaaGreatDoorPFnRangesx0
import Derived.Test.YtjkpomphkfecmaaGreatDoorPFnRangesx2
import Derived.Test.YtjkpomphkfecmaaGreatDoorPFnRangesx4
import Derived.Test.YtjkpomphkfecmaaGreatDoorPFnRangesx7
namespace Go.Proofs.YtjkpomphkfecmaaGreatDoor.PFnRanges
open Go.RowKit Go.Proofs.YtjkpomphkfecmaaGreatDoorW.PrintWords Go.Proofs.YtjkpomphkfecmaaGreatDoorW.PrintLast Go.Proofs.YtjkpomphkfecmaaGreatDoorW.PrintMore
attribute [local go_sem] max2_int min2_int max_two min_two max_three min_three max_four min_four   -- for this text's walks alone
set_option linter.unusedVariables false
set_option linter.unusedSimpArgs false

/-! ### spec_DrawReadRange: function 19 -/
def spec_DrawReadRange.l0 : Nat → ByteArray → Int → List Int → Int → Int → Option (ByteArray × Int)
  | 0, _, _, _, _, _ => none
  | k + 1, x5, x6, x246000, x246001, x246002 => if x6 > 0 then ((spec_l1Cur_pick.f x246000 x246001 x246002 30).bind fun bt249 => ((spec_l1Num.f k bt249.1).bind fun t252 => (if t252.size + 1 ≤ 9223372036854775807 then ((spec_l1Cur_pick.f x246000 bt249.2.1 bt249.2.2 10).bind fun bt253 => ((spec_l1Num.f k (wrap64 (bt249.1 + bt253.1))).bind fun t256 => (if (t252 ++ (⟨#[45]⟩ : ByteArray)).size + t256.size ≤ 9223372036854775807 then ((spec_l1Num.f k bt249.1).bind fun t257 => (if t257.size + 1 ≤ 9223372036854775807 then ((spec_l1Num.f k bt249.1).bind fun t258 => (if 1 + t258.size ≤ 9223372036854775807 then ((spec_l1Num.f k bt249.1).bind fun t259 => (if 1 + t259.size ≤ 9223372036854775807 then (if ((⟨#[32]⟩ : ByteArray) ++ t259).size + 4 ≤ 9223372036854775807 then ((spec_l1Cur_of.f x246000 bt253.2.1 bt253.2.2 (([(t252 ++ (⟨#[45]⟩ : ByteArray)) ++ t256, t257 ++ (⟨#[45]⟩ : ByteArray), (⟨#[45]⟩ : ByteArray) ++ t258, ((⟨#[32]⟩ : ByteArray) ++ t259) ++ (⟨#[45, 57, 57, 32]⟩ : ByteArray), (⟨#[]⟩ : ByteArray)] : List ByteArray))).bind fun bt263 => (if bt263.1.size + 1 ≤ 9223372036854775807 then (if x5.size + (bt263.1 ++ (⟨#[44]⟩ : ByteArray)).size ≤ 9223372036854775807 then (spec_DrawReadRange.l0 k (x5 ++ (bt263.1 ++ (⟨#[44]⟩ : ByteArray))) (wrap64 (x6 - 1)) x246000 bt263.2.1 bt263.2.2) else (none)) else (none))) else (none)) else (none))) else (none))) else (none))) else (none)))) else (none)))) else ((spec_l1Cur_one.f x246000 x246001 x246002 6).bind fun bt266 => (if bt266.1 = true then ((spec_l1Cur_spoilt.f k x246000 bt266.2.1 bt266.2.2 x5 (⟨#[45, 44, 48, 98, 61]⟩ : ByteArray)).bind fun bt269 => ((spec_l1Cur_among.f x246000 bt269.2.1 bt269.2.2 (([0, 1, 10, 25, 1000000, 1000001] : List Int))).bind fun bt275 => (some (bt269.1, bt275.1)))) else ((spec_l1Cur_among.f x246000 bt266.2.1 bt266.2.2 (([0, 1, 10, 25, 1000000, 1000001] : List Int))).bind fun bt281 => (some (x5, bt281.1)))))
def spec_DrawReadRange.f (k : Nat) (l0 : List Int) : Option (ByteArray × Int) := (spec_l1Cur_pick.f l0 0 0 3).bind fun bt246 => (spec_DrawReadRange.l0 k (⟨#[98, 121, 116, 101, 115, 61]⟩ : ByteArray) (wrap64 (1 + bt246.1)) l0 bt246.2.1 bt246.2.2)
theorem spec_DrawReadRange.mono_l : ∀ k, (∀ y0 y1 y2 y3 y4, LeO (spec_DrawReadRange.l0 k y0 y1 y2 y3 y4) (spec_DrawReadRange.l0 (k + 1) y0 y1 y2 y3 y4))
  | 0 => fun _ _ _ _ _ r h => by simp [spec_DrawReadRange.l0] at h
  | k + 1 => by
    have ih0 := spec_DrawReadRange.mono_l k
    · intro y0 y1 y2 y3 y4
      unfold spec_DrawReadRange.l0
      repeat' first
      | (with_reducible exact ih0 _ _ _ _ _)
      | (with_reducible exact spec_l1Cur_spoilt.mono _ _ _ _ _ _)
      | (with_reducible exact spec_l1Num.mono _ _)
      | (with_reducible exact LeO.refl _)
      | (with_reducible exact LeO.none _)
      | (with_reducible refine LeO.ite ?_ ?_)
      | (with_reducible refine LeO.bind ?_ (fun _ => ?_))
      | exact ih0 _ _ _ _ _
      | exact spec_l1Cur_spoilt.mono _ _ _ _ _ _
      | exact spec_l1Num.mono _ _
      | exact LeO.none _
      | refine LeO.ite ?_ ?_
      | refine LeO.bind ?_ (fun _ => ?_)
theorem spec_DrawReadRange.mono : ∀ a0 k, LeO (spec_DrawReadRange.f k a0) (spec_DrawReadRange.f (k + 1) a0) := by
  intro a0 k
  have ih0 := spec_DrawReadRange.mono_l k
  unfold spec_DrawReadRange.f
  repeat' first
      | (with_reducible exact ih0 _ _ _ _ _)
      | (with_reducible exact spec_l1Cur_spoilt.mono _ _ _ _ _ _)
      | (with_reducible exact spec_l1Num.mono _ _)
      | (with_reducible exact LeO.refl _)
      | (with_reducible exact LeO.none _)
      | (with_reducible refine LeO.ite ?_ ?_)
      | (with_reducible refine LeO.bind ?_ (fun _ => ?_))
      | exact ih0 _ _ _ _ _
      | exact spec_l1Cur_spoilt.mono _ _ _ _ _ _
      | exact spec_l1Num.mono _ _
      | exact LeO.none _
      | refine LeO.ite ?_ ?_
      | refine LeO.bind ?_ (fun _ => ?_)
set_option maxHeartbeats 8000000 in
set_option maxRecDepth 100000 in
theorem spec_DrawReadRange.calls (k : Nat) (A0 : Option Addr) (c0 : Nat) (l0 : List Int) (r1 : ByteArray) (r2 : Int) (w : World) (hr0 : Kd.C (Kd.int .u8) w A0 l0.length l0) (hc0 : l0.length ≤ c0) (h : spec_DrawReadRange.f k l0 = some (r1, r2)) :
    Calls Tryz.prog 19 #[.slice A0 l0.length c0] w fun e w' => e = .returned (.tuple #[.string r1, .int .i64 r2]) ∧ Below w.heap.size w w' := by
  have hu52 := Tryz.underlying52
  have HR0 := Aside0.mk hr0
  have HC0 := Aside0.mk hc0
  clear hr0 hc0
  have HB := Aside0.mk (Below.refl w.heap.size w)
  have H : ((spec_l1Cur_pick.f l0 0 0 3).bind fun bt246 => (spec_DrawReadRange.l0 k (⟨#[98, 121, 116, 101, 115, 61]⟩ : ByteArray) (wrap64 (1 + bt246.1)) l0 bt246.2.1 bt246.2.2)) = some (r1, r2) := h
  clear h
  replace H := Option.bind_eq_some_iff.mp H
  obtain ⟨⟨t246, t247, t248⟩, A20, H⟩ := H
  replace H : (spec_DrawReadRange.l0 k (⟨#[98, 121, 116, 101, 115, 61]⟩ : ByteArray) (wrap64 (1 + t246)) l0 t247 t248) = some (r1, r2) := H
  have A2 := Aside0.mk A20
  clear A20
  have H' := Aside0.mk H
  clear H
  go_enter Tryz.func19, Tryz.ntmps19
  go_wp2_with (first | ((with_reducible refine gate_dst (N := 10) rfl ?_); refine box_event ?hg (N := 10) ?hd (cs := #[.slice A0 l0.length c0, .int .i64 0, .int .u64 0]) (t := 52) ?hr ?_; (case hd => rfl); (case hg => rfl); (case hr => first | (go_simp; done) | (go_simp; rfl)); intro gb245 hg w3 hbox hb; have n0_ := Aside0.mk (below_step (by repeat (first | (with_reducible first | exact HB.out | apply below_alloc | apply pw_below_drewN | apply below_drew1) | exact HB.out)) hb); have n1_ := Aside0.mk (hbox); have n2_ := Aside0.mk ((by rw [hg]; exact (below_size (by repeat (first | (with_reducible first | exact HB.out | apply below_alloc | apply pw_below_drewN | apply below_drew1) | exact HB.out))) : w.heap.size ≤ gb245)); have n3_ := Aside0.mk ((by rw [hg]; exact (below_size (by repeat (first | (with_reducible first | exact HB.out | apply below_alloc | apply pw_below_drewN | apply below_drew1) | exact HB.out))) : w.heap.size ≤ gb245)); clear HB; have HB := n0_; have BK245 := n1_; have GW245 := n2_; have GE245 := n3_; clear n0_ n1_ n2_ n3_; clear hb hbox hg) | ((with_reducible refine gate_callee (f := 22) rfl ?_); refine goesL_ (some 12) rfl rfl Tryz.func22 (by kernel_rfl) rfl #[.pointer (some ⟨gb245, 0, none⟩), .int .i64 3] rfl (by (try simp only [List.map_toArray, List.map_cons, List.map_nil]); first | done | rfl | (simp only [List.length_drop, List.length_take]; rfl)) ?_; (with_reducible refine (spec_l1Cur_pick.calls gb245 l0 0 0 3 t246 t247 t248 w _ ?side1 ?side2 A2.out).mono ?_); (case side1 => exact (show IsS52 w _ gb245 l0 0 0 from ⟨_, _, (by (with_reducible repeat (first | refine blk_drewN ?_ _ | refine blk_drew ?_ | refine blk_alloc ?_ _)); exact BK245.out), GE245.out, HR0.out⟩)); (case side2 => repeat (first | (with_reducible first | exact HB.out | apply below_alloc | apply pw_below_drewN | apply below_drew1 | refine below_set ?_ (IsS52.ge HI245.out)) | exact HB.out)); rintro e w4 ⟨rfl, hi, hb, hk⟩; refine ⟨_, rfl, ?_⟩; have n0_ := Aside0.mk (hb); have n1_ := Aside0.mk (hi); clear HB; have HB := n0_; have HI245 := n1_; clear n0_ n1_; (try clear hb); (try clear hb2); (try clear hk); (try clear hi)))
  go_loopg [5, 6] k (fun kq v5 v6 w' => ∃ (x5_1 : ByteArray) (x6_1 : Int) (x246001_1 : Int) (x246002_1 : Int), v5 = .string x5_1 ∧ v6 = .int .i64 x6_1 ∧ Aside0 (spec_DrawReadRange.l0 kq x5_1 x6_1 l0 x246001_1 x246002_1 = some (r1, r2)) ∧ Aside0 (kq ≤ k) ∧ Aside0 (IsS52 w w' gb245 l0 x246001_1 x246002_1) ∧ Aside0 (Below w.heap.size w w'))
  case atStart => exact ⟨((⟨#[98, 121, 116, 101, 115, 61]⟩ : ByteArray)), (wrap64 (1 + t246)), (t247), (t248), (by first | rfl | (simp; done) | (simp [*]; done)), (by first | rfl | (simp; done) | (simp [*]; done)), H', ⟨Nat.le_refl _⟩, ⟨by repeat (first | (with_reducible first | exact HI245.out | apply IsS52.alloc | apply IsS52.drewN | apply IsS52.drew | apply IsS52.set_1 | apply IsS52.set_2) | exact HI245.out)⟩, ⟨by repeat (first | (with_reducible first | exact HB.out | apply below_alloc | apply pw_below_drewN | apply below_drew1 | refine below_set ?_ (IsS52.ge HI245.out)) | exact HB.out)⟩⟩
  case round =>
    clear H'
    try clear c1
    try clear c2
    try clear p2
    obtain ⟨x5_1, x6_1, x246001_1, x246002_1, rfl, rfl, HA, HK1, HI245, HB⟩ := hrel
    cases gk with
    | zero => exact absurd HA.out (by simp [spec_DrawReadRange.l0])
    | succ k1 =>
      have H := HA.out
      clear HA
      simp only [spec_DrawReadRange.l0] at H
      by_cases c5 : x6_1 > 0
      · rw [if_pos c5] at H
        have c5b0 : decide (0 < x6_1) = true := decide_eq_true c5
        clear c5
        replace H := Option.bind_eq_some_iff.mp H
        obtain ⟨⟨t249, t250, t251⟩, A60, H⟩ := H
        replace H : ((spec_l1Num.f k1 t249).bind fun t252 => (if t252.size + 1 ≤ 9223372036854775807 then ((spec_l1Cur_pick.f l0 t250 t251 10).bind fun bt253 => ((spec_l1Num.f k1 (wrap64 (t249 + bt253.1))).bind fun t256 => (if (t252 ++ (⟨#[45]⟩ : ByteArray)).size + t256.size ≤ 9223372036854775807 then ((spec_l1Num.f k1 t249).bind fun t257 => (if t257.size + 1 ≤ 9223372036854775807 then ((spec_l1Num.f k1 t249).bind fun t258 => (if 1 + t258.size ≤ 9223372036854775807 then ((spec_l1Num.f k1 t249).bind fun t259 => (if 1 + t259.size ≤ 9223372036854775807 then (if ((⟨#[32]⟩ : ByteArray) ++ t259).size + 4 ≤ 9223372036854775807 then ((spec_l1Cur_of.f l0 bt253.2.1 bt253.2.2 (([(t252 ++ (⟨#[45]⟩ : ByteArray)) ++ t256, t257 ++ (⟨#[45]⟩ : ByteArray), (⟨#[45]⟩ : ByteArray) ++ t258, ((⟨#[32]⟩ : ByteArray) ++ t259) ++ (⟨#[45, 57, 57, 32]⟩ : ByteArray), (⟨#[]⟩ : ByteArray)] : List ByteArray))).bind fun bt263 => (if bt263.1.size + 1 ≤ 9223372036854775807 then (if x5_1.size + (bt263.1 ++ (⟨#[44]⟩ : ByteArray)).size ≤ 9223372036854775807 then (spec_DrawReadRange.l0 k1 (x5_1 ++ (bt263.1 ++ (⟨#[44]⟩ : ByteArray))) (wrap64 (x6_1 - 1)) l0 bt263.2.1 bt263.2.2) else (none)) else (none))) else (none)) else (none))) else (none))) else (none))) else (none)))) else (none))) = some (r1, r2) := H
        have A6 := Aside0.mk A60
        clear A60
        replace H := Option.bind_eq_some_iff.mp H
        obtain ⟨t252, A70, H⟩ := H
        replace H : (if t252.size + 1 ≤ 9223372036854775807 then ((spec_l1Cur_pick.f l0 t250 t251 10).bind fun bt253 => ((spec_l1Num.f k1 (wrap64 (t249 + bt253.1))).bind fun t256 => (if (t252 ++ (⟨#[45]⟩ : ByteArray)).size + t256.size ≤ 9223372036854775807 then ((spec_l1Num.f k1 t249).bind fun t257 => (if t257.size + 1 ≤ 9223372036854775807 then ((spec_l1Num.f k1 t249).bind fun t258 => (if 1 + t258.size ≤ 9223372036854775807 then ((spec_l1Num.f k1 t249).bind fun t259 => (if 1 + t259.size ≤ 9223372036854775807 then (if ((⟨#[32]⟩ : ByteArray) ++ t259).size + 4 ≤ 9223372036854775807 then ((spec_l1Cur_of.f l0 bt253.2.1 bt253.2.2 (([(t252 ++ (⟨#[45]⟩ : ByteArray)) ++ t256, t257 ++ (⟨#[45]⟩ : ByteArray), (⟨#[45]⟩ : ByteArray) ++ t258, ((⟨#[32]⟩ : ByteArray) ++ t259) ++ (⟨#[45, 57, 57, 32]⟩ : ByteArray), (⟨#[]⟩ : ByteArray)] : List ByteArray))).bind fun bt263 => (if bt263.1.size + 1 ≤ 9223372036854775807 then (if x5_1.size + (bt263.1 ++ (⟨#[44]⟩ : ByteArray)).size ≤ 9223372036854775807 then (spec_DrawReadRange.l0 k1 (x5_1 ++ (bt263.1 ++ (⟨#[44]⟩ : ByteArray))) (wrap64 (x6_1 - 1)) l0 bt263.2.1 bt263.2.2) else (none)) else (none))) else (none)) else (none))) else (none))) else (none))) else (none)))) else (none)) = some (r1, r2) := H
        have A7 := Aside0.mk A70
        clear A70
        by_cases c8 : t252.size + 1 ≤ 9223372036854775807
        · rw [if_pos c8] at H
          have c8b0 := eq_true c8
          have c8b1 : decide (t252.size + 1 ≤ 9223372036854775807) = true := decide_eq_true c8
          try have c8b2 : (9223372036854775807 < t252.size + 1) = False := eq_false (Nat.not_lt.2 c8)
          replace H := Option.bind_eq_some_iff.mp H
          obtain ⟨⟨t253, t254, t255⟩, A90, H⟩ := H
          replace H : ((spec_l1Num.f k1 (wrap64 (t249 + t253))).bind fun t256 => (if (t252 ++ (⟨#[45]⟩ : ByteArray)).size + t256.size ≤ 9223372036854775807 then ((spec_l1Num.f k1 t249).bind fun t257 => (if t257.size + 1 ≤ 9223372036854775807 then ((spec_l1Num.f k1 t249).bind fun t258 => (if 1 + t258.size ≤ 9223372036854775807 then ((spec_l1Num.f k1 t249).bind fun t259 => (if 1 + t259.size ≤ 9223372036854775807 then (if ((⟨#[32]⟩ : ByteArray) ++ t259).size + 4 ≤ 9223372036854775807 then ((spec_l1Cur_of.f l0 t254 t255 (([(t252 ++ (⟨#[45]⟩ : ByteArray)) ++ t256, t257 ++ (⟨#[45]⟩ : ByteArray), (⟨#[45]⟩ : ByteArray) ++ t258, ((⟨#[32]⟩ : ByteArray) ++ t259) ++ (⟨#[45, 57, 57, 32]⟩ : ByteArray), (⟨#[]⟩ : ByteArray)] : List ByteArray))).bind fun bt263 => (if bt263.1.size + 1 ≤ 9223372036854775807 then (if x5_1.size + (bt263.1 ++ (⟨#[44]⟩ : ByteArray)).size ≤ 9223372036854775807 then (spec_DrawReadRange.l0 k1 (x5_1 ++ (bt263.1 ++ (⟨#[44]⟩ : ByteArray))) (wrap64 (x6_1 - 1)) l0 bt263.2.1 bt263.2.2) else (none)) else (none))) else (none)) else (none))) else (none))) else (none))) else (none))) = some (r1, r2) := H
          have A9 := Aside0.mk A90
          clear A90
          replace H := Option.bind_eq_some_iff.mp H
          obtain ⟨t256, A100, H⟩ := H
          replace H : (if (t252 ++ (⟨#[45]⟩ : ByteArray)).size + t256.size ≤ 9223372036854775807 then ((spec_l1Num.f k1 t249).bind fun t257 => (if t257.size + 1 ≤ 9223372036854775807 then ((spec_l1Num.f k1 t249).bind fun t258 => (if 1 + t258.size ≤ 9223372036854775807 then ((spec_l1Num.f k1 t249).bind fun t259 => (if 1 + t259.size ≤ 9223372036854775807 then (if ((⟨#[32]⟩ : ByteArray) ++ t259).size + 4 ≤ 9223372036854775807 then ((spec_l1Cur_of.f l0 t254 t255 (([(t252 ++ (⟨#[45]⟩ : ByteArray)) ++ t256, t257 ++ (⟨#[45]⟩ : ByteArray), (⟨#[45]⟩ : ByteArray) ++ t258, ((⟨#[32]⟩ : ByteArray) ++ t259) ++ (⟨#[45, 57, 57, 32]⟩ : ByteArray), (⟨#[]⟩ : ByteArray)] : List ByteArray))).bind fun bt263 => (if bt263.1.size + 1 ≤ 9223372036854775807 then (if x5_1.size + (bt263.1 ++ (⟨#[44]⟩ : ByteArray)).size ≤ 9223372036854775807 then (spec_DrawReadRange.l0 k1 (x5_1 ++ (bt263.1 ++ (⟨#[44]⟩ : ByteArray))) (wrap64 (x6_1 - 1)) l0 bt263.2.1 bt263.2.2) else (none)) else (none))) else (none)) else (none))) else (none))) else (none))) else (none)) = some (r1, r2) := H
          have A10 := Aside0.mk A100
          clear A100
          by_cases c11 : (t252 ++ (⟨#[45]⟩ : ByteArray)).size + t256.size ≤ 9223372036854775807
          · rw [if_pos c11] at H
            have c11b0 := eq_true c11
            have c11b1 : decide ((t252 ++ (⟨#[45]⟩ : ByteArray)).size + t256.size ≤ 9223372036854775807) = true := decide_eq_true c11
            try have c11b2 : (9223372036854775807 < (t252 ++ (⟨#[45]⟩ : ByteArray)).size + t256.size) = False := eq_false (Nat.not_lt.2 c11)
            try have c11b3 : (9223372036854775807 < t252.size + 1 + t256.size) = False := eq_false (Nat.not_lt.2 (by have z_ := c11; simp only [ByteArray.size_append] at z_; exact z_))
            replace H := Option.bind_eq_some_iff.mp H
            obtain ⟨t257, A120, H⟩ := H
            replace H : (if t257.size + 1 ≤ 9223372036854775807 then ((spec_l1Num.f k1 t249).bind fun t258 => (if 1 + t258.size ≤ 9223372036854775807 then ((spec_l1Num.f k1 t249).bind fun t259 => (if 1 + t259.size ≤ 9223372036854775807 then (if ((⟨#[32]⟩ : ByteArray) ++ t259).size + 4 ≤ 9223372036854775807 then ((spec_l1Cur_of.f l0 t254 t255 (([(t252 ++ (⟨#[45]⟩ : ByteArray)) ++ t256, t257 ++ (⟨#[45]⟩ : ByteArray), (⟨#[45]⟩ : ByteArray) ++ t258, ((⟨#[32]⟩ : ByteArray) ++ t259) ++ (⟨#[45, 57, 57, 32]⟩ : ByteArray), (⟨#[]⟩ : ByteArray)] : List ByteArray))).bind fun bt263 => (if bt263.1.size + 1 ≤ 9223372036854775807 then (if x5_1.size + (bt263.1 ++ (⟨#[44]⟩ : ByteArray)).size ≤ 9223372036854775807 then (spec_DrawReadRange.l0 k1 (x5_1 ++ (bt263.1 ++ (⟨#[44]⟩ : ByteArray))) (wrap64 (x6_1 - 1)) l0 bt263.2.1 bt263.2.2) else (none)) else (none))) else (none)) else (none))) else (none))) else (none)) = some (r1, r2) := H
            have A12 := Aside0.mk A120
            clear A120
            by_cases c13 : t257.size + 1 ≤ 9223372036854775807
            · rw [if_pos c13] at H
              have c13b0 := eq_true c13
              have c13b1 : decide (t257.size + 1 ≤ 9223372036854775807) = true := decide_eq_true c13
              try have c13b2 : (9223372036854775807 < t257.size + 1) = False := eq_false (Nat.not_lt.2 c13)
              replace H := Option.bind_eq_some_iff.mp H
              obtain ⟨t258, A140, H⟩ := H
              replace H : (if 1 + t258.size ≤ 9223372036854775807 then ((spec_l1Num.f k1 t249).bind fun t259 => (if 1 + t259.size ≤ 9223372036854775807 then (if ((⟨#[32]⟩ : ByteArray) ++ t259).size + 4 ≤ 9223372036854775807 then ((spec_l1Cur_of.f l0 t254 t255 (([(t252 ++ (⟨#[45]⟩ : ByteArray)) ++ t256, t257 ++ (⟨#[45]⟩ : ByteArray), (⟨#[45]⟩ : ByteArray) ++ t258, ((⟨#[32]⟩ : ByteArray) ++ t259) ++ (⟨#[45, 57, 57, 32]⟩ : ByteArray), (⟨#[]⟩ : ByteArray)] : List ByteArray))).bind fun bt263 => (if bt263.1.size + 1 ≤ 9223372036854775807 then (if x5_1.size + (bt263.1 ++ (⟨#[44]⟩ : ByteArray)).size ≤ 9223372036854775807 then (spec_DrawReadRange.l0 k1 (x5_1 ++ (bt263.1 ++ (⟨#[44]⟩ : ByteArray))) (wrap64 (x6_1 - 1)) l0 bt263.2.1 bt263.2.2) else (none)) else (none))) else (none)) else (none))) else (none)) = some (r1, r2) := H
              have A14 := Aside0.mk A140
              clear A140
              by_cases c15 : 1 + t258.size ≤ 9223372036854775807
              · rw [if_pos c15] at H
                have c15b0 := eq_true c15
                have c15b1 : decide (1 + t258.size ≤ 9223372036854775807) = true := decide_eq_true c15
                try have c15b2 : (9223372036854775807 < 1 + t258.size) = False := eq_false (Nat.not_lt.2 c15)
                replace H := Option.bind_eq_some_iff.mp H
                obtain ⟨t259, A160, H⟩ := H
                replace H : (if 1 + t259.size ≤ 9223372036854775807 then (if ((⟨#[32]⟩ : ByteArray) ++ t259).size + 4 ≤ 9223372036854775807 then ((spec_l1Cur_of.f l0 t254 t255 (([(t252 ++ (⟨#[45]⟩ : ByteArray)) ++ t256, t257 ++ (⟨#[45]⟩ : ByteArray), (⟨#[45]⟩ : ByteArray) ++ t258, ((⟨#[32]⟩ : ByteArray) ++ t259) ++ (⟨#[45, 57, 57, 32]⟩ : ByteArray), (⟨#[]⟩ : ByteArray)] : List ByteArray))).bind fun bt263 => (if bt263.1.size + 1 ≤ 9223372036854775807 then (if x5_1.size + (bt263.1 ++ (⟨#[44]⟩ : ByteArray)).size ≤ 9223372036854775807 then (spec_DrawReadRange.l0 k1 (x5_1 ++ (bt263.1 ++ (⟨#[44]⟩ : ByteArray))) (wrap64 (x6_1 - 1)) l0 bt263.2.1 bt263.2.2) else (none)) else (none))) else (none)) else (none)) = some (r1, r2) := H
                have A16 := Aside0.mk A160
                clear A160
                by_cases c17 : 1 + t259.size ≤ 9223372036854775807
                · rw [if_pos c17] at H
                  have c17b0 := eq_true c17
                  have c17b1 : decide (1 + t259.size ≤ 9223372036854775807) = true := decide_eq_true c17
                  try have c17b2 : (9223372036854775807 < 1 + t259.size) = False := eq_false (Nat.not_lt.2 c17)
                  by_cases c18 : ((⟨#[32]⟩ : ByteArray) ++ t259).size + 4 ≤ 9223372036854775807
                  · rw [if_pos c18] at H
                    have c18b0 := eq_true c18
                    have c18b1 : decide (((⟨#[32]⟩ : ByteArray) ++ t259).size + 4 ≤ 9223372036854775807) = true := decide_eq_true c18
                    try have c18b2 : (9223372036854775807 < ((⟨#[32]⟩ : ByteArray) ++ t259).size + 4) = False := eq_false (Nat.not_lt.2 c18)
                    try have c18b3 : (9223372036854775807 < 1 + t259.size + 4) = False := eq_false (Nat.not_lt.2 (by have z_ := c18; simp only [ByteArray.size_append] at z_; exact z_))
                    obtain ⟨y260, hy260⟩ : ∃ y_ : List ByteArray, y_ = (([(t252 ++ (⟨#[45]⟩ : ByteArray)) ++ t256, t257 ++ (⟨#[45]⟩ : ByteArray), (⟨#[45]⟩ : ByteArray) ++ t258, ((⟨#[32]⟩ : ByteArray) ++ t259) ++ (⟨#[45, 57, 57, 32]⟩ : ByteArray), (⟨#[]⟩ : ByteArray)] : List ByteArray)) := ⟨_, rfl⟩
                    replace H : ((spec_l1Cur_of.f l0 t254 t255 y260).bind fun bt263 => (if bt263.1.size + 1 ≤ 9223372036854775807 then (if x5_1.size + (bt263.1 ++ (⟨#[44]⟩ : ByteArray)).size ≤ 9223372036854775807 then (spec_DrawReadRange.l0 k1 (x5_1 ++ (bt263.1 ++ (⟨#[44]⟩ : ByteArray))) (wrap64 (x6_1 - 1)) l0 bt263.2.1 bt263.2.2) else (none)) else (none))) = some (r1, r2) := by first | (rw [hy260]; with_reducible exact H) | (have H2_ := (Option.bind_some _ _).symm.trans H; rw [hy260]; with_reducible exact H2_) | (have H2_ := (Option.bind_some _ _).symm.trans H; with_reducible exact H2_) | with_reducible exact H | (rw [hy260]; exact H) | exact H
                    have Ny260 := Aside0.mk hy260
                    clear hy260
                    replace H := Option.bind_eq_some_iff.mp H
                    obtain ⟨⟨t263, t264, t265⟩, A190, H⟩ := H
                    replace H : (if t263.size + 1 ≤ 9223372036854775807 then (if x5_1.size + (t263 ++ (⟨#[44]⟩ : ByteArray)).size ≤ 9223372036854775807 then (spec_DrawReadRange.l0 k1 (x5_1 ++ (t263 ++ (⟨#[44]⟩ : ByteArray))) (wrap64 (x6_1 - 1)) l0 t264 t265) else (none)) else (none)) = some (r1, r2) := H
                    have A19 := Aside0.mk A190
                    clear A190
                    by_cases c20 : t263.size + 1 ≤ 9223372036854775807
                    · rw [if_pos c20] at H
                      have c20b0 := eq_true c20
                      have c20b1 : decide (t263.size + 1 ≤ 9223372036854775807) = true := decide_eq_true c20
                      try have c20b2 : (9223372036854775807 < t263.size + 1) = False := eq_false (Nat.not_lt.2 c20)
                      by_cases c21 : x5_1.size + (t263 ++ (⟨#[44]⟩ : ByteArray)).size ≤ 9223372036854775807
                      · rw [if_pos c21] at H
                        have c21b0 := eq_true c21
                        have c21b1 : decide (x5_1.size + (t263 ++ (⟨#[44]⟩ : ByteArray)).size ≤ 9223372036854775807) = true := decide_eq_true c21
                        try have c21b2 : (9223372036854775807 < x5_1.size + (t263 ++ (⟨#[44]⟩ : ByteArray)).size) = False := eq_false (Nat.not_lt.2 c21)
                        try have c21b3 : (9223372036854775807 < x5_1.size + (t263.size + 1)) = False := eq_false (Nat.not_lt.2 (by have z_ := c21; simp only [ByteArray.size_append] at z_; exact z_))
                        have H' := Aside0.mk H
                        clear H
                        go_wp2_with (first | ((with_reducible refine gate_callee (f := 22) rfl ?_); refine goesL_ (some 19) rfl rfl Tryz.func22 (by kernel_rfl) rfl #[.pointer (some ⟨gb245, 0, none⟩), .int .i64 30] rfl (by (try simp only [List.map_toArray, List.map_cons, List.map_nil]); first | done | rfl | (simp only [List.length_drop, List.length_take]; rfl)) ?_; (with_reducible refine (spec_l1Cur_pick.calls gb245 l0 x246001_1 x246002_1 30 t249 t250 t251 w _ ?side1 ?side2 A6.out).mono ?_); (case side1 => repeat (first | (with_reducible first | exact HI245.out | apply IsS52.alloc | apply IsS52.drewN | apply IsS52.drew | apply IsS52.set_1 | apply IsS52.set_2) | exact HI245.out)); (case side2 => repeat (first | (with_reducible first | exact HB.out | apply below_alloc | apply pw_below_drewN | apply below_drew1 | refine below_set ?_ (IsS52.ge HI245.out)) | exact HB.out)); rintro e w22 ⟨rfl, hi, hb, hk⟩; refine ⟨_, rfl, ?_⟩; have n0_ := Aside0.mk (hb); have n1_ := Aside0.mk (hi); clear HB; clear HI245; have HB := n0_; have HI245 := n1_; clear n0_ n1_; (try clear hb); (try clear hb2); (try clear hk); (try clear hi)) | ((with_reducible refine gate_callee (f := 51) rfl ?_); refine goesL_ (some 23) rfl rfl Tryz.func51 (by kernel_rfl) rfl #[.int .i64 t249] rfl (by (try simp only [List.map_toArray, List.map_cons, List.map_nil]); first | done | rfl | (simp only [List.length_drop, List.length_take]; rfl)) ?_; (with_reducible refine (spec_l1Num.calls k1 t249 t252 _ A7.out).mono ?_); rintro e w23 ⟨rfl, hb⟩; refine ⟨_, rfl, ?_⟩; have n0_ := Aside0.mk (IsS52.below (by repeat (first | (with_reducible first | exact HI245.out | apply IsS52.alloc | apply IsS52.drewN | apply IsS52.drew | apply IsS52.set_1 | apply IsS52.set_2) | exact HI245.out)) hb); have n1_ := Aside0.mk (below_step (by repeat (first | (with_reducible first | exact HB.out | apply below_alloc | apply pw_below_drewN | apply below_drew1 | refine below_set ?_ (IsS52.ge HI245.out)) | exact HB.out)) hb); clear HI245; clear HB; have HI245 := n0_; have HB := n1_; clear n0_ n1_; (try clear hb); (try clear hb2); (try clear hk); (try clear hi)) | ((with_reducible refine gate_callee (f := 22) rfl ?_); refine goesL_ (some 27) rfl rfl Tryz.func22 (by kernel_rfl) rfl #[.pointer (some ⟨gb245, 0, none⟩), .int .i64 10] rfl (by (try simp only [List.map_toArray, List.map_cons, List.map_nil]); first | done | rfl | (simp only [List.length_drop, List.length_take]; rfl)) ?_; (with_reducible refine (spec_l1Cur_pick.calls gb245 l0 t250 t251 10 t253 t254 t255 w _ ?side1 ?side2 A9.out).mono ?_); (case side1 => repeat (first | (with_reducible first | exact HI245.out | apply IsS52.alloc | apply IsS52.drewN | apply IsS52.drew | apply IsS52.set_1 | apply IsS52.set_2) | exact HI245.out)); (case side2 => repeat (first | (with_reducible first | exact HB.out | apply below_alloc | apply pw_below_drewN | apply below_drew1 | refine below_set ?_ (IsS52.ge HI245.out)) | exact HB.out)); rintro e w24 ⟨rfl, hi, hb, hk⟩; refine ⟨_, rfl, ?_⟩; have n0_ := Aside0.mk (hb); have n1_ := Aside0.mk (hi); clear HB; clear HI245; have HB := n0_; have HI245 := n1_; clear n0_ n1_; (try clear hb); (try clear hb2); (try clear hk); (try clear hi)) | ((with_reducible refine gate_callee (f := 51) rfl ?_); refine goesL_ (some 29) rfl rfl Tryz.func51 (by kernel_rfl) rfl #[.int .i64 (wrap64 (t249 + t253))] rfl (by (try simp only [List.map_toArray, List.map_cons, List.map_nil]); first | done | rfl | (simp only [List.length_drop, List.length_take]; rfl)) ?_; (with_reducible refine (spec_l1Num.calls k1 (wrap64 (t249 + t253)) t256 _ A10.out).mono ?_); rintro e w25 ⟨rfl, hb⟩; refine ⟨_, rfl, ?_⟩; have n0_ := Aside0.mk (IsS52.below (by repeat (first | (with_reducible first | exact HI245.out | apply IsS52.alloc | apply IsS52.drewN | apply IsS52.drew | apply IsS52.set_1 | apply IsS52.set_2) | exact HI245.out)) hb); have n1_ := Aside0.mk (below_step (by repeat (first | (with_reducible first | exact HB.out | apply below_alloc | apply pw_below_drewN | apply below_drew1 | refine below_set ?_ (IsS52.ge HI245.out)) | exact HB.out)) hb); clear HI245; clear HB; have HI245 := n0_; have HB := n1_; clear n0_ n1_; (try clear hb); (try clear hb2); (try clear hk); (try clear hi)) | ((with_reducible refine gate_callee (f := 51) rfl ?_); refine goesL_ (some 32) rfl rfl Tryz.func51 (by kernel_rfl) rfl #[.int .i64 t249] rfl (by (try simp only [List.map_toArray, List.map_cons, List.map_nil]); first | done | rfl | (simp only [List.length_drop, List.length_take]; rfl)) ?_; (with_reducible refine (spec_l1Num.calls k1 t249 t257 _ A12.out).mono ?_); rintro e w26 ⟨rfl, hb⟩; refine ⟨_, rfl, ?_⟩; have n0_ := Aside0.mk (IsS52.below (by repeat (first | (with_reducible first | exact HI245.out | apply IsS52.alloc | apply IsS52.drewN | apply IsS52.drew | apply IsS52.set_1 | apply IsS52.set_2) | exact HI245.out)) hb); have n1_ := Aside0.mk (below_step (by repeat (first | (with_reducible first | exact HB.out | apply below_alloc | apply pw_below_drewN | apply below_drew1 | refine below_set ?_ (IsS52.ge HI245.out)) | exact HB.out)) hb); clear HI245; clear HB; have HI245 := n0_; have HB := n1_; clear n0_ n1_; (try clear hb); (try clear hb2); (try clear hk); (try clear hi)) | ((with_reducible refine gate_callee (f := 51) rfl ?_); refine goesL_ (some 35) rfl rfl Tryz.func51 (by kernel_rfl) rfl #[.int .i64 t249] rfl (by (try simp only [List.map_toArray, List.map_cons, List.map_nil]); first | done | rfl | (simp only [List.length_drop, List.length_take]; rfl)) ?_; (with_reducible refine (spec_l1Num.calls k1 t249 t258 _ A14.out).mono ?_); rintro e w27 ⟨rfl, hb⟩; refine ⟨_, rfl, ?_⟩; have n0_ := Aside0.mk (IsS52.below (by repeat (first | (with_reducible first | exact HI245.out | apply IsS52.alloc | apply IsS52.drewN | apply IsS52.drew | apply IsS52.set_1 | apply IsS52.set_2) | exact HI245.out)) hb); have n1_ := Aside0.mk (below_step (by repeat (first | (with_reducible first | exact HB.out | apply below_alloc | apply pw_below_drewN | apply below_drew1 | refine below_set ?_ (IsS52.ge HI245.out)) | exact HB.out)) hb); clear HI245; clear HB; have HI245 := n0_; have HB := n1_; clear n0_ n1_; (try clear hb); (try clear hb2); (try clear hk); (try clear hi)) | ((with_reducible refine gate_callee (f := 51) rfl ?_); refine goesL_ (some 38) rfl rfl Tryz.func51 (by kernel_rfl) rfl #[.int .i64 t249] rfl (by (try simp only [List.map_toArray, List.map_cons, List.map_nil]); first | done | rfl | (simp only [List.length_drop, List.length_take]; rfl)) ?_; (with_reducible refine (spec_l1Num.calls k1 t249 t259 _ A16.out).mono ?_); rintro e w28 ⟨rfl, hb⟩; refine ⟨_, rfl, ?_⟩; have n0_ := Aside0.mk (IsS52.below (by repeat (first | (with_reducible first | exact HI245.out | apply IsS52.alloc | apply IsS52.drewN | apply IsS52.drew | apply IsS52.set_1 | apply IsS52.set_2) | exact HI245.out)) hb); have n1_ := Aside0.mk (below_step (by repeat (first | (with_reducible first | exact HB.out | apply below_alloc | apply pw_below_drewN | apply below_drew1 | refine below_set ?_ (IsS52.ge HI245.out)) | exact HB.out)) hb); clear HI245; clear HB; have HI245 := n0_; have HB := n1_; clear n0_ n1_; (try clear hb); (try clear hb2); (try clear hk); (try clear hi)) | ((with_reducible refine gate_dst (N := 41) rfl ?_); refine Kd.R_lit Kd.string _ 9 ?hg (N := 41) ?hd (xs := ([(t252 ++ (⟨#[45]⟩ : ByteArray)) ++ t256, t257 ++ (⟨#[45]⟩ : ByteArray), (⟨#[45]⟩ : ByteArray) ++ t258, ((⟨#[32]⟩ : ByteArray) ++ t259) ++ (⟨#[45, 57, 57, 32]⟩ : ByteArray), (⟨#[]⟩ : ByteArray)] : List ByteArray)) (inner := [.string ((t252 ++ (⟨#[45]⟩ : ByteArray)) ++ t256), .string (t257 ++ (⟨#[45]⟩ : ByteArray)), .string ((⟨#[45]⟩ : ByteArray) ++ t258), .string (((⟨#[32]⟩ : ByteArray) ++ t259) ++ (⟨#[45, 57, 57, 32]⟩ : ByteArray)), .string (⟨#[]⟩ : ByteArray)]) (ok := fun _ => True) (okp := fun _ => True) ?hr ?hp (fun _ hk => hk) trivial (Below.refl _ _) (Nat.le_refl _) (by simp) ?_; (case hd => rfl); (case hg => rfl); (case hr => first | (go_simp; done) | (go_simp; rfl)); (case hp => exact (Reps.one (show Kd.M Kd.string _ _ _ ((t252 ++ (⟨#[45]⟩ : ByteArray)) ++ t256) [.string ((t252 ++ (⟨#[45]⟩ : ByteArray)) ++ t256)] from rfl) (Reps.one (show Kd.M Kd.string _ _ _ (t257 ++ (⟨#[45]⟩ : ByteArray)) [.string (t257 ++ (⟨#[45]⟩ : ByteArray))] from rfl) (Reps.one (show Kd.M Kd.string _ _ _ ((⟨#[45]⟩ : ByteArray) ++ t258) [.string ((⟨#[45]⟩ : ByteArray) ++ t258)] from rfl) (Reps.one (show Kd.M Kd.string _ _ _ (((⟨#[32]⟩ : ByteArray) ++ t259) ++ (⟨#[45, 57, 57, 32]⟩ : ByteArray)) [.string (((⟨#[32]⟩ : ByteArray) ++ t259) ++ (⟨#[45, 57, 57, 32]⟩ : ByteArray))] from rfl) (Reps.one (show Kd.M Kd.string _ _ _ (⟨#[]⟩ : ByteArray) [.string (⟨#[]⟩ : ByteArray)] from rfl) (Reps.none _ _))))))); intro v261 w29 ho30 hb hg_ hnew_; clear hg_ hnew_; (first | rw [← Ny260.out] at ho30 | (simp only [Int.reduceToNat] at ho30; rw [← Ny260.out] at ho30)); have n0_ := Aside0.mk (Kd.R_lower ho30 (below_size (by repeat (first | (with_reducible first | exact HB.out | apply below_alloc | apply pw_below_drewN | apply below_drew1 | refine below_set ?_ (IsS52.ge HI245.out)) | exact HB.out)))); have n1_ := Aside0.mk (IsS52.below (by repeat (first | (with_reducible first | exact HI245.out | apply IsS52.alloc | apply IsS52.drewN | apply IsS52.drew | apply IsS52.set_1 | apply IsS52.set_2) | exact HI245.out)) hb); have n2_ := Aside0.mk (below_step (by repeat (first | (with_reducible first | exact HB.out | apply below_alloc | apply pw_below_drewN | apply below_drew1 | refine below_set ?_ (IsS52.ge HI245.out)) | exact HB.out)) hb); clear HI245; clear HB; have HO262 := n0_; have HI245 := n1_; have HB := n2_; clear n0_ n1_ n2_; clear hb ho30; obtain ⟨Ao31, co31, eo31⟩ := Kd.R_slice HO262.out; subst eo31) | ((with_reducible refine gate_callee (f := 23) rfl ?_); refine goesL_ (some 42) rfl rfl Tryz.func23 (by kernel_rfl) rfl #[.pointer (some ⟨gb245, 0, none⟩), .slice Ao31 y260.length co31] rfl (by (try simp only [List.map_toArray, List.map_cons, List.map_nil]); first | done | rfl | (simp only [List.length_drop, List.length_take]; rfl)) ?_; (with_reducible refine (spec_l1Cur_of.calls gb245 l0 t254 t255 _ _ y260 t263 t264 t265 w _ ?side1 ?side2 ?side3 ?side4 ?side5 A19.out).mono ?_); (case side1 => repeat (first | (with_reducible first | exact HI245.out | apply IsS52.alloc | apply IsS52.drewN | apply IsS52.drew | apply IsS52.set_1 | apply IsS52.set_2) | exact HI245.out)); (case side2 => repeat (first | (with_reducible first | exact HB.out | apply below_alloc | apply pw_below_drewN | apply below_drew1 | refine below_set ?_ (IsS52.ge HI245.out)) | exact HB.out)); (case side3 => repeat (first | exact (Kd.R_reads' HO262.out).2.2 | (with_reducible refine Kd.C_alloc ?_ _) | (with_reducible refine Kd.C_drewN ?_ _) | (with_reducible refine Kd.C_drew ?_))); (case side4 => exact (Kd.R_reads' HO262.out).2.1); (case side5 => exact far_slice (IsS52.own_ne HI245.out HO262.out (by decide))); rintro e w32 ⟨rfl, hi, hb, hk⟩; refine ⟨_, rfl, ?_⟩; have n0_ := Aside0.mk (Kd.R_mono (Kd.R_keep (IsS52.apart (show IsS52 w _ gb245 l0 t254 t255 from by repeat (first | (with_reducible first | exact HI245.out | apply IsS52.alloc | apply IsS52.drewN | apply IsS52.drew | apply IsS52.set_1 | apply IsS52.set_2) | exact HI245.out)) (by (with_reducible repeat (first | apply Kd.R_alloc | apply Kd.R_drewN | apply Kd.R_drew)); exact HO262.out) (by decide)) hk (fun _ h => h.2)) (fun _ h => h.1)); have n1_ := Aside0.mk (hb); have n2_ := Aside0.mk (hi); clear HO262; clear HB; clear HI245; have HO262 := n0_; have HB := n1_; have HI245 := n2_; clear n0_ n1_ n2_; (try clear hb); (try clear hb2); (try clear hk); (try clear hi)))
                        go_roundg k1
                        case measure => have := HK1.out; omega
                        case rel => exact ⟨(x5_1 ++ (t263 ++ (⟨#[44]⟩ : ByteArray))), (wrap64 (x6_1 - 1)), (t264), (t265), (by first | rfl | (simp; done) | (simp [*]; done)), (by first | rfl | (simp; done) | (simp [*]; done)), H', ⟨by have := HK1.out; omega⟩, ⟨by repeat (first | (with_reducible first | exact HI245.out | apply IsS52.alloc | apply IsS52.drewN | apply IsS52.drew | apply IsS52.set_1 | apply IsS52.set_2) | exact HI245.out)⟩, ⟨by repeat (first | (with_reducible first | exact HB.out | apply below_alloc | apply pw_below_drewN | apply below_drew1 | refine below_set ?_ (IsS52.ge HI245.out)) | exact HB.out)⟩⟩
                      · rw [if_neg c21] at H
                        exact absurd H (by simp)
                    · rw [if_neg c20] at H
                      exact absurd H (by simp)
                  · rw [if_neg c18] at H
                    exact absurd H (by simp)
                · rw [if_neg c17] at H
                  exact absurd H (by simp)
              · rw [if_neg c15] at H
                exact absurd H (by simp)
            · rw [if_neg c13] at H
              exact absurd H (by simp)
          · rw [if_neg c11] at H
            exact absurd H (by simp)
        · rw [if_neg c8] at H
          exact absurd H (by simp)
      · rw [if_neg c5] at H
        have c5b0 : decide (0 < x6_1) = false := decide_eq_false c5
        clear c5
        replace H := Option.bind_eq_some_iff.mp H
        obtain ⟨⟨t266, t267, t268⟩, A330, H⟩ := H
        replace H : (if t266 = true then ((spec_l1Cur_spoilt.f k1 l0 t267 t268 x5_1 (⟨#[45, 44, 48, 98, 61]⟩ : ByteArray)).bind fun bt269 => ((spec_l1Cur_among.f l0 bt269.2.1 bt269.2.2 (([0, 1, 10, 25, 1000000, 1000001] : List Int))).bind fun bt275 => (some (bt269.1, bt275.1)))) else ((spec_l1Cur_among.f l0 t267 t268 (([0, 1, 10, 25, 1000000, 1000001] : List Int))).bind fun bt281 => (some (x5_1, bt281.1)))) = some (r1, r2) := H
        have A33 := Aside0.mk A330
        clear A330
        by_cases c34 : t266 = true
        · subst c34
          have H1 : ((spec_l1Cur_spoilt.f k1 l0 t267 t268 x5_1 (⟨#[45, 44, 48, 98, 61]⟩ : ByteArray)).bind fun bt269 => ((spec_l1Cur_among.f l0 bt269.2.1 bt269.2.2 (([0, 1, 10, 25, 1000000, 1000001] : List Int))).bind fun bt275 => (some (bt269.1, bt275.1)))) = some (r1, r2) := by rw [if_pos rfl] at H; exact H
          clear H
          have H := H1
          clear H1
          replace H := Option.bind_eq_some_iff.mp H
          obtain ⟨⟨t269, t270, t271⟩, A350, H⟩ := H
          replace H : ((spec_l1Cur_among.f l0 t270 t271 (([0, 1, 10, 25, 1000000, 1000001] : List Int))).bind fun bt275 => (some (t269, bt275.1))) = some (r1, r2) := H
          have A35 := Aside0.mk A350
          clear A350
          obtain ⟨y272, hy272⟩ : ∃ y_ : List Int, y_ = (([0, 1, 10, 25, 1000000, 1000001] : List Int)) := ⟨_, rfl⟩
          replace H : ((spec_l1Cur_among.f l0 t270 t271 y272).bind fun bt275 => (some (t269, bt275.1))) = some (r1, r2) := by first | (rw [hy272]; with_reducible exact H) | (have H2_ := (Option.bind_some _ _).symm.trans H; rw [hy272]; with_reducible exact H2_) | (have H2_ := (Option.bind_some _ _).symm.trans H; with_reducible exact H2_) | with_reducible exact H | (rw [hy272]; exact H) | exact H
          have Ny272 := Aside0.mk hy272
          clear hy272
          replace H := Option.bind_eq_some_iff.mp H
          obtain ⟨⟨t275, t276, t277⟩, A360, H⟩ := H
          replace H : (some (t269, t275)) = some (r1, r2) := H
          have A36 := Aside0.mk A360
          clear A360
          simp only [Option.some.injEq, Prod.mk.injEq] at H
          obtain ⟨rfl, rfl⟩ := H
          go_wp2_with (first | ((with_reducible refine gate_callee (f := 36) rfl ?_); refine goesL_ (some 46) rfl rfl Tryz.func36 (by kernel_rfl) rfl #[.pointer (some ⟨gb245, 0, none⟩), .int .i64 6] rfl (by (try simp only [List.map_toArray, List.map_cons, List.map_nil]); first | done | rfl | (simp only [List.length_drop, List.length_take]; rfl)) ?_; (with_reducible refine (spec_l1Cur_one.calls gb245 l0 x246001_1 x246002_1 6 true t267 t268 w _ ?side1 ?side2 A33.out).mono ?_); (case side1 => repeat (first | (with_reducible first | exact HI245.out | apply IsS52.alloc | apply IsS52.drewN | apply IsS52.drew | apply IsS52.set_1 | apply IsS52.set_2) | exact HI245.out)); (case side2 => repeat (first | (with_reducible first | exact HB.out | apply below_alloc | apply pw_below_drewN | apply below_drew1 | refine below_set ?_ (IsS52.ge HI245.out)) | exact HB.out)); rintro e w37 ⟨rfl, hi, hb, hk⟩; refine ⟨_, rfl, ?_⟩; have n0_ := Aside0.mk (hb); have n1_ := Aside0.mk (hi); clear HB; clear HI245; have HB := n0_; have HI245 := n1_; clear n0_ n1_; (try clear hb); (try clear hb2); (try clear hk); (try clear hi)) | ((with_reducible refine gate_callee (f := 37) rfl ?_); refine goesL_ (some 49) rfl rfl Tryz.func37 (by kernel_rfl) rfl #[.pointer (some ⟨gb245, 0, none⟩), .string x5_1, .string (⟨#[45, 44, 48, 98, 61]⟩ : ByteArray)] rfl (by (try simp only [List.map_toArray, List.map_cons, List.map_nil]); first | done | rfl | (simp only [List.length_drop, List.length_take]; rfl)) ?_; (with_reducible refine (spec_l1Cur_spoilt.calls k1 gb245 l0 t267 t268 x5_1 (⟨#[45, 44, 48, 98, 61]⟩ : ByteArray) t269 t270 t271 w _ ?side1 ?side2 A35.out).mono ?_); (case side1 => repeat (first | (with_reducible first | exact HI245.out | apply IsS52.alloc | apply IsS52.drewN | apply IsS52.drew | apply IsS52.set_1 | apply IsS52.set_2) | exact HI245.out)); (case side2 => repeat (first | (with_reducible first | exact HB.out | apply below_alloc | apply pw_below_drewN | apply below_drew1 | refine below_set ?_ (IsS52.ge HI245.out)) | exact HB.out)); rintro e w38 ⟨rfl, hi, hb, hk⟩; refine ⟨_, rfl, ?_⟩; have n0_ := Aside0.mk (hb); have n1_ := Aside0.mk (hi); clear HB; clear HI245; have HB := n0_; have HI245 := n1_; clear n0_ n1_; (try clear hb); (try clear hb2); (try clear hk); (try clear hi)) | ((with_reducible refine gate_dst (N := 52) rfl ?_); refine Kd.R_lit (Kd.int .i64) _ 3 ?hg (N := 52) ?hd (xs := ([0, 1, 10, 25, 1000000, 1000001] : List Int)) (inner := [.int .i64 0, .int .i64 1, .int .i64 10, .int .i64 25, .int .i64 1000000, .int .i64 1000001]) (ok := fun _ => True) (okp := fun _ => True) ?hr ?hp (fun _ hk => hk) trivial (Below.refl _ _) (Nat.le_refl _) (by simp) ?_; (case hd => rfl); (case hg => rfl); (case hr => first | (go_simp; done) | (go_simp; rfl)); (case hp => exact (Reps.one (show Kd.M (Kd.int .i64) _ _ _ 0 [.int .i64 0] from rfl) (Reps.one (show Kd.M (Kd.int .i64) _ _ _ 1 [.int .i64 1] from rfl) (Reps.one (show Kd.M (Kd.int .i64) _ _ _ 10 [.int .i64 10] from rfl) (Reps.one (show Kd.M (Kd.int .i64) _ _ _ 25 [.int .i64 25] from rfl) (Reps.one (show Kd.M (Kd.int .i64) _ _ _ 1000000 [.int .i64 1000000] from rfl) (Reps.one (show Kd.M (Kd.int .i64) _ _ _ 1000001 [.int .i64 1000001] from rfl) (Reps.none _ _)))))))); intro v273 w39 ho40 hb hg_ hnew_; clear hg_ hnew_; (first | rw [← Ny272.out] at ho40 | (simp only [Int.reduceToNat] at ho40; rw [← Ny272.out] at ho40)); have n0_ := Aside0.mk (Kd.R_lower ho40 (below_size (by repeat (first | (with_reducible first | exact HB.out | apply below_alloc | apply pw_below_drewN | apply below_drew1 | refine below_set ?_ (IsS52.ge HI245.out)) | exact HB.out)))); have n1_ := Aside0.mk (IsS52.below (by repeat (first | (with_reducible first | exact HI245.out | apply IsS52.alloc | apply IsS52.drewN | apply IsS52.drew | apply IsS52.set_1 | apply IsS52.set_2) | exact HI245.out)) hb); have n2_ := Aside0.mk (below_step (by repeat (first | (with_reducible first | exact HB.out | apply below_alloc | apply pw_below_drewN | apply below_drew1 | refine below_set ?_ (IsS52.ge HI245.out)) | exact HB.out)) hb); clear HI245; clear HB; have HO274 := n0_; have HI245 := n1_; have HB := n2_; clear n0_ n1_ n2_; clear hb ho40; obtain ⟨Ao41, co41, eo41⟩ := Kd.R_slice HO274.out; subst eo41) | ((with_reducible refine gate_callee (f := 52) rfl ?_); refine goesL_ (some 53) rfl rfl Tryz.func52 (by kernel_rfl) rfl #[.pointer (some ⟨gb245, 0, none⟩), .slice Ao41 y272.length co41] rfl (by (try simp only [List.map_toArray, List.map_cons, List.map_nil]); first | done | rfl | (simp only [List.length_drop, List.length_take]; rfl)) ?_; (with_reducible refine (spec_l1Cur_among.calls gb245 l0 t270 t271 _ _ y272 t275 t276 t277 w _ ?side1 ?side2 ?side3 ?side4 ?side5 A36.out).mono ?_); (case side1 => repeat (first | (with_reducible first | exact HI245.out | apply IsS52.alloc | apply IsS52.drewN | apply IsS52.drew | apply IsS52.set_1 | apply IsS52.set_2) | exact HI245.out)); (case side2 => repeat (first | (with_reducible first | exact HB.out | apply below_alloc | apply pw_below_drewN | apply below_drew1 | refine below_set ?_ (IsS52.ge HI245.out)) | exact HB.out)); (case side3 => repeat (first | exact (Kd.R_reads' HO274.out).2.2 | (with_reducible refine Kd.C_alloc ?_ _) | (with_reducible refine Kd.C_drewN ?_ _) | (with_reducible refine Kd.C_drew ?_))); (case side4 => exact (Kd.R_reads' HO274.out).2.1); (case side5 => exact far_slice (IsS52.own_ne HI245.out HO274.out (by decide))); rintro e w42 ⟨rfl, hi, hb, hk⟩; refine ⟨_, rfl, ?_⟩; have n0_ := Aside0.mk (Kd.R_mono (Kd.R_keep (IsS52.apart (show IsS52 w _ gb245 l0 t270 t271 from by repeat (first | (with_reducible first | exact HI245.out | apply IsS52.alloc | apply IsS52.drewN | apply IsS52.drew | apply IsS52.set_1 | apply IsS52.set_2) | exact HI245.out)) (by (with_reducible repeat (first | apply Kd.R_alloc | apply Kd.R_drewN | apply Kd.R_drew)); exact HO274.out) (by decide)) hk (fun _ h => h.2)) (fun _ h => h.1)); have n1_ := Aside0.mk (hb); have n2_ := Aside0.mk (hi); clear HO274; clear HB; clear HI245; have HO274 := n0_; have HB := n1_; have HI245 := n2_; clear n0_ n1_ n2_; (try clear hb); (try clear hb2); (try clear hk); (try clear hi)))
          go_ret2
          exact ⟨by first | rfl | (simp [errW_none, errW_some] <;> rfl) | (simp [*, errW_none, errW_some] <;> rfl), by repeat (first | (with_reducible first | exact HB.out | apply below_alloc | apply pw_below_drewN | apply below_drew1 | refine below_set ?_ (IsS52.ge HI245.out)) | exact HB.out)⟩
        · replace c34 := Bool.eq_false_iff.mpr c34
          subst c34
          have H1 : ((spec_l1Cur_among.f l0 t267 t268 (([0, 1, 10, 25, 1000000, 1000001] : List Int))).bind fun bt281 => (some (x5_1, bt281.1))) = some (r1, r2) := by rw [if_neg (show ¬ (false = true) by decide)] at H; exact H
          clear H
          have H := H1
          clear H1
          obtain ⟨y278, hy278⟩ : ∃ y_ : List Int, y_ = (([0, 1, 10, 25, 1000000, 1000001] : List Int)) := ⟨_, rfl⟩
          replace H : ((spec_l1Cur_among.f l0 t267 t268 y278).bind fun bt281 => (some (x5_1, bt281.1))) = some (r1, r2) := by first | (rw [hy278]; with_reducible exact H) | (have H2_ := (Option.bind_some _ _).symm.trans H; rw [hy278]; with_reducible exact H2_) | (have H2_ := (Option.bind_some _ _).symm.trans H; with_reducible exact H2_) | with_reducible exact H | (rw [hy278]; exact H) | exact H
          have Ny278 := Aside0.mk hy278
          clear hy278
          replace H := Option.bind_eq_some_iff.mp H
          obtain ⟨⟨t281, t282, t283⟩, A430, H⟩ := H
          replace H : (some (x5_1, t281)) = some (r1, r2) := H
          have A43 := Aside0.mk A430
          clear A430
          simp only [Option.some.injEq, Prod.mk.injEq] at H
          obtain ⟨rfl, rfl⟩ := H
          go_wp2_with (first | ((with_reducible refine gate_callee (f := 36) rfl ?_); refine goesL_ (some 46) rfl rfl Tryz.func36 (by kernel_rfl) rfl #[.pointer (some ⟨gb245, 0, none⟩), .int .i64 6] rfl (by (try simp only [List.map_toArray, List.map_cons, List.map_nil]); first | done | rfl | (simp only [List.length_drop, List.length_take]; rfl)) ?_; (with_reducible refine (spec_l1Cur_one.calls gb245 l0 x246001_1 x246002_1 6 false t267 t268 w _ ?side1 ?side2 A33.out).mono ?_); (case side1 => repeat (first | (with_reducible first | exact HI245.out | apply IsS52.alloc | apply IsS52.drewN | apply IsS52.drew | apply IsS52.set_1 | apply IsS52.set_2) | exact HI245.out)); (case side2 => repeat (first | (with_reducible first | exact HB.out | apply below_alloc | apply pw_below_drewN | apply below_drew1 | refine below_set ?_ (IsS52.ge HI245.out)) | exact HB.out)); rintro e w44 ⟨rfl, hi, hb, hk⟩; refine ⟨_, rfl, ?_⟩; have n0_ := Aside0.mk (hb); have n1_ := Aside0.mk (hi); clear HB; clear HI245; have HB := n0_; have HI245 := n1_; clear n0_ n1_; (try clear hb); (try clear hb2); (try clear hk); (try clear hi)) | ((with_reducible refine gate_dst (N := 52) rfl ?_); refine Kd.R_lit (Kd.int .i64) _ 3 ?hg (N := 52) ?hd (xs := ([0, 1, 10, 25, 1000000, 1000001] : List Int)) (inner := [.int .i64 0, .int .i64 1, .int .i64 10, .int .i64 25, .int .i64 1000000, .int .i64 1000001]) (ok := fun _ => True) (okp := fun _ => True) ?hr ?hp (fun _ hk => hk) trivial (Below.refl _ _) (Nat.le_refl _) (by simp) ?_; (case hd => rfl); (case hg => rfl); (case hr => first | (go_simp; done) | (go_simp; rfl)); (case hp => exact (Reps.one (show Kd.M (Kd.int .i64) _ _ _ 0 [.int .i64 0] from rfl) (Reps.one (show Kd.M (Kd.int .i64) _ _ _ 1 [.int .i64 1] from rfl) (Reps.one (show Kd.M (Kd.int .i64) _ _ _ 10 [.int .i64 10] from rfl) (Reps.one (show Kd.M (Kd.int .i64) _ _ _ 25 [.int .i64 25] from rfl) (Reps.one (show Kd.M (Kd.int .i64) _ _ _ 1000000 [.int .i64 1000000] from rfl) (Reps.one (show Kd.M (Kd.int .i64) _ _ _ 1000001 [.int .i64 1000001] from rfl) (Reps.none _ _)))))))); intro v279 w45 ho46 hb hg_ hnew_; clear hg_ hnew_; (first | rw [← Ny278.out] at ho46 | (simp only [Int.reduceToNat] at ho46; rw [← Ny278.out] at ho46)); have n0_ := Aside0.mk (Kd.R_lower ho46 (below_size (by repeat (first | (with_reducible first | exact HB.out | apply below_alloc | apply pw_below_drewN | apply below_drew1 | refine below_set ?_ (IsS52.ge HI245.out)) | exact HB.out)))); have n1_ := Aside0.mk (IsS52.below (by repeat (first | (with_reducible first | exact HI245.out | apply IsS52.alloc | apply IsS52.drewN | apply IsS52.drew | apply IsS52.set_1 | apply IsS52.set_2) | exact HI245.out)) hb); have n2_ := Aside0.mk (below_step (by repeat (first | (with_reducible first | exact HB.out | apply below_alloc | apply pw_below_drewN | apply below_drew1 | refine below_set ?_ (IsS52.ge HI245.out)) | exact HB.out)) hb); clear HI245; clear HB; have HO280 := n0_; have HI245 := n1_; have HB := n2_; clear n0_ n1_ n2_; clear hb ho46; obtain ⟨Ao47, co47, eo47⟩ := Kd.R_slice HO280.out; subst eo47) | ((with_reducible refine gate_callee (f := 52) rfl ?_); refine goesL_ (some 53) rfl rfl Tryz.func52 (by kernel_rfl) rfl #[.pointer (some ⟨gb245, 0, none⟩), .slice Ao47 y278.length co47] rfl (by (try simp only [List.map_toArray, List.map_cons, List.map_nil]); first | done | rfl | (simp only [List.length_drop, List.length_take]; rfl)) ?_; (with_reducible refine (spec_l1Cur_among.calls gb245 l0 t267 t268 _ _ y278 t281 t282 t283 w _ ?side1 ?side2 ?side3 ?side4 ?side5 A43.out).mono ?_); (case side1 => repeat (first | (with_reducible first | exact HI245.out | apply IsS52.alloc | apply IsS52.drewN | apply IsS52.drew | apply IsS52.set_1 | apply IsS52.set_2) | exact HI245.out)); (case side2 => repeat (first | (with_reducible first | exact HB.out | apply below_alloc | apply pw_below_drewN | apply below_drew1 | refine below_set ?_ (IsS52.ge HI245.out)) | exact HB.out)); (case side3 => repeat (first | exact (Kd.R_reads' HO280.out).2.2 | (with_reducible refine Kd.C_alloc ?_ _) | (with_reducible refine Kd.C_drewN ?_ _) | (with_reducible refine Kd.C_drew ?_))); (case side4 => exact (Kd.R_reads' HO280.out).2.1); (case side5 => exact far_slice (IsS52.own_ne HI245.out HO280.out (by decide))); rintro e w48 ⟨rfl, hi, hb, hk⟩; refine ⟨_, rfl, ?_⟩; have n0_ := Aside0.mk (Kd.R_mono (Kd.R_keep (IsS52.apart (show IsS52 w _ gb245 l0 t267 t268 from by repeat (first | (with_reducible first | exact HI245.out | apply IsS52.alloc | apply IsS52.drewN | apply IsS52.drew | apply IsS52.set_1 | apply IsS52.set_2) | exact HI245.out)) (by (with_reducible repeat (first | apply Kd.R_alloc | apply Kd.R_drewN | apply Kd.R_drew)); exact HO280.out) (by decide)) hk (fun _ h => h.2)) (fun _ h => h.1)); have n1_ := Aside0.mk (hb); have n2_ := Aside0.mk (hi); clear HO280; clear HB; clear HI245; have HO280 := n0_; have HB := n1_; have HI245 := n2_; clear n0_ n1_ n2_; (try clear hb); (try clear hb2); (try clear hk); (try clear hi)))
          go_ret2
          exact ⟨by first | rfl | (simp [errW_none, errW_some] <;> rfl) | (simp [*, errW_none, errW_some] <;> rfl), by repeat (first | (with_reducible first | exact HB.out | apply below_alloc | apply pw_below_drewN | apply below_drew1 | refine below_set ?_ (IsS52.ge HI245.out)) | exact HB.out)⟩

/-! ### spec_l3Printed: function 40 -/
def spec_l3Printed.l0 : Nat → ByteArray → Int → Option (Bool)
  | 0, _, _ => none
  | k + 1, x0, x3 => if x3 < (x0.size : Int) then (if 0 ≤ x3 then (if (bt x0 x3) < 32 then (some false) else (if (bt x0 x3) > 126 then (some false) else (spec_l3Printed.l0 k x0 (wrap64 (x3 + 1))))) else (none)) else (some true)
def spec_l3Printed.f (k : Nat) (a0 : ByteArray) : Option (Bool) := spec_l3Printed.l0 k a0 0
theorem spec_l3Printed.mono_l : ∀ k, (∀ y0 y1, LeO (spec_l3Printed.l0 k y0 y1) (spec_l3Printed.l0 (k + 1) y0 y1))
  | 0 => fun _ _ r h => by simp [spec_l3Printed.l0] at h
  | k + 1 => by
    have ih0 := spec_l3Printed.mono_l k
    · intro y0 y1
      unfold spec_l3Printed.l0
      repeat' first
      | (with_reducible exact ih0 _ _)
      | (with_reducible exact LeO.refl _)
      | (with_reducible exact LeO.none _)
      | (with_reducible refine LeO.ite ?_ ?_)
      | (with_reducible refine LeO.bind ?_ (fun _ => ?_))
      | exact ih0 _ _
      | exact LeO.none _
      | refine LeO.ite ?_ ?_
      | refine LeO.bind ?_ (fun _ => ?_)
theorem spec_l3Printed.mono : ∀ a0 k, LeO (spec_l3Printed.f k a0) (spec_l3Printed.f (k + 1) a0) := by
  intro a0 k
  have ih0 := spec_l3Printed.mono_l k
  unfold spec_l3Printed.f
  repeat' first
      | (with_reducible exact ih0 _ _)
      | (with_reducible exact LeO.refl _)
      | (with_reducible exact LeO.none _)
      | (with_reducible refine LeO.ite ?_ ?_)
      | (with_reducible refine LeO.bind ?_ (fun _ => ?_))
      | exact ih0 _ _
      | exact LeO.none _
      | refine LeO.ite ?_ ?_
      | refine LeO.bind ?_ (fun _ => ?_)
set_option maxHeartbeats 8000000 in
set_option maxRecDepth 100000 in
theorem spec_l3Printed.calls (k : Nat) (a0 : ByteArray) (r : Bool) (w : World) (h : spec_l3Printed.f k a0 = some r) :
    Calls Tryz.prog 40 #[.string a0] w fun e w' => e = .returned (.bool r) ∧ Drawn0 w w' := by
  have H : (spec_l3Printed.l0 k a0 0) = some r := h
  clear h
  have H' := Aside0.mk H
  clear H
  go_enter Tryz.func40, Tryz.ntmps40
  go_wp2
  go_loopg [3] k (fun kq v3 w' => ∃ (x3_1 : Int), v3 = .int .i64 x3_1 ∧ Aside0 (spec_l3Printed.l0 kq a0 x3_1 = some r) ∧ Aside0 (kq ≤ k) ∧ Drawn0 w w')
  case atStart => exact ⟨(0), (by first | rfl | (simp; done) | (simp [*]; done)), H', ⟨Nat.le_refl _⟩, by repeat (first | exact Drawn0.refl _ | apply Drawn0.step)⟩
  case round =>
    clear H'
    obtain ⟨x3_1, rfl, HA, HK1, ⟨m1, rfl⟩⟩ := hrel
    cases gk with
    | zero => exact absurd HA.out (by simp [spec_l3Printed.l0])
    | succ k1 =>
      have H := HA.out
      clear HA
      simp only [spec_l3Printed.l0] at H
      by_cases c2 : x3_1 < (a0.size : Int)
      · rw [if_pos c2] at H
        have c2b0 : decide (x3_1 < (a0.size : Int)) = true := decide_eq_true c2
        clear c2
        by_cases c3 : 0 ≤ x3_1
        · rw [if_pos c3] at H
          have c3b0 : decide (0 ≤ x3_1) = true := decide_eq_true c3
          clear c3
          by_cases c5 : (bt a0 x3_1) < 32
          · rw [if_pos c5] at H
            have c5b0 : decide ((bt a0 x3_1) < 32) = true := decide_eq_true c5
            clear c5
            obtain rfl := Option.some.inj H
            have p4 : 0 ≤ (x3_1 : Int) := of_decide_eq_true (by first | (with_reducible assumption) | assumption)
            have q4 : x3_1 < (a0.size : Int) := of_decide_eq_true (by first | (with_reducible assumption) | assumption)
            have hx4 := bt_at a0 x3_1
            replace p4 := eq_true p4
            replace q4 := eq_true q4
            go_wp2
            go_ret
            exact ⟨by first | rfl | (simp; done) | (simp [*]; done), by repeat (first | exact Drawn0.refl _ | apply Drawn0.step)⟩
          · rw [if_neg c5] at H
            have c5b0 : decide ((bt a0 x3_1) < 32) = false := decide_eq_false c5
            clear c5
            by_cases c7 : (bt a0 x3_1) > 126
            · rw [if_pos c7] at H
              have c7b0 : decide (126 < (bt a0 x3_1)) = true := decide_eq_true c7
              clear c7
              obtain rfl := Option.some.inj H
              have p4 : 0 ≤ (x3_1 : Int) := of_decide_eq_true (by first | (with_reducible assumption) | assumption)
              have q4 : x3_1 < (a0.size : Int) := of_decide_eq_true (by first | (with_reducible assumption) | assumption)
              have hx4 := bt_at a0 x3_1
              replace p4 := eq_true p4
              replace q4 := eq_true q4
              have p6 : 0 ≤ (x3_1 : Int) := of_decide_eq_true (by first | (with_reducible assumption) | assumption)
              have q6 : x3_1 < (a0.size : Int) := of_decide_eq_true (by first | (with_reducible assumption) | assumption)
              have hx6 := bt_at a0 x3_1
              replace p6 := eq_true p6
              replace q6 := eq_true q6
              go_wp2
              go_ret
              exact ⟨by first | rfl | (simp; done) | (simp [*]; done), by repeat (first | exact Drawn0.refl _ | apply Drawn0.step)⟩
            · rw [if_neg c7] at H
              have c7b0 : decide (126 < (bt a0 x3_1)) = false := decide_eq_false c7
              clear c7
              have H' := Aside0.mk H
              clear H
              have p4 : 0 ≤ (x3_1 : Int) := of_decide_eq_true (by first | (with_reducible assumption) | assumption)
              have q4 : x3_1 < (a0.size : Int) := of_decide_eq_true (by first | (with_reducible assumption) | assumption)
              have hx4 := bt_at a0 x3_1
              replace p4 := eq_true p4
              replace q4 := eq_true q4
              have p6 : 0 ≤ (x3_1 : Int) := of_decide_eq_true (by first | (with_reducible assumption) | assumption)
              have q6 : x3_1 < (a0.size : Int) := of_decide_eq_true (by first | (with_reducible assumption) | assumption)
              have hx6 := bt_at a0 x3_1
              replace p6 := eq_true p6
              replace q6 := eq_true q6
              go_wp2
              go_roundg k1
              case measure => have := HK1.out; omega
              case rel => exact ⟨(wrap64 (x3_1 + 1)), (by first | rfl | (simp; done) | (simp [*]; done)), H', ⟨by have := HK1.out; omega⟩, by repeat (first | exact Drawn0.refl _ | apply Drawn0.step)⟩
        · rw [if_neg c3] at H
          exact absurd H (by simp)
      · rw [if_neg c2] at H
        have c2b0 : decide (x3_1 < (a0.size : Int)) = false := decide_eq_false c2
        clear c2
        obtain rfl := Option.some.inj H
        go_wp2
        go_ret
        exact ⟨by first | rfl | (simp; done) | (simp [*]; done), by repeat (first | exact Drawn0.refl _ | apply Drawn0.step)⟩

/-! ### spec_l3Trim: function 32 -/
mutual
def spec_l3Trim.j1 : Nat → ByteArray → Option (ByteArray)
  | 0, _ => none
  | k + 1, x0 => spec_l3Trim.l1 k x0
def spec_l3Trim.l1 : Nat → ByteArray → Option (ByteArray)
  | 0, _ => none
  | k + 1, x0 => if (x0.size : Int) > 0 then (if 0 ≤ (wrap64 ((x0.size : Int) - 1)) then (if (wrap64 ((x0.size : Int) - 1)) < (x0.size : Int) then (if (bt x0 (wrap64 ((x0.size : Int) - 1))) = 32 then (if (wrap64 ((x0.size : Int) - 1)) ≤ (x0.size : Int) then (spec_l3Trim.l1 k (x0.extract 0 ((wrap64 ((x0.size : Int) - 1)) : Int).toNat)) else (none)) else (some x0)) else (none)) else (none)) else (some x0)
def spec_l3Trim.l0 : Nat → ByteArray → Option (ByteArray)
  | 0, _ => none
  | k + 1, x0 => if (x0.size : Int) > 0 then (if 0 < (x0.size : Int) then (if (bt x0 0) = 32 then (if 1 ≤ (x0.size : Int) then (spec_l3Trim.l0 k (x0.extract 1 x0.size)) else (none)) else (spec_l3Trim.j1 k x0)) else (none)) else (spec_l3Trim.j1 k x0)
end
def spec_l3Trim.f (k : Nat) (a0 : ByteArray) : Option (ByteArray) := spec_l3Trim.l0 k a0
theorem spec_l3Trim.mono_l : ∀ k, (∀ y0, LeO (spec_l3Trim.j1 k y0) (spec_l3Trim.j1 (k + 1) y0)) ∧ (∀ y0, LeO (spec_l3Trim.l1 k y0) (spec_l3Trim.l1 (k + 1) y0)) ∧ (∀ y0, LeO (spec_l3Trim.l0 k y0) (spec_l3Trim.l0 (k + 1) y0))
  | 0 => ⟨fun _ r h => by simp [spec_l3Trim.j1] at h, fun _ r h => by simp [spec_l3Trim.l1] at h, fun _ r h => by simp [spec_l3Trim.l0] at h⟩
  | k + 1 => by
    obtain ⟨ih0, ih1, ih2⟩ := spec_l3Trim.mono_l k
    refine ⟨?_, ?_, ?_⟩
    · intro y0
      unfold spec_l3Trim.j1
      repeat' first
      | (with_reducible exact ih0 _)
      | (with_reducible exact ih1 _)
      | (with_reducible exact ih2 _)
      | (with_reducible exact LeO.refl _)
      | (with_reducible exact LeO.none _)
      | (with_reducible refine LeO.ite ?_ ?_)
      | (with_reducible refine LeO.bind ?_ (fun _ => ?_))
      | exact ih0 _
      | exact ih1 _
      | exact ih2 _
      | exact LeO.none _
      | refine LeO.ite ?_ ?_
      | refine LeO.bind ?_ (fun _ => ?_)
    · intro y0
      unfold spec_l3Trim.l1
      repeat' first
      | (with_reducible exact ih0 _)
      | (with_reducible exact ih1 _)
      | (with_reducible exact ih2 _)
      | (with_reducible exact LeO.refl _)
      | (with_reducible exact LeO.none _)
      | (with_reducible refine LeO.ite ?_ ?_)
      | (with_reducible refine LeO.bind ?_ (fun _ => ?_))
      | exact ih0 _
      | exact ih1 _
      | exact ih2 _
      | exact LeO.none _
      | refine LeO.ite ?_ ?_
      | refine LeO.bind ?_ (fun _ => ?_)
    · intro y0
      unfold spec_l3Trim.l0
      repeat' first
      | (with_reducible exact ih0 _)
      | (with_reducible exact ih1 _)
      | (with_reducible exact ih2 _)
      | (with_reducible exact LeO.refl _)
      | (with_reducible exact LeO.none _)
      | (with_reducible refine LeO.ite ?_ ?_)
      | (with_reducible refine LeO.bind ?_ (fun _ => ?_))
      | exact ih0 _
      | exact ih1 _
      | exact ih2 _
      | exact LeO.none _
      | refine LeO.ite ?_ ?_
      | refine LeO.bind ?_ (fun _ => ?_)
theorem spec_l3Trim.mono : ∀ a0 k, LeO (spec_l3Trim.f k a0) (spec_l3Trim.f (k + 1) a0) := by
  intro a0 k
  obtain ⟨ih0, ih1, ih2⟩ := spec_l3Trim.mono_l k
  unfold spec_l3Trim.f
  repeat' first
      | (with_reducible exact ih0 _)
      | (with_reducible exact ih1 _)
      | (with_reducible exact ih2 _)
      | (with_reducible exact LeO.refl _)
      | (with_reducible exact LeO.none _)
      | (with_reducible refine LeO.ite ?_ ?_)
      | (with_reducible refine LeO.bind ?_ (fun _ => ?_))
      | exact ih0 _
      | exact ih1 _
      | exact ih2 _
      | exact LeO.none _
      | refine LeO.ite ?_ ?_
      | refine LeO.bind ?_ (fun _ => ?_)
set_option maxHeartbeats 8000000 in
set_option maxRecDepth 100000 in
theorem spec_l3Trim.calls (k : Nat) (a0 : ByteArray) (r : ByteArray) (w : World) (h : spec_l3Trim.f k a0 = some r) :
    Calls Tryz.prog 32 #[.string a0] w fun e w' => e = .returned (.string r) ∧ Drawn0 w w' := by
  have H : (spec_l3Trim.l0 k a0) = some r := h
  clear h
  have HC2 := Aside0.mk H
  clear H
  go_enter Tryz.func32, Tryz.ntmps32
  go_upto_block 0 with (fail)
  go_cut [0] (fun v0 wc => ∃ (kq : Nat) (x0_1 : ByteArray), v0 = .string x0_1 ∧ Aside0 (spec_l3Trim.j1 kq x0_1 = some r) ∧ Aside0 (kq ≤ k) ∧ Drawn0 w wc)
  case first =>
    have H := HC2.out
    clear HC2
    have H' := Aside0.mk H
    clear H
    go_wp2
    go_loopg [0] k (fun kq v0 w' => ∃ (x0_1 : ByteArray), v0 = .string x0_1 ∧ Aside0 (spec_l3Trim.l0 kq x0_1 = some r) ∧ Aside0 (kq ≤ k) ∧ Drawn0 w w')
    case atStart => exact ⟨(a0), (by first | rfl | (simp; done) | (simp [*]; done)), H', ⟨Nat.le_refl _⟩, by repeat (first | exact Drawn0.refl _ | apply Drawn0.step)⟩
    case round =>
      clear H'
      try clear p2
      obtain ⟨x0_1, rfl, HA, HK1, ⟨m1, rfl⟩⟩ := hrel
      cases gk with
      | zero => exact absurd HA.out (by simp [spec_l3Trim.l0])
      | succ k1 =>
        have H := HA.out
        clear HA
        simp only [spec_l3Trim.l0] at H
        by_cases c3 : (x0_1.size : Int) > 0
        · rw [if_pos c3] at H
          have c3b0 : decide (0 < (x0_1.size : Int)) = true := decide_eq_true c3
          have c3b1 : decide (0 < x0_1.size) = true := decide_eq_true (by omega)
          clear c3
          (first | rw [c3b0] | (simp only [i64_w, i32_w]; rw [c3b0]) | skip)
          by_cases c4 : 0 < (x0_1.size : Int)
          · rw [if_pos c4] at H
            have c4b0 : decide (0 < (x0_1.size : Int)) = true := decide_eq_true c4
            have c4b1 : decide (0 < x0_1.size) = true := decide_eq_true (by omega)
            clear c4
            by_cases c6 : (bt x0_1 0) = 32
            · rw [if_pos c6] at H
              have c6b0 : ((bt x0_1 0) == 32) = true := beq_iff_eq.mpr c6
              have c6b1 : ((bt x0_1 0) != 32) = false := bne_eq_false_iff_eq.mpr c6
              clear c6
              by_cases c7 : 1 ≤ (x0_1.size : Int)
              · rw [if_pos c7] at H
                have c7b0 := eq_true c7
                have c7b1 : decide (1 ≤ (x0_1.size : Int)) = true := decide_eq_true c7
                clear c7
                have H' := Aside0.mk H
                clear H
                have p5 : 0 ≤ (0 : Int) := (by omega)
                have q5 : 0 < x0_1.size := (by have : (0 : Int) < (x0_1.size : Int) := of_decide_eq_true (by first | (with_reducible assumption) | assumption); omega)
                have hx5 : ∀ h : 0 < x0_1.size, ((x0_1[0]'h).toNat : Int) = bt x0_1 0 := bt_at x0_1 0
                clear p5
                have qi5 : (0 < (x0_1.size : Int)) = True := eq_true (of_decide_eq_true (by first | (with_reducible assumption) | assumption))
                replace q5 := eq_true q5
                go_wp2
                go_roundg k1
                case measure => have := HK1.out; omega
                case rel => exact ⟨(x0_1.extract 1 x0_1.size), (by first | rfl | (simp; done) | (simp [*]; done)), H', ⟨by have := HK1.out; omega⟩, by repeat (first | exact Drawn0.refl _ | apply Drawn0.step)⟩
              · rw [if_neg c7] at H
                exact absurd H (by simp)
            · rw [if_neg c6] at H
              have c6b0 : ((bt x0_1 0) == 32) = false := beq_eq_false_iff_ne.mpr c6
              have c6b1 : ((bt x0_1 0) != 32) = true := bne_iff_ne.mpr c6
              have H' := Aside0.mk H
              clear H
              have p5 : 0 ≤ (0 : Int) := (by omega)
              have q5 : 0 < x0_1.size := (by have : (0 : Int) < (x0_1.size : Int) := of_decide_eq_true (by first | (with_reducible assumption) | assumption); omega)
              have hx5 : ∀ h : 0 < x0_1.size, ((x0_1[0]'h).toNat : Int) = bt x0_1 0 := bt_at x0_1 0
              clear p5
              have qi5 : (0 < (x0_1.size : Int)) = True := eq_true (of_decide_eq_true (by first | (with_reducible assumption) | assumption))
              replace q5 := eq_true q5
              go_wp2
              go_meet
              case rel => exact ⟨_, (x0_1), (by first | rfl | (simp; done) | (simp [*]; done)), H', ⟨by have := HK1.out; first | omega | exact Nat.le_refl _⟩, by repeat (first | exact Drawn0.refl _ | apply Drawn0.step)⟩
          · rw [if_neg c4] at H
            exact absurd H (by simp)
        · rw [if_neg c3] at H
          have c3b0 : decide (0 < (x0_1.size : Int)) = false := decide_eq_false c3
          have c3b1 : decide (0 < x0_1.size) = false := decide_eq_false (by omega)
          clear c3
          (first | rw [c3b0] | (simp only [i64_w, i32_w]; rw [c3b0]) | skip)
          have H' := Aside0.mk H
          clear H
          go_wp2
          go_meet
          case rel => exact ⟨_, (x0_1), (by first | rfl | (simp; done) | (simp [*]; done)), H', ⟨by have := HK1.out; first | omega | exact Nat.le_refl _⟩, by repeat (first | exact Drawn0.refl _ | apply Drawn0.step)⟩
  case rest =>
    clear HC2
    try clear p2
    try clear c3
    try clear c3b0
    try clear c3b1
    try clear c4
    try clear c4b0
    try clear c4b1
    try clear p5
    try clear q5
    try clear hx5
    try clear qi5
    try clear c6
    try clear c6b0
    try clear c6b1
    try clear c7
    try clear c7b0
    try clear c7b1
    try clear p2
    try clear p5
    try clear q5
    obtain ⟨kq, x0_1, rfl, HA, HJ1, ⟨mc1, rfl⟩⟩ := hcut
    cases kq with
    | zero => exact absurd HA.out (by simp [spec_l3Trim.j1])
    | succ kj1 =>
      have H := HA.out
      clear HA
      simp only [spec_l3Trim.j1] at H
      have H' := Aside0.mk H
      clear H
      go_wp2
      go_loopg [0] kj1 (fun kq v0 w' => ∃ (x0_2 : ByteArray), v0 = .string x0_2 ∧ Aside0 (spec_l3Trim.l1 kq x0_2 = some r) ∧ Aside0 (kq ≤ kj1) ∧ Drawn0 w w')
      case atStart => exact ⟨(x0_1), (by first | rfl | (simp; done) | (simp [*]; done)), H', ⟨Nat.le_refl _⟩, by repeat (first | exact Drawn0.refl _ | apply Drawn0.step)⟩
      case round =>
        clear H'
        try clear c1
        try clear p2
        try clear c3
        try clear c3b0
        try clear c3b1
        try clear c4
        try clear c4b0
        try clear c4b1
        try clear p5
        try clear q5
        try clear hx5
        try clear qi5
        try clear c6
        try clear c6b0
        try clear c6b1
        try clear c7
        try clear c7b0
        try clear c7b1
        try clear p2
        try clear p5
        try clear q5
        obtain ⟨x0_2, rfl, HA, HK2, ⟨m2, rfl⟩⟩ := hrel
        cases gk with
        | zero => exact absurd HA.out (by simp [spec_l3Trim.l1])
        | succ k2 =>
          have H := HA.out
          clear HA
          simp only [spec_l3Trim.l1] at H
          by_cases c8 : (x0_2.size : Int) > 0
          · rw [if_pos c8] at H
            have c8b0 : decide (0 < (x0_2.size : Int)) = true := decide_eq_true c8
            have c8b1 : decide (0 < x0_2.size) = true := decide_eq_true (by omega)
            clear c8
            obtain ⟨ji9, hji9⟩ : ∃ j_ : Int, (wrap64 ((x0_2.size : Int) - 1)) = j_ := ⟨_, rfl⟩
            replace H : (if 0 ≤ (ji9) then (if (ji9) < (x0_2.size : Int) then (if (bt x0_2 (ji9)) = 32 then (if (ji9) ≤ (x0_2.size : Int) then (spec_l3Trim.l1 k2 (x0_2.extract 0 ((ji9) : Int).toNat)) else (none)) else (some x0_2)) else (none)) else (none)) = some r := by first | (rw [hji9] at H; exact H) | (simp only [hji9] at H ⊢; exact H)
            have hji9w : (IntKind.i64.wrap ((x0_2.size : Int) - 1)) = ji9 := (i64_w _).trans hji9
            by_cases c10 : 0 ≤ (ji9)
            · rw [if_pos c10] at H
              have c10b0 : decide (0 ≤ (ji9)) = true := decide_eq_true c10
              clear c10
              by_cases c11 : (ji9) < (x0_2.size : Int)
              · rw [if_pos c11] at H
                have c11b0 : decide ((ji9) < (x0_2.size : Int)) = true := decide_eq_true c11
                clear c11
                by_cases c13 : (bt x0_2 (ji9)) = 32
                · rw [if_pos c13] at H
                  have c13b0 : ((bt x0_2 (ji9)) == 32) = true := beq_iff_eq.mpr c13
                  have c13b1 : ((bt x0_2 (ji9)) != 32) = false := bne_eq_false_iff_eq.mpr c13
                  clear c13
                  have c14b0 := eq_true (of_decide_eq_true (by first | (with_reducible assumption) | assumption) : 0 ≤ (ji9))
                  by_cases c15 : (ji9) ≤ (x0_2.size : Int)
                  · rw [if_pos c15] at H
                    have c15b0 := eq_true c15
                    have c15b1 : decide ((ji9) ≤ (x0_2.size : Int)) = true := decide_eq_true c15
                    clear c15
                    have H' := Aside0.mk H
                    clear H
                    have p12 : 0 ≤ ((ji9) : Int) := of_decide_eq_true (by first | (with_reducible assumption) | assumption)
                    have q12 : (ji9) < (x0_2.size : Int) := of_decide_eq_true (by first | (with_reducible assumption) | assumption)
                    have hx12 := bt_at x0_2 (ji9)
                    replace p12 := eq_true p12
                    replace q12 := eq_true q12
                    go_wp2
                    go_roundg k2
                    case measure => have := HJ1.out; have := HK2.out; omega
                    case rel => exact ⟨(x0_2.extract 0 ((ji9) : Int).toNat), (by first | rfl | (simp; done) | (simp only [← hji9] <;> (first | rfl | simp)) | (simp [*]; done)), H', ⟨by have := HJ1.out; have := HK2.out; omega⟩, by repeat (first | exact Drawn0.refl _ | apply Drawn0.step)⟩
                  · rw [if_neg c15] at H
                    exact absurd H (by simp)
                · rw [if_neg c13] at H
                  have c13b0 : ((bt x0_2 (ji9)) == 32) = false := beq_eq_false_iff_ne.mpr c13
                  have c13b1 : ((bt x0_2 (ji9)) != 32) = true := bne_iff_ne.mpr c13
                  obtain rfl := Option.some.inj H
                  have p12 : 0 ≤ ((ji9) : Int) := of_decide_eq_true (by first | (with_reducible assumption) | assumption)
                  have q12 : (ji9) < (x0_2.size : Int) := of_decide_eq_true (by first | (with_reducible assumption) | assumption)
                  have hx12 := bt_at x0_2 (ji9)
                  replace p12 := eq_true p12
                  replace q12 := eq_true q12
                  go_wp2
                  go_ret
                  exact ⟨by first | rfl | (simp; done) | (simp only [← hji9] <;> (first | rfl | simp)) | (simp [*]; done), by repeat (first | exact Drawn0.refl _ | apply Drawn0.step)⟩
              · rw [if_neg c11] at H
                exact absurd H (by simp)
            · rw [if_neg c10] at H
              exact absurd H (by simp)
          · rw [if_neg c8] at H
            have c8b0 : decide (0 < (x0_2.size : Int)) = false := decide_eq_false c8
            have c8b1 : decide (0 < x0_2.size) = false := decide_eq_false (by omega)
            clear c8
            obtain rfl := Option.some.inj H
            go_wp2
            go_ret
            exact ⟨by first | rfl | (simp; done) | (simp [*]; done), by repeat (first | exact Drawn0.refl _ | apply Drawn0.step)⟩

end Go.Proofs.YtjkpomphkfecmaaGreatDoor.PFnRanges
