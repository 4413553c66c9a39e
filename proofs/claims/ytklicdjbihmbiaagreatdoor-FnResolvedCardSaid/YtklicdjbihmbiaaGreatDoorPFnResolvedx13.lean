-- Written by a program of this project (xprint.py) out of the translation; Lean checks it.
import Derived.Test.YtklicdjbihmbiaaGreatDoorPFnResolvedx0
import Derived.Test.YtklicdjbihmbiaaGreatDoorPFnResolvedx11
import Derived.Test.YtklicdjbihmbiaaGreatDoorPFnResolvedx12
namespace Go.Proofs.YtklicdjbihmbiaaGreatDoor.PFnResolved
open Go.RowKit Go.Proofs.YtklicdjbihmbiaaGreatDoorW.PrintWords Go.Proofs.YtklicdjbihmbiaaGreatDoorW.PrintLast Go.Proofs.YtklicdjbihmbiaaGreatDoorW.PrintMore
attribute [local go_sem] max2_int min2_int max_two min_two max_three min_three max_four min_four   -- for this text's walks alone
set_option linter.unusedVariables false
set_option linter.unusedSimpArgs false

/-! ### spec_l1Read: function 17 -/
def spec_l1Read.l0 : Nat → ByteArray → List ByteArray → Int → Int → Option (ByteArray × ByteArray × Int × ByteArray × ByteArray × Bool × Bool)
 | 0, _, _, _, _ => none
 | k + 1, x0, x11, x12, x13 => if x13 < x12 then (if 0 ≤ x13 then (if x13 < (x11.length : Int) then (if (x0.size : Int) > (wrap64 (((rdOf ByteArray.empty x11 x13).size : Int) + 3)) then (if 0 ≤ (wrap64 (((rdOf ByteArray.empty x11 x13).size : Int) + 3)) then (if (wrap64 (((rdOf ByteArray.empty x11 x13).size : Int) + 3)) ≤ (x0.size : Int) then (if (rdOf ByteArray.empty x11 x13).size + 3 ≤ 9223372036854775807 then (if (x0.extract 0 ((wrap64 (((rdOf ByteArray.empty x11 x13).size : Int) + 3)) : Int).toNat).toList = ((rdOf ByteArray.empty x11 x13) ++ (⟨#[58, 47, 47]⟩ : ByteArray)).toList then ((spec_l1Authority.f k (rdOf ByteArray.empty x11 x13) (x0.extract ((wrap64 (((rdOf ByteArray.empty x11 x13).size : Int) + 3)) : Int).toNat x0.size)).bind fun bt367 => (some (bt367.1, bt367.2.1, bt367.2.2.1, bt367.2.2.2.1, bt367.2.2.2.2.1, bt367.2.2.2.2.2.1, bt367.2.2.2.2.2.2))) else (spec_l1Read.l0 k x0 x11 x12 (wrap64 (x13 + 1)))) else (none)) else (none)) else (none)) else (spec_l1Read.l0 k x0 x11 x12 (wrap64 (x13 + 1)))) else (none)) else (none)) else (some ((⟨#[]⟩ : ByteArray), (⟨#[]⟩ : ByteArray), 0, (⟨#[]⟩ : ByteArray), (⟨#[]⟩ : ByteArray), false, false))
def spec_l1Read.f (k : Nat) (a0 : ByteArray) : Option (ByteArray × ByteArray × Int × ByteArray × ByteArray × Bool × Bool) := if (a0.size : Int) > 200 then (some ((⟨#[]⟩ : ByteArray), (⟨#[]⟩ : ByteArray), 0, (⟨#[]⟩ : ByteArray), (⟨#[]⟩ : ByteArray), false, false)) else ((some (([(⟨#[104, 116, 116, 112]⟩ : ByteArray), (⟨#[104, 116, 116, 112, 115]⟩ : ByteArray)] : List ByteArray) : List ByteArray)).bind fun y363 => (spec_l1Read.l0 k a0 y363 (y363.length : Int) 0))
theorem spec_l1Read.mono_l : ∀ k, (∀ y0 y1 y2 y3, LeO (spec_l1Read.l0 k y0 y1 y2 y3) (spec_l1Read.l0 (k + 1) y0 y1 y2 y3))
 | 0 => fun _ _ _ _ r h => by simp [spec_l1Read.l0] at h
 | k + 1 => by
  have ih0 := spec_l1Read.mono_l k
  ·intro y0 y1 y2 y3
   unfold spec_l1Read.l0
   repeat' first
   | (with_reducible exact ih0 _ _ _ _)
   | (with_reducible exact spec_l1Authority.mono _ _ _)
   | (with_reducible exact LeO.refl _)
   | (with_reducible exact LeO.none _)
   | (with_reducible refine LeO.ite ?_ ?_)
   | (with_reducible refine LeO.bind ?_ (fun _ => ?_))
   | exact ih0 _ _ _ _
   | exact spec_l1Authority.mono _ _ _
   | exact LeO.none _
   | refine LeO.ite ?_ ?_
   | refine LeO.bind ?_ (fun _ => ?_)
theorem spec_l1Read.mono : ∀ a0 k, LeO (spec_l1Read.f k a0) (spec_l1Read.f (k + 1) a0) := by
 intro a0 k
 have ih0 := spec_l1Read.mono_l k
 unfold spec_l1Read.f
 repeat' first
   | (with_reducible exact ih0 _ _ _ _)
   | (with_reducible exact spec_l1Authority.mono _ _ _)
   | (with_reducible exact LeO.refl _)
   | (with_reducible exact LeO.none _)
   | (with_reducible refine LeO.ite ?_ ?_)
   | (with_reducible refine LeO.bind ?_ (fun _ => ?_))
   | exact ih0 _ _ _ _
   | exact spec_l1Authority.mono _ _ _
   | exact LeO.none _
   | refine LeO.ite ?_ ?_
   | refine LeO.bind ?_ (fun _ => ?_)
set_option maxHeartbeats 8000000 in
set_option maxRecDepth 100000 in
theorem spec_l1Read.calls (k : Nat) (a0 : ByteArray) (r1 : ByteArray) (r2 : ByteArray) (r3 : Int) (r4 : ByteArray) (r5 : ByteArray) (r6 : Bool) (r7 : Bool) (w : World) (h : spec_l1Read.f k a0 = some (r1, r2, r3, r4, r5, r6, r7)) :
  Calls Tryz.prog 17 #[.string a0] w fun e w' => e = .returned (.tuple #[.agg #[.string r1, .string r2, .int .i64 r3, .string r4, .string r5, .bool r6], .bool r7]) ∧ Below w.heap.size w w' := by
 have hu24 := Tryz.underlying24
 have HB := Aside0.mk (Below.refl w.heap.size w)
 have H : (if (a0.size : Int) > 200 then (some ((⟨#[]⟩ : ByteArray), (⟨#[]⟩ : ByteArray), 0, (⟨#[]⟩ : ByteArray), (⟨#[]⟩ : ByteArray), false, false)) else ((some (([(⟨#[104, 116, 116, 112]⟩ : ByteArray), (⟨#[104, 116, 116, 112, 115]⟩ : ByteArray)] : List ByteArray) : List ByteArray)).bind fun y363 => (spec_l1Read.l0 k a0 y363 (y363.length : Int) 0))) = some (r1, r2, r3, r4, r5, r6, r7) := h
 clear h
 by_cases c2 : (a0.size : Int) > 200
 ·rw [if_pos c2] at H
  have c2b0 : decide (200 < (a0.size : Int)) = true := decide_eq_true c2
  have c2b1 : decide (200 < a0.size) = true := decide_eq_true (by omega)
  clear c2
  simp only [Option.some.injEq, Prod.mk.injEq] at H
  obtain ⟨rfl, rfl, rfl, rfl, rfl, rfl, rfl⟩ := H
  go_enter Tryz.func17, Tryz.ntmps17
  go_wp2_with (first | ((with_reducible refine gate_dst (N := 2) rfl ?_); refine xbe_ (N := 2) (cs := #[.string (⟨#[]⟩ : ByteArray), .string (⟨#[]⟩ : ByteArray), .int .i64 0, .string (⟨#[]⟩ : ByteArray), .string (⟨#[]⟩ : ByteArray), .bool false]) (t := 24) ?_; intro gb362 hg w3 hbox hb; have BK362 := Aside0.mk (hbox); have GW362 := xge_ HB hg; have GE362 := xge_ HB hg; replace HB := xws_ HB hb; clear hb hbox hg; have ⟨_, _, _, _, _, _, _, _, _, _, _, _⟩ := c6_ BK362))
  refine bodyPost_ret (results_ct rfl _ _ gb362 24 #[.string (⟨#[]⟩ : ByteArray), .string (⟨#[]⟩ : ByteArray), .int .i64 0, .string (⟨#[]⟩ : ByteArray), .string (⟨#[]⟩ : ByteArray), .bool false] (0, 0) _ rfl (by (with_reducible repeat first | apply bN_ | apply bD_ | apply bA_); refine blk_put (cs := #[.string (⟨#[]⟩ : ByteArray), .string (⟨#[]⟩ : ByteArray), .int .i64 0, .string (⟨#[]⟩ : ByteArray), .string (⟨#[]⟩ : ByteArray), .bool false]) ?_ 5 _ rfl; (with_reducible repeat first | apply bN_ | apply bD_ | apply bA_); refine blk_put (cs := #[.string (⟨#[]⟩ : ByteArray), .string (⟨#[]⟩ : ByteArray), .int .i64 0, .string (⟨#[]⟩ : ByteArray), .string (⟨#[]⟩ : ByteArray), .bool false]) ?_ 4 _ rfl; (with_reducible repeat first | apply bN_ | apply bD_ | apply bA_); refine blk_put (cs := #[.string (⟨#[]⟩ : ByteArray), .string (⟨#[]⟩ : ByteArray), .int .i64 0, .string (⟨#[]⟩ : ByteArray), .string (⟨#[]⟩ : ByteArray), .bool false]) ?_ 3 _ rfl; (with_reducible repeat first | apply bN_ | apply bD_ | apply bA_); refine blk_put (cs := #[.string (⟨#[]⟩ : ByteArray), .string (⟨#[]⟩ : ByteArray), .int .i64 0, .string (⟨#[]⟩ : ByteArray), .string (⟨#[]⟩ : ByteArray), .bool false]) ?_ 2 _ rfl; (with_reducible repeat first | apply bN_ | apply bD_ | apply bA_); refine blk_put (cs := #[.string (⟨#[]⟩ : ByteArray), .string (⟨#[]⟩ : ByteArray), .int .i64 0, .string (⟨#[]⟩ : ByteArray), .string (⟨#[]⟩ : ByteArray), .bool false]) ?_ 1 _ rfl; (with_reducible repeat first | apply bN_ | apply bD_ | apply bA_); refine blk_put (cs := #[.string (⟨#[]⟩ : ByteArray), .string (⟨#[]⟩ : ByteArray), .int .i64 0, .string (⟨#[]⟩ : ByteArray), .string (⟨#[]⟩ : ByteArray), .bool false]) ?_ 0 _ rfl; (with_reducible repeat first | apply bN_ | apply bD_ | apply bA_); exact BK362.out) Tryz.underlying24 rfl (by kernel_rfl)) rfl ?_
  exact ⟨by first | rfl | (simp [errW_none, errW_some] <;> rfl) | (simp [*, errW_none, errW_some] <;> rfl), xw_ HB⟩
 ·rw [if_neg c2] at H
  have c2b0 : decide (200 < (a0.size : Int)) = false := decide_eq_false c2
  have c2b1 : decide (200 < a0.size) = false := decide_eq_false (by omega)
  clear c2
  obtain ⟨y363, hy363⟩ : ∃ y_ : List ByteArray, y_ = (([(⟨#[104, 116, 116, 112]⟩ : ByteArray), (⟨#[104, 116, 116, 112, 115]⟩ : ByteArray)] : List ByteArray)) := ⟨_, rfl⟩
  replace H : (spec_l1Read.l0 k a0 y363 (y363.length : Int) 0) = some (r1, r2, r3, r4, r5, r6, r7) := by first | (rw [hy363]; with_reducible exact H) | (have H2_ := (Option.bind_some _ _).symm.trans H; rw [hy363]; with_reducible exact H2_) | (have H2_ := (Option.bind_some _ _).symm.trans H; with_reducible exact H2_) | with_reducible exact H | (rw [hy363]; exact H) | exact H
  have Ny363 := Aside0.mk hy363
  clear hy363
  have H' := Aside0.mk H
  clear H
  go_enter Tryz.func17, Tryz.ntmps17
  go_wp2_with (first | ((with_reducible refine gate_dst (N := 2) rfl ?_); refine xbe_ (N := 2) (cs := #[.string (⟨#[]⟩ : ByteArray), .string (⟨#[]⟩ : ByteArray), .int .i64 0, .string (⟨#[]⟩ : ByteArray), .string (⟨#[]⟩ : ByteArray), .bool false]) (t := 24) ?_; intro gb362 hg w5 hbox hb; have BK362 := Aside0.mk (hbox); have GW362 := xge_ HB hg; have GE362 := xge_ HB hg; replace HB := xws_ HB hb; clear hb hbox hg) | ((with_reducible refine gate_dst (N := 11) rfl ?_); refine Kd.R_lit Kd.string _ 9 ?hg (N := 11) ?hd (xs := ([(⟨#[104, 116, 116, 112]⟩ : ByteArray), (⟨#[104, 116, 116, 112, 115]⟩ : ByteArray)] : List ByteArray)) (inner := [.string (⟨#[104, 116, 116, 112]⟩ : ByteArray), .string (⟨#[104, 116, 116, 112, 115]⟩ : ByteArray)]) (ok := fun _ => True) (okp := fun _ => True) ?hr ?hp (fun _ hk => hk) trivial (Below.refl _ _) (Nat.le_refl _) (by simp) ?_; (case hd => rfl); (case hg => rfl); (case hr => first | (go_simp; done) | (go_simp; rfl)); (case hp => exact (Reps.one (show Kd.M Kd.string _ _ _ (⟨#[104, 116, 116, 112]⟩ : ByteArray) [.string (⟨#[104, 116, 116, 112]⟩ : ByteArray)] from rfl) (Reps.one (show Kd.M Kd.string _ _ _ (⟨#[104, 116, 116, 112, 115]⟩ : ByteArray) [.string (⟨#[104, 116, 116, 112, 115]⟩ : ByteArray)] from rfl) (Reps.none _ _)))); intro v364 w6 ho7 hb hg_ hnew_; clear hg_ hnew_; (first | rw [← Ny363.out] at ho7 | (simp only [Int.reduceToNat] at ho7; rw [← Ny363.out] at ho7)); have HO365 := Aside0.mk (Kd.R_lower ho7 (below_size (xw_ HB))); replace BK362 := xbb_ BK362 hb; replace HB := xws_ HB hb; clear hb ho7; obtain ⟨Ao8, co8, eo8⟩ := Kd.R_slice HO365.out; subst eo8))
  go_loopg [13] k (fun kq v13 w' => ∃ (x13_1 : Int) (x363000_1 : ByteArray) (x363001_1 : ByteArray) (x363002_1 : Int) (x363003_1 : ByteArray) (x363004_1 : ByteArray) (x363005_1 : Bool), v13 = .int .i64 x13_1 ∧ Aside0 (spec_l1Read.l0 kq a0 y363 (y363.length : Int) x13_1 = some (r1, r2, r3, r4, r5, r6, r7)) ∧ Aside0 (kq ≤ k) ∧ Aside0 (Kd.R Kd.string 9 w' w.heap.size (fun _ => True) (.slice Ao8 y363.length co8) y363) ∧ Aside0 (w'.heap[gb362]? = some (.cells #[.string x363000_1, .string x363001_1, .int .i64 x363002_1, .string x363003_1, .string x363004_1, .bool x363005_1] 24 (0, 0))) ∧ Aside0 (Below w.heap.size w w'))
  case atStart => exact ⟨(0), ((⟨#[]⟩ : ByteArray)), ((⟨#[]⟩ : ByteArray)), (0), ((⟨#[]⟩ : ByteArray)), ((⟨#[]⟩ : ByteArray)), (false), (by first | rfl | (simp; done) | (simp [*]; done)), H', ⟨Nat.le_refl _⟩, ⟨xr_ HO365⟩, ⟨xb_ BK362⟩, ⟨xw_ HB⟩⟩
  case round =>
   clear H'
   try clear c1
   try clear c2
   try clear c2b0
   try clear c2b1
   try clear p2
   obtain ⟨x13_1, x363000_1, x363001_1, x363002_1, x363003_1, x363004_1, x363005_1, rfl, HA, HK1, HO_11, BK362, HB⟩ := hrel
   cases gk with
   | zero => exact absurd HA.out (by simp [spec_l1Read.l0])
   | succ k1 =>
    have H := HA.out
    clear HA
    simp only [spec_l1Read.l0] at H
    by_cases c9 : x13_1 < (y363.length : Int)
    ·rw [if_pos c9] at H
     have c9b0 : decide (x13_1 < (y363.length : Int)) = true := decide_eq_true c9
     clear c9
     by_cases c10 : 0 ≤ x13_1
     ·rw [if_pos c10] at H
      have c10b0 : decide (0 ≤ x13_1) = true := decide_eq_true c10
      clear c10
      by_cases c11 : x13_1 < (y363.length : Int)
      ·rw [if_pos c11] at H
       have c11b0 : decide (x13_1 < (y363.length : Int)) = true := decide_eq_true c11
       clear c11
       by_cases c12 : (a0.size : Int) > (wrap64 (((rdOf ByteArray.empty y363 x13_1).size : Int) + 3))
       ·rw [if_pos c12] at H
        have c12b0 : decide ((wrap64 (((rdOf ByteArray.empty y363 x13_1).size : Int) + 3)) < (a0.size : Int)) = true := decide_eq_true c12
        clear c12
        obtain ⟨ji13, hji13⟩ : ∃ j_ : Int, (wrap64 (((rdOf ByteArray.empty y363 x13_1).size : Int) + 3)) = j_ := ⟨_, rfl⟩
        replace H : (if 0 ≤ (ji13) then (if (ji13) ≤ (a0.size : Int) then (if (rdOf ByteArray.empty y363 x13_1).size + 3 ≤ 9223372036854775807 then (if (a0.extract 0 ((ji13) : Int).toNat).toList = ((rdOf ByteArray.empty y363 x13_1) ++ (⟨#[58, 47, 47]⟩ : ByteArray)).toList then ((spec_l1Authority.f k1 (rdOf ByteArray.empty y363 x13_1) (a0.extract ((ji13) : Int).toNat a0.size)).bind fun bt367 => (some (bt367.1, bt367.2.1, bt367.2.2.1, bt367.2.2.2.1, bt367.2.2.2.2.1, bt367.2.2.2.2.2.1, bt367.2.2.2.2.2.2))) else (spec_l1Read.l0 k1 a0 y363 (y363.length : Int) (wrap64 (x13_1 + 1)))) else (none)) else (none)) else (none)) = some (r1, r2, r3, r4, r5, r6, r7) := by first | (rw [hji13] at H; exact H) | (simp only [hji13] at H ⊢; exact H)
        (try rw [hji13] at c12b0)
        have hji13w : (IntKind.i64.wrap (((rdOf ByteArray.empty y363 x13_1).size : Int) + 3)) = ji13 := (i64_w _).trans hji13
        by_cases c14 : 0 ≤ (ji13)
        ·rw [if_pos c14] at H
         have c14b0 := eq_true c14
         have c14b1 : decide (0 ≤ (ji13)) = true := decide_eq_true c14
         clear c14
         by_cases c15 : (ji13) ≤ (a0.size : Int)
         ·rw [if_pos c15] at H
          have c15b0 := eq_true c15
          have c15b1 : decide ((ji13) ≤ (a0.size : Int)) = true := decide_eq_true c15
          clear c15
          by_cases c16 : (rdOf ByteArray.empty y363 x13_1).size + 3 ≤ 9223372036854775807
          ·rw [if_pos c16] at H
           have c16b0 := eq_true c16
           have c16b1 : decide ((rdOf ByteArray.empty y363 x13_1).size + 3 ≤ 9223372036854775807) = true := decide_eq_true c16
           try have c16b2 : (9223372036854775807 < (rdOf ByteArray.empty y363 x13_1).size + 3) = False := eq_false (Nat.not_lt.2 c16)
           by_cases c17 : (a0.extract 0 ((ji13) : Int).toNat).toList = ((rdOf ByteArray.empty y363 x13_1) ++ (⟨#[58, 47, 47]⟩ : ByteArray)).toList
           ·rw [if_pos c17] at H
            have c17b0 : ((a0.extract 0 ((ji13) : Int).toNat).toList == ((rdOf ByteArray.empty y363 x13_1) ++ (⟨#[58, 47, 47]⟩ : ByteArray)).toList) = true := beq_iff_eq.mpr c17
            have c17b1 : ((a0.extract 0 ((ji13) : Int).toNat).toList != ((rdOf ByteArray.empty y363 x13_1) ++ (⟨#[58, 47, 47]⟩ : ByteArray)).toList) = false := bne_eq_false_iff_eq.mpr c17
            clear c17
            have c18b0 := eq_true (of_decide_eq_true (by first | (with_reducible assumption) | assumption) : 0 ≤ (ji13))
            have c19b0 := eq_true (of_decide_eq_true (by first | (with_reducible assumption) | assumption) : (ji13) ≤ (a0.size : Int))
            replace H := Option.bind_eq_some_iff.mp H
            obtain ⟨⟨t367, t368, t369, t370, t371, t372, t373⟩, A200, H⟩ := H
            replace H : (some (t367, t368, t369, t370, t371, t372, t373)) = some (r1, r2, r3, r4, r5, r6, r7) := H
            have A20 := Aside0.mk A200
            clear A200
            simp only [Option.some.injEq, Prod.mk.injEq] at H
            obtain ⟨rfl, rfl, rfl, rfl, rfl, rfl, rfl⟩ := H
            have p366 : 0 ≤ (x13_1 : Int) := of_decide_eq_true (by first | (with_reducible assumption) | assumption)
            have q366 : x13_1 < (y363.length : Int) := of_decide_eq_true (by first | (with_reducible assumption) | assumption)
            obtain ⟨ad366, e366, hx366_0⟩ := Kd.at_string (Kd.R_reads' HO_11.out).2.2 x13_1 p366 q366
            cases e366
            replace p366 := eq_true p366
            replace q366 := eq_true q366
            go_wp2_with (first | ((with_reducible refine gate_callee (f := 18) rfl ?_); refine goesL_ (some 36) rfl rfl Tryz.func18 (by kernel_rfl) rfl #[.string (rdOf ByteArray.empty y363 x13_1), .string (a0.extract ((ji13) : Int).toNat a0.size)] rfl (by (try simp only [List.map_toArray, List.map_cons, List.map_nil]); first | done | (simp only [hji13]; rfl) | rfl | (simp only [List.length_drop, List.length_take]; rfl)) ?_; (with_reducible refine (spec_l1Authority.calls k1 (rdOf ByteArray.empty y363 x13_1) (a0.extract ((ji13) : Int).toNat a0.size) t367 t368 t369 t370 t371 t372 t373 _ A20.out).mono ?_); rintro e w21 ⟨rfl, hb⟩; refine ⟨_, rfl, ?_⟩; replace HO_11 := xrb_ HO_11 hb; replace BK362 := xbb_ BK362 hb; replace HB := xws_ HB hb; (try clear hb); (try clear hb2); (try clear hk); (try clear hi); have ⟨_, _, _, _, _, _, _, _, _, _, _, _⟩ := c6_ BK362))
            refine bodyPost_ret (results_ct rfl _ _ gb362 24 #[.string t367, .string t368, .int .i64 t369, .string t370, .string t371, .bool t372] (0, 0) _ rfl (by (with_reducible repeat first | apply bN_ | apply bD_ | apply bA_); refine blk_put (cs := #[.string t367, .string t368, .int .i64 t369, .string t370, .string t371, .bool x363005_1]) ?_ 5 _ rfl; (with_reducible repeat first | apply bN_ | apply bD_ | apply bA_); refine blk_put (cs := #[.string t367, .string t368, .int .i64 t369, .string t370, .string x363004_1, .bool x363005_1]) ?_ 4 _ rfl; (with_reducible repeat first | apply bN_ | apply bD_ | apply bA_); refine blk_put (cs := #[.string t367, .string t368, .int .i64 t369, .string x363003_1, .string x363004_1, .bool x363005_1]) ?_ 3 _ rfl; (with_reducible repeat first | apply bN_ | apply bD_ | apply bA_); refine blk_put (cs := #[.string t367, .string t368, .int .i64 x363002_1, .string x363003_1, .string x363004_1, .bool x363005_1]) ?_ 2 _ rfl; (with_reducible repeat first | apply bN_ | apply bD_ | apply bA_); refine blk_put (cs := #[.string t367, .string x363001_1, .int .i64 x363002_1, .string x363003_1, .string x363004_1, .bool x363005_1]) ?_ 1 _ rfl; (with_reducible repeat first | apply bN_ | apply bD_ | apply bA_); refine blk_put (cs := #[.string x363000_1, .string x363001_1, .int .i64 x363002_1, .string x363003_1, .string x363004_1, .bool x363005_1]) ?_ 0 _ rfl; (with_reducible repeat first | apply bN_ | apply bD_ | apply bA_); exact BK362.out) Tryz.underlying24 rfl (by kernel_rfl)) rfl ?_
            exact ⟨by first | rfl | (simp [errW_none, errW_some] <;> rfl) | (simp only [← hji13]; first | rfl | (simp [errW_none, errW_some] <;> rfl)) | (simp [*, errW_none, errW_some] <;> rfl), xw_ HB⟩
           ·rw [if_neg c17] at H
            have c17b0 : ((a0.extract 0 ((ji13) : Int).toNat).toList == ((rdOf ByteArray.empty y363 x13_1) ++ (⟨#[58, 47, 47]⟩ : ByteArray)).toList) = false := beq_eq_false_iff_ne.mpr c17
            have c17b1 : ((a0.extract 0 ((ji13) : Int).toNat).toList != ((rdOf ByteArray.empty y363 x13_1) ++ (⟨#[58, 47, 47]⟩ : ByteArray)).toList) = true := bne_iff_ne.mpr c17
            have H' := Aside0.mk H
            clear H
            have p366 : 0 ≤ (x13_1 : Int) := of_decide_eq_true (by first | (with_reducible assumption) | assumption)
            have q366 : x13_1 < (y363.length : Int) := of_decide_eq_true (by first | (with_reducible assumption) | assumption)
            obtain ⟨ad366, e366, hx366_0⟩ := Kd.at_string (Kd.R_reads' HO_11.out).2.2 x13_1 p366 q366
            cases e366
            replace p366 := eq_true p366
            replace q366 := eq_true q366
            go_wp2
            go_roundg k1
            case measure => have := HK1.out; omega
            case rel => exact ⟨(wrap64 (x13_1 + 1)), (x363000_1), (x363001_1), (x363002_1), (x363003_1), (x363004_1), (x363005_1), (by first | rfl | (simp; done) | (simp [*]; done)), H', ⟨by have := HK1.out; omega⟩, ⟨xr_ HO_11⟩, ⟨xb_ BK362⟩, ⟨xw_ HB⟩⟩
          ·rw [if_neg c16] at H
           exact absurd H (by simp)
         ·rw [if_neg c15] at H
          exact absurd H (by simp)
        ·rw [if_neg c14] at H
         exact absurd H (by simp)
       ·rw [if_neg c12] at H
        have c12b0 : decide ((wrap64 (((rdOf ByteArray.empty y363 x13_1).size : Int) + 3)) < (a0.size : Int)) = false := decide_eq_false c12
        clear c12
        have H' := Aside0.mk H
        clear H
        have p366 : 0 ≤ (x13_1 : Int) := of_decide_eq_true (by first | (with_reducible assumption) | assumption)
        have q366 : x13_1 < (y363.length : Int) := of_decide_eq_true (by first | (with_reducible assumption) | assumption)
        obtain ⟨ad366, e366, hx366_0⟩ := Kd.at_string (Kd.R_reads' HO_11.out).2.2 x13_1 p366 q366
        cases e366
        replace p366 := eq_true p366
        replace q366 := eq_true q366
        go_wp2
        go_roundg k1
        case measure => have := HK1.out; omega
        case rel => exact ⟨(wrap64 (x13_1 + 1)), (x363000_1), (x363001_1), (x363002_1), (x363003_1), (x363004_1), (x363005_1), (by first | rfl | (simp; done) | (simp [*]; done)), H', ⟨by have := HK1.out; omega⟩, ⟨xr_ HO_11⟩, ⟨xb_ BK362⟩, ⟨xw_ HB⟩⟩
      ·rw [if_neg c11] at H
       exact absurd H (by simp)
     ·rw [if_neg c10] at H
      exact absurd H (by simp)
    ·rw [if_neg c9] at H
     have c9b0 : decide (x13_1 < (y363.length : Int)) = false := decide_eq_false c9
     clear c9
     simp only [Option.some.injEq, Prod.mk.injEq] at H
     obtain ⟨rfl, rfl, rfl, rfl, rfl, rfl, rfl⟩ := H
     have ⟨_, _, _, _, _, _, _, _, _, _, _, _⟩ := c6_ BK362
     go_wp2
     refine bodyPost_ret (results_ct rfl _ _ gb362 24 #[.string (⟨#[]⟩ : ByteArray), .string (⟨#[]⟩ : ByteArray), .int .i64 0, .string (⟨#[]⟩ : ByteArray), .string (⟨#[]⟩ : ByteArray), .bool false] (0, 0) _ rfl (by (with_reducible repeat first | apply bN_ | apply bD_ | apply bA_); refine blk_put (cs := #[.string (⟨#[]⟩ : ByteArray), .string (⟨#[]⟩ : ByteArray), .int .i64 0, .string (⟨#[]⟩ : ByteArray), .string (⟨#[]⟩ : ByteArray), .bool x363005_1]) ?_ 5 _ rfl; (with_reducible repeat first | apply bN_ | apply bD_ | apply bA_); refine blk_put (cs := #[.string (⟨#[]⟩ : ByteArray), .string (⟨#[]⟩ : ByteArray), .int .i64 0, .string (⟨#[]⟩ : ByteArray), .string x363004_1, .bool x363005_1]) ?_ 4 _ rfl; (with_reducible repeat first | apply bN_ | apply bD_ | apply bA_); refine blk_put (cs := #[.string (⟨#[]⟩ : ByteArray), .string (⟨#[]⟩ : ByteArray), .int .i64 0, .string x363003_1, .string x363004_1, .bool x363005_1]) ?_ 3 _ rfl; (with_reducible repeat first | apply bN_ | apply bD_ | apply bA_); refine blk_put (cs := #[.string (⟨#[]⟩ : ByteArray), .string (⟨#[]⟩ : ByteArray), .int .i64 x363002_1, .string x363003_1, .string x363004_1, .bool x363005_1]) ?_ 2 _ rfl; (with_reducible repeat first | apply bN_ | apply bD_ | apply bA_); refine blk_put (cs := #[.string (⟨#[]⟩ : ByteArray), .string x363001_1, .int .i64 x363002_1, .string x363003_1, .string x363004_1, .bool x363005_1]) ?_ 1 _ rfl; (with_reducible repeat first | apply bN_ | apply bD_ | apply bA_); refine blk_put (cs := #[.string x363000_1, .string x363001_1, .int .i64 x363002_1, .string x363003_1, .string x363004_1, .bool x363005_1]) ?_ 0 _ rfl; (with_reducible repeat first | apply bN_ | apply bD_ | apply bA_); exact BK362.out) Tryz.underlying24 rfl (by kernel_rfl)) rfl ?_
     exact ⟨by first | rfl | (simp [errW_none, errW_some] <;> rfl) | (simp [*, errW_none, errW_some] <;> rfl), xw_ HB⟩

/-! ### spec_l1Dots: function 20 -/
mutual
def spec_l1Dots.j1 : Nat → List ByteArray → ByteArray → Option (ByteArray)
 | 0, _, _ => none
 | k + 1, x3, x5 => spec_l1Dots.l1 k x5 (⟨#[]⟩ : ByteArray) x3 (x3.length : Int) 0
def spec_l1Dots.l1 : Nat → ByteArray → ByteArray → List ByteArray → Int → Int → Option (ByteArray)
 | 0, _, _, _, _, _ => none
 | k + 1, x5, x9, x41, x42, x43 => if x43 < x42 then (if 0 ≤ x43 then (if x43 < (x41.length : Int) then (if 1 + (rdOf ByteArray.empty x41 x43).size ≤ 9223372036854775807 then (if x9.size + ((⟨#[47]⟩ : ByteArray) ++ (rdOf ByteArray.empty x41 x43)).size ≤ 9223372036854775807 then (spec_l1Dots.l1 k x5 (x9 ++ ((⟨#[47]⟩ : ByteArray) ++ (rdOf ByteArray.empty x41 x43))) x41 x42 (wrap64 (x43 + 1))) else (none)) else (none)) else (none)) else (none)) else (if x9.toList = ([] : List UInt8) then (if x9.size + 1 ≤ 9223372036854775807 then (some (x9 ++ (⟨#[47]⟩ : ByteArray))) else (none)) else (if x5.toList = ([46] : List UInt8) then (if x9.size + 1 ≤ 9223372036854775807 then (some (x9 ++ (⟨#[47]⟩ : ByteArray))) else (none)) else (if x5.toList = ([46, 46] : List UInt8) then (if x9.size + 1 ≤ 9223372036854775807 then (some (x9 ++ (⟨#[47]⟩ : ByteArray))) else (none)) else (some x9))))
def spec_l1Dots.l0 : Nat → List ByteArray → ByteArray → Option (ByteArray)
 | 0, _, _ => none
 | k + 1, x3, x4 => (spec_l1Cut.f k x4 47).bind fun bt374 => (if bt374.1.toList = ([46] : List UInt8) then (if bt374.2.2 = true then (spec_l1Dots.l0 k x3 bt374.2.1) else (spec_l1Dots.j1 k x3 bt374.1)) else (if bt374.1.toList = ([46, 46] : List UInt8) then (if (x3.length : Int) > 0 then (if 0 ≤ (wrap64 ((x3.length : Int) - 1)) then (if (wrap64 ((x3.length : Int) - 1)) ≤ (x3.length : Int) then ((some (x3.take ((wrap64 ((x3.length : Int) - 1)) : Int).toNat : List ByteArray)).bind fun y377 => (if bt374.2.2 = true then (spec_l1Dots.l0 k y377 bt374.2.1) else (spec_l1Dots.j1 k y377 bt374.1))) else (none)) else (none)) else (if bt374.2.2 = true then (spec_l1Dots.l0 k x3 bt374.2.1) else (spec_l1Dots.j1 k x3 bt374.1))) else (if x3.length < 8796093022208 then ((some (x3 ++ [bt374.1] : List ByteArray)).bind fun y380 => (if bt374.2.2 = true then (spec_l1Dots.l0 k y380 bt374.2.1) else (spec_l1Dots.j1 k y380 bt374.1))) else (none))))
end
def spec_l1Dots.f (k : Nat) (a0 : ByteArray) : Option (ByteArray) := if 1 ≤ (a0.size : Int) then (spec_l1Dots.l0 k ([] : List ByteArray) (a0.extract 1 a0.size)) else (none)
theorem spec_l1Dots.mono_l : ∀ k, (∀ y0 y1, LeO (spec_l1Dots.j1 k y0 y1) (spec_l1Dots.j1 (k + 1) y0 y1)) ∧ (∀ y0 y1 y2 y3 y4, LeO (spec_l1Dots.l1 k y0 y1 y2 y3 y4) (spec_l1Dots.l1 (k + 1) y0 y1 y2 y3 y4)) ∧ (∀ y0 y1, LeO (spec_l1Dots.l0 k y0 y1) (spec_l1Dots.l0 (k + 1) y0 y1))
 | 0 => ⟨fun _ _ r h => by simp [spec_l1Dots.j1] at h, fun _ _ _ _ _ r h => by simp [spec_l1Dots.l1] at h, fun _ _ r h => by simp [spec_l1Dots.l0] at h⟩
 | k + 1 => by
  obtain ⟨ih0, ih1, ih2⟩ := spec_l1Dots.mono_l k
  refine ⟨?_, ?_, ?_⟩
  ·intro y0 y1
   unfold spec_l1Dots.j1
   repeat' first
   | (with_reducible exact ih0 _ _)
   | (with_reducible exact ih1 _ _ _ _ _)
   | (with_reducible exact ih2 _ _)
   | (with_reducible exact spec_l1Cut.mono _ _ _)
   | (with_reducible exact LeO.refl _)
   | (with_reducible exact LeO.none _)
   | (with_reducible refine LeO.ite ?_ ?_)
   | (with_reducible refine LeO.bind ?_ (fun _ => ?_))
   | exact ih0 _ _
   | exact ih1 _ _ _ _ _
   | exact ih2 _ _
   | exact spec_l1Cut.mono _ _ _
   | exact LeO.none _
   | refine LeO.ite ?_ ?_
   | refine LeO.bind ?_ (fun _ => ?_)
  ·intro y0 y1 y2 y3 y4
   unfold spec_l1Dots.l1
   repeat' first
   | (with_reducible exact ih0 _ _)
   | (with_reducible exact ih1 _ _ _ _ _)
   | (with_reducible exact ih2 _ _)
   | (with_reducible exact spec_l1Cut.mono _ _ _)
   | (with_reducible exact LeO.refl _)
   | (with_reducible exact LeO.none _)
   | (with_reducible refine LeO.ite ?_ ?_)
   | (with_reducible refine LeO.bind ?_ (fun _ => ?_))
   | exact ih0 _ _
   | exact ih1 _ _ _ _ _
   | exact ih2 _ _
   | exact spec_l1Cut.mono _ _ _
   | exact LeO.none _
   | refine LeO.ite ?_ ?_
   | refine LeO.bind ?_ (fun _ => ?_)
  ·intro y0 y1
   unfold spec_l1Dots.l0
   repeat' first
   | (with_reducible exact ih0 _ _)
   | (with_reducible exact ih1 _ _ _ _ _)
   | (with_reducible exact ih2 _ _)
   | (with_reducible exact spec_l1Cut.mono _ _ _)
   | (with_reducible exact LeO.refl _)
   | (with_reducible exact LeO.none _)
   | (with_reducible refine LeO.ite ?_ ?_)
   | (with_reducible refine LeO.bind ?_ (fun _ => ?_))
   | exact ih0 _ _
   | exact ih1 _ _ _ _ _
   | exact ih2 _ _
   | exact spec_l1Cut.mono _ _ _
   | exact LeO.none _
   | refine LeO.ite ?_ ?_
   | refine LeO.bind ?_ (fun _ => ?_)
theorem spec_l1Dots.mono : ∀ a0 k, LeO (spec_l1Dots.f k a0) (spec_l1Dots.f (k + 1) a0) := by
 intro a0 k
 obtain ⟨ih0, ih1, ih2⟩ := spec_l1Dots.mono_l k
 unfold spec_l1Dots.f
 repeat' first
   | (with_reducible exact ih0 _ _)
   | (with_reducible exact ih1 _ _ _ _ _)
   | (with_reducible exact ih2 _ _)
   | (with_reducible exact spec_l1Cut.mono _ _ _)
   | (with_reducible exact LeO.refl _)
   | (with_reducible exact LeO.none _)
   | (with_reducible refine LeO.ite ?_ ?_)
   | (with_reducible refine LeO.bind ?_ (fun _ => ?_))
   | exact ih0 _ _
   | exact ih1 _ _ _ _ _
   | exact ih2 _ _
   | exact spec_l1Cut.mono _ _ _
   | exact LeO.none _
   | refine LeO.ite ?_ ?_
   | refine LeO.bind ?_ (fun _ => ?_)
set_option maxHeartbeats 8000000 in
set_option maxRecDepth 100000 in
theorem spec_l1Dots.calls (k : Nat) (a0 : ByteArray) (r : ByteArray) (w : World) (h : spec_l1Dots.f k a0 = some r) :
  Calls Tryz.prog 20 #[.string a0] w fun e w' => e = .returned (.string r) ∧ Below w.heap.size w w' := by
 have HB := Aside0.mk (Below.refl w.heap.size w)
 have H : (if 1 ≤ (a0.size : Int) then (spec_l1Dots.l0 k ([] : List ByteArray) (a0.extract 1 a0.size)) else (none)) = some r := h
 clear h
 by_cases c2 : 1 ≤ (a0.size : Int)
 ·rw [if_pos c2] at H
  have c2b0 := eq_true c2
  have c2b1 : decide (1 ≤ (a0.size : Int)) = true := decide_eq_true c2
  clear c2
  have HC3 := Aside0.mk H
  clear H
  go_enter Tryz.func20, Tryz.ntmps20
  go_upto_block 0 with (fail)
  go_cut [3, 5] (fun v3 v5 wc => ∃ (kq : Nat) (x3_2 : List ByteArray) (x5_2 : ByteArray), v5 = .string x5_2 ∧ Aside0 (spec_l1Dots.j1 kq x3_2 x5_2 = some r) ∧ Aside0 (kq ≤ k) ∧ Aside0 (Kd.R Kd.string 9 wc w.heap.size (fun _ => True) v3 x3_2) ∧ Aside0 (Below w.heap.size w wc))
  case first =>
   have H := HC3.out
   clear HC3
   have H' := Aside0.mk H
   clear H
   go_wp2
   go_loopg [3, 4] k (fun kq v3 v4 w' => ∃ (x3_1 : List ByteArray) (x4_1 : ByteArray), v4 = .string x4_1 ∧ Aside0 (spec_l1Dots.l0 kq x3_1 x4_1 = some r) ∧ Aside0 (kq ≤ k) ∧ Aside0 (Kd.R Kd.string 9 w' w.heap.size (fun _ => True) v3 x3_1) ∧ Aside0 (Below w.heap.size w w'))
   case atStart => exact ⟨(([] : List ByteArray)), (a0.extract 1 a0.size), (by first | rfl | (simp; done) | (simp [*]; done)), H', ⟨Nat.le_refl _⟩, ⟨by first | exact Kd.R_nil _ _ _ _ _ | exact Kd.N_nil _ _ _ _ _ | exact Kd.V_nil _ _ _ _ _ | exact Kd.Q_nil _ _ _ _ _ | exact Kd.S_nil _ _ _ _ _⟩, ⟨xw_ HB⟩⟩
   case round =>
    clear H'
    try clear c2
    try clear c2b0
    try clear c2b1
    try clear p2
    obtain ⟨x3_1, x4_1, rfl, HA, HK1, HO_3, HB⟩ := hrel
    cases gk with
    | zero => exact absurd HA.out (by simp [spec_l1Dots.l0])
    | succ k1 =>
     have H := HA.out
     clear HA
     simp only [spec_l1Dots.l0] at H
     replace H := Option.bind_eq_some_iff.mp H
     obtain ⟨⟨t374, t375, t376⟩, A40, H⟩ := H
     replace H : (if t374.toList = ([46] : List UInt8) then (if t376 = true then (spec_l1Dots.l0 k1 x3_1 t375) else (spec_l1Dots.j1 k1 x3_1 t374)) else (if t374.toList = ([46, 46] : List UInt8) then (if (x3_1.length : Int) > 0 then (if 0 ≤ (wrap64 ((x3_1.length : Int) - 1)) then (if (wrap64 ((x3_1.length : Int) - 1)) ≤ (x3_1.length : Int) then ((some (x3_1.take ((wrap64 ((x3_1.length : Int) - 1)) : Int).toNat : List ByteArray)).bind fun y377 => (if t376 = true then (spec_l1Dots.l0 k1 y377 t375) else (spec_l1Dots.j1 k1 y377 t374))) else (none)) else (none)) else (if t376 = true then (spec_l1Dots.l0 k1 x3_1 t375) else (spec_l1Dots.j1 k1 x3_1 t374))) else (if x3_1.length < 8796093022208 then ((some (x3_1 ++ [t374] : List ByteArray)).bind fun y380 => (if t376 = true then (spec_l1Dots.l0 k1 y380 t375) else (spec_l1Dots.j1 k1 y380 t374))) else (none)))) = some r := H
     have A4 := Aside0.mk A40
     clear A40
     by_cases c5 : t374.toList = ([46] : List UInt8)
     ·rw [if_pos c5] at H
      have c5b0 : (t374.toList == ([46] : List UInt8)) = true := beq_iff_eq.mpr c5
      have c5b1 : (t374.toList != ([46] : List UInt8)) = false := bne_eq_false_iff_eq.mpr c5
      clear c5
      (first | rw [c5b0] | (simp only [i64_w, i32_w]; rw [c5b0]) | skip)
      by_cases c6 : t376 = true
      ·subst c6
       have H1 : (spec_l1Dots.l0 k1 x3_1 t375) = some r := by rw [if_pos rfl] at H; exact H
       clear H
       have H := H1
       clear H1
       have H' := Aside0.mk H
       clear H
       go_wp2_with (first | ((with_reducible refine gate_callee (f := 19) rfl ?_); refine xgl_ (some 16) Tryz.func19 #[.string x4_1, .int .u8 47] ?_; (with_reducible refine (spec_l1Cut.calls k1 x4_1 47 t374 t375 true _ A4.out).mono ?_); rintro e w' ⟨rfl, ⟨nd, rfl⟩⟩; refine ⟨_, rfl, ?_⟩))
       go_roundg k1
       case measure => have := HK1.out; omega
       case rel => exact ⟨(x3_1), (t375), (by first | rfl | (simp; done) | (simp [*]; done)), H', ⟨by have := HK1.out; omega⟩, ⟨xr_ HO_3⟩, ⟨xw_ HB⟩⟩
      ·replace c6 := Bool.eq_false_iff.mpr c6
       subst c6
       have H1 : (spec_l1Dots.j1 k1 x3_1 t374) = some r := by rw [if_neg (show ¬ (false = true) by decide)] at H; exact H
       clear H
       have H := H1
       clear H1
       have H' := Aside0.mk H
       clear H
       go_wp2_with (first | ((with_reducible refine gate_callee (f := 19) rfl ?_); refine xgl_ (some 16) Tryz.func19 #[.string x4_1, .int .u8 47] ?_; (with_reducible refine (spec_l1Cut.calls k1 x4_1 47 t374 t375 false _ A4.out).mono ?_); rintro e w' ⟨rfl, ⟨nd, rfl⟩⟩; refine ⟨_, rfl, ?_⟩))
       go_meet
       case rel => exact ⟨_, (x3_1), (t374), (by first | rfl | (simp; done) | (simp [*]; done)), H', ⟨by have := HK1.out; first | omega | exact Nat.le_refl _⟩, ⟨xr_ HO_3⟩, ⟨xw_ HB⟩⟩
     ·rw [if_neg c5] at H
      have c5b0 : (t374.toList == ([46] : List UInt8)) = false := beq_eq_false_iff_ne.mpr c5
      have c5b1 : (t374.toList != ([46] : List UInt8)) = true := bne_iff_ne.mpr c5
      (first | rw [c5b0] | (simp only [i64_w, i32_w]; rw [c5b0]) | skip)
      by_cases c7 : t374.toList = ([46, 46] : List UInt8)
      ·rw [if_pos c7] at H
       have c7b0 : (t374.toList == ([46, 46] : List UInt8)) = true := beq_iff_eq.mpr c7
       have c7b1 : (t374.toList != ([46, 46] : List UInt8)) = false := bne_eq_false_iff_eq.mpr c7
       clear c7
       by_cases c8 : (x3_1.length : Int) > 0
       ·rw [if_pos c8] at H
        have c8b0 : decide (0 < (x3_1.length : Int)) = true := decide_eq_true c8
        have c8b1 : decide (0 < x3_1.length) = true := decide_eq_true (by omega)
        clear c8
        obtain ⟨ji9, hji9⟩ : ∃ j_ : Int, (wrap64 ((x3_1.length : Int) - 1)) = j_ := ⟨_, rfl⟩
        replace H : (if 0 ≤ (ji9) then (if (ji9) ≤ (x3_1.length : Int) then ((some (x3_1.take ((ji9) : Int).toNat : List ByteArray)).bind fun y377 => (if t376 = true then (spec_l1Dots.l0 k1 y377 t375) else (spec_l1Dots.j1 k1 y377 t374))) else (none)) else (none)) = some r := by first | (rw [hji9] at H; exact H) | (simp only [hji9] at H ⊢; exact H)
        (try rw [hji9] at A4)
        have hji9w : (IntKind.i64.wrap ((x3_1.length : Int) - 1)) = ji9 := (i64_w _).trans hji9
        by_cases c10 : 0 ≤ (ji9)
        ·rw [if_pos c10] at H
         have c10b0 := eq_true c10
         have c10b1 : decide (0 ≤ (ji9)) = true := decide_eq_true c10
         clear c10
         by_cases c11 : (ji9) ≤ (x3_1.length : Int)
         ·rw [if_pos c11] at H
          have c11b0 := eq_true c11
          have c11b1 : decide ((ji9) ≤ (x3_1.length : Int)) = true := decide_eq_true c11
          clear c11
          obtain ⟨y377, hy377⟩ : ∃ y_ : List ByteArray, y_ = (x3_1.take ((ji9) : Int).toNat) := ⟨_, rfl⟩
          replace H : (if t376 = true then (spec_l1Dots.l0 k1 y377 t375) else (spec_l1Dots.j1 k1 y377 t374)) = some r := by first | (rw [hy377]; with_reducible exact H) | (have H2_ := (Option.bind_some _ _).symm.trans H; rw [hy377]; with_reducible exact H2_) | (have H2_ := (Option.bind_some _ _).symm.trans H; with_reducible exact H2_) | with_reducible exact H | (rw [hy377]; exact H) | exact H
          have Ny377 := Aside0.mk hy377
          clear hy377
          by_cases c12 : t376 = true
          ·subst c12
           have H1 : (spec_l1Dots.l0 k1 y377 t375) = some r := by rw [if_pos rfl] at H; exact H
           clear H
           have H := H1
           clear H1
           have H' := Aside0.mk H
           clear H
           go_wp2_with (first | ((with_reducible refine gate_callee (f := 19) rfl ?_); refine xgl_ (some 16) Tryz.func19 #[.string x4_1, .int .u8 47] ?_; (with_reducible refine (spec_l1Cut.calls k1 x4_1 47 t374 t375 true _ A4.out).mono ?_); rintro e w' ⟨rfl, ⟨nd, rfl⟩⟩; refine ⟨_, rfl, ?_⟩; obtain ⟨Ao13, co13, eo13⟩ := Kd.R_slice HO_3.out; subst eo13; have q14 : ((ji9) : Int) ≤ ((x3_1.length : Int) : Int) := of_decide_eq_true (by first | (with_reducible assumption) | assumption); obtain ⟨i014, hi014, _, hsz14, _⟩ := info_parts info9; have hcut14 := cut_to (P := Tryz.prog) 39 9 .i64 Tryz.underlying39 hi014 Ao13 x3_1.length co13 (ji9) (of_decide_eq_true (by first | (with_reducible assumption) | assumption)) q14 (Kd.R_reads' HO_3.out).2.1; have hr14 := Kd.R_take (m := ((ji9) : Int).toNat) HO_3.out (by omega); have hy14 : y377.length = ((ji9) : Int).toNat := (by rw [Ny377.out, List.length_take]; omega); rw [← Ny377.out] at hr14; rw [← hy14] at hr14 hcut14; clear hy14 hi014 hsz14 HO_3; have HO379 := Aside0.mk hr14; clear hr14; replace q14 := eq_true q14))
           go_roundg k1
           case measure => have := HK1.out; omega
           case rel => exact ⟨(y377), (t375), (by first | rfl | (simp; done) | (simp [*]; done)), H', ⟨by have := HK1.out; omega⟩, ⟨xr_ HO379⟩, ⟨xw_ HB⟩⟩
          ·replace c12 := Bool.eq_false_iff.mpr c12
           subst c12
           have H1 : (spec_l1Dots.j1 k1 y377 t374) = some r := by rw [if_neg (show ¬ (false = true) by decide)] at H; exact H
           clear H
           have H := H1
           clear H1
           have H' := Aside0.mk H
           clear H
           go_wp2_with (first | ((with_reducible refine gate_callee (f := 19) rfl ?_); refine xgl_ (some 16) Tryz.func19 #[.string x4_1, .int .u8 47] ?_; (with_reducible refine (spec_l1Cut.calls k1 x4_1 47 t374 t375 false _ A4.out).mono ?_); rintro e w' ⟨rfl, ⟨nd, rfl⟩⟩; refine ⟨_, rfl, ?_⟩; obtain ⟨Ao15, co15, eo15⟩ := Kd.R_slice HO_3.out; subst eo15; have q16 : ((ji9) : Int) ≤ ((x3_1.length : Int) : Int) := of_decide_eq_true (by first | (with_reducible assumption) | assumption); obtain ⟨i016, hi016, _, hsz16, _⟩ := info_parts info9; have hcut16 := cut_to (P := Tryz.prog) 39 9 .i64 Tryz.underlying39 hi016 Ao15 x3_1.length co15 (ji9) (of_decide_eq_true (by first | (with_reducible assumption) | assumption)) q16 (Kd.R_reads' HO_3.out).2.1; have hr16 := Kd.R_take (m := ((ji9) : Int).toNat) HO_3.out (by omega); have hy16 : y377.length = ((ji9) : Int).toNat := (by rw [Ny377.out, List.length_take]; omega); rw [← Ny377.out] at hr16; rw [← hy16] at hr16 hcut16; clear hy16 hi016 hsz16 HO_3; have HO379 := Aside0.mk hr16; clear hr16; replace q16 := eq_true q16))
           go_meet
           case rel => exact ⟨_, (y377), (t374), (by first | rfl | (simp; done) | (simp [*]; done)), H', ⟨by have := HK1.out; first | omega | exact Nat.le_refl _⟩, ⟨xr_ HO379⟩, ⟨xw_ HB⟩⟩
         ·rw [if_neg c11] at H
          exact absurd H (by simp)
        ·rw [if_neg c10] at H
         exact absurd H (by simp)
       ·rw [if_neg c8] at H
        have c8b0 : decide (0 < (x3_1.length : Int)) = false := decide_eq_false c8
        have c8b1 : decide (0 < x3_1.length) = false := decide_eq_false (by omega)
        clear c8
        by_cases c17 : t376 = true
        ·subst c17
         have H1 : (spec_l1Dots.l0 k1 x3_1 t375) = some r := by rw [if_pos rfl] at H; exact H
         clear H
         have H := H1
         clear H1
         have H' := Aside0.mk H
         clear H
         go_wp2_with (first | ((with_reducible refine gate_callee (f := 19) rfl ?_); refine xgl_ (some 16) Tryz.func19 #[.string x4_1, .int .u8 47] ?_; (with_reducible refine (spec_l1Cut.calls k1 x4_1 47 t374 t375 true _ A4.out).mono ?_); rintro e w' ⟨rfl, ⟨nd, rfl⟩⟩; refine ⟨_, rfl, ?_⟩; obtain ⟨Ao18, co18, eo18⟩ := Kd.R_slice HO_3.out; subst eo18))
         go_roundg k1
         case measure => have := HK1.out; omega
         case rel => exact ⟨(x3_1), (t375), (by first | rfl | (simp; done) | (simp [*]; done)), H', ⟨by have := HK1.out; omega⟩, ⟨xr_ HO_3⟩, ⟨xw_ HB⟩⟩
        ·replace c17 := Bool.eq_false_iff.mpr c17
         subst c17
         have H1 : (spec_l1Dots.j1 k1 x3_1 t374) = some r := by rw [if_neg (show ¬ (false = true) by decide)] at H; exact H
         clear H
         have H := H1
         clear H1
         have H' := Aside0.mk H
         clear H
         go_wp2_with (first | ((with_reducible refine gate_callee (f := 19) rfl ?_); refine xgl_ (some 16) Tryz.func19 #[.string x4_1, .int .u8 47] ?_; (with_reducible refine (spec_l1Cut.calls k1 x4_1 47 t374 t375 false _ A4.out).mono ?_); rintro e w' ⟨rfl, ⟨nd, rfl⟩⟩; refine ⟨_, rfl, ?_⟩; obtain ⟨Ao19, co19, eo19⟩ := Kd.R_slice HO_3.out; subst eo19))
         go_meet
         case rel => exact ⟨_, (x3_1), (t374), (by first | rfl | (simp; done) | (simp [*]; done)), H', ⟨by have := HK1.out; first | omega | exact Nat.le_refl _⟩, ⟨xr_ HO_3⟩, ⟨xw_ HB⟩⟩
      ·rw [if_neg c7] at H
       have c7b0 : (t374.toList == ([46, 46] : List UInt8)) = false := beq_eq_false_iff_ne.mpr c7
       have c7b1 : (t374.toList != ([46, 46] : List UInt8)) = true := bne_iff_ne.mpr c7
       by_cases c20 : x3_1.length < 8796093022208
       ·rw [if_pos c20] at H
        have LMc20 := Aside0.mk c20
        clear c20
        obtain ⟨y380, hy380⟩ : ∃ y_ : List ByteArray, y_ = (x3_1 ++ [t374]) := ⟨_, rfl⟩
        replace H : (if t376 = true then (spec_l1Dots.l0 k1 y380 t375) else (spec_l1Dots.j1 k1 y380 t374)) = some r := by first | (rw [hy380]; with_reducible exact H) | (have H2_ := (Option.bind_some _ _).symm.trans H; rw [hy380]; with_reducible exact H2_) | (have H2_ := (Option.bind_some _ _).symm.trans H; with_reducible exact H2_) | with_reducible exact H | (rw [hy380]; exact H) | exact H
        have Ny380 := Aside0.mk hy380
        clear hy380
        by_cases c21 : t376 = true
        ·subst c21
         have H1 : (spec_l1Dots.l0 k1 y380 t375) = some r := by rw [if_pos rfl] at H; exact H
         clear H
         have H := H1
         clear H1
         have H' := Aside0.mk H
         clear H
         go_wp2_with (first | ((with_reducible refine gate_callee (f := 19) rfl ?_); refine xgl_ (some 16) Tryz.func19 #[.string x4_1, .int .u8 47] ?_; (with_reducible refine (spec_l1Cut.calls k1 x4_1 47 t374 t375 true _ A4.out).mono ?_); rintro e w' ⟨rfl, ⟨nd, rfl⟩⟩; refine ⟨_, rfl, ?_⟩) | ((with_reducible refine gate_builtin (b := .append) (xs := #[.tmp 22, .tmp 24]) rfl ?_); at_builtin; refine Kd.R_append Kd.string (w0 := w) w.heap.size rfl (.tmp 22) (.tmp 24) 39 9 (.string ⟨#[]⟩) 16 rfl Tryz.underlying39 info9 rfl (by decide) (by omega) u3 x3_1 t374 [.string t374] (fun _ => True) (fun _ => False) rfl rfl ?aP (fun _ hk => hk.elim) ?aF ?aO ?aB ?aS ?aL ?_; (case aP => exact rfl); (case aB => exact (xw_ HB)); (case aF => exact (fun _ _ => trivial)); (case aO => exact (xr_ HO_3)); (case aS => exact (below_size (xw_ HB))); (case aL => have := LMc20.out; omega); intro v381 w22 ho hb hg hat; rw [← Ny380.out] at ho; replace HB := Aside0.mk (hb); have HO382 := Aside0.mk (ho); clear HO_3; clear ho hb hg hat))
         go_roundg k1
         case measure => have := HK1.out; omega
         case rel => exact ⟨(y380), (t375), (by first | rfl | (simp; done) | (simp [*]; done)), H', ⟨by have := HK1.out; omega⟩, ⟨xr_ HO382⟩, ⟨xw_ HB⟩⟩
        ·replace c21 := Bool.eq_false_iff.mpr c21
         subst c21
         have H1 : (spec_l1Dots.j1 k1 y380 t374) = some r := by rw [if_neg (show ¬ (false = true) by decide)] at H; exact H
         clear H
         have H := H1
         clear H1
         have H' := Aside0.mk H
         clear H
         go_wp2_with (first | ((with_reducible refine gate_callee (f := 19) rfl ?_); refine xgl_ (some 16) Tryz.func19 #[.string x4_1, .int .u8 47] ?_; (with_reducible refine (spec_l1Cut.calls k1 x4_1 47 t374 t375 false _ A4.out).mono ?_); rintro e w' ⟨rfl, ⟨nd, rfl⟩⟩; refine ⟨_, rfl, ?_⟩) | ((with_reducible refine gate_builtin (b := .append) (xs := #[.tmp 22, .tmp 24]) rfl ?_); at_builtin; refine Kd.R_append Kd.string (w0 := w) w.heap.size rfl (.tmp 22) (.tmp 24) 39 9 (.string ⟨#[]⟩) 16 rfl Tryz.underlying39 info9 rfl (by decide) (by omega) u3 x3_1 t374 [.string t374] (fun _ => True) (fun _ => False) rfl rfl ?aP (fun _ hk => hk.elim) ?aF ?aO ?aB ?aS ?aL ?_; (case aP => exact rfl); (case aB => exact (xw_ HB)); (case aF => exact (fun _ _ => trivial)); (case aO => exact (xr_ HO_3)); (case aS => exact (below_size (xw_ HB))); (case aL => have := LMc20.out; omega); intro v381 w23 ho hb hg hat; rw [← Ny380.out] at ho; replace HB := Aside0.mk (hb); have HO382 := Aside0.mk (ho); clear HO_3; clear ho hb hg hat))
         go_meet
         case rel => exact ⟨_, (y380), (t374), (by first | rfl | (simp; done) | (simp [*]; done)), H', ⟨by have := HK1.out; first | omega | exact Nat.le_refl _⟩, ⟨xr_ HO382⟩, ⟨xw_ HB⟩⟩
       ·rw [if_neg c20] at H
        exact absurd H (by simp)
  case rest =>
   clear HC3
   try clear c1
   try clear q1
   try clear c2
   try clear c2b0
   try clear c2b1
   try clear p2
   try clear c5
   try clear c5b0
   try clear c5b1
   try clear c6
   try clear p6
   try clear c7
   try clear c7b0
   try clear c7b1
   try clear c8
   try clear c8b0
   try clear c8b1
   try clear c10
   try clear c10b0
   try clear c10b1
   try clear c11
   try clear c11b0
   try clear c11b1
   try clear c12
   try clear q14
   try clear q16
   try clear c17
   try clear c19
   try clear c20
   try clear c21
   try clear p2
   try clear q14
   try clear q16
   obtain ⟨kq, x3_2, x5_2, rfl, HA, HJ2, HO_3, HB⟩ := hcut
   cases kq with
   | zero => exact absurd HA.out (by simp [spec_l1Dots.j1])
   | succ kj2 =>
    have H := HA.out
    clear HA
    simp only [spec_l1Dots.j1] at H
    have H' := Aside0.mk H
    clear H
    obtain ⟨Ao24, co24, eo24⟩ := Kd.R_slice HO_3.out
    subst eo24
    go_wp2
    go_loopg [9, 43] kj2 (fun kq v9 v43 w' => ∃ (x9_2 : ByteArray) (x43_2 : Int), v9 = .string x9_2 ∧ v43 = .int .i64 x43_2 ∧ Aside0 (spec_l1Dots.l1 kq x5_2 x9_2 x3_2 (x3_2.length : Int) x43_2 = some r) ∧ Aside0 (kq ≤ kj2) ∧ Aside0 (Kd.R Kd.string 9 w' w.heap.size (fun _ => True) (.slice Ao24 x3_2.length co24) x3_2) ∧ Aside0 (Below w.heap.size w w'))
    case atStart => exact ⟨((⟨#[]⟩ : ByteArray)), (0), (by first | rfl | (simp; done) | (simp [*]; done)), (by first | rfl | (simp; done) | (simp [*]; done)), H', ⟨Nat.le_refl _⟩, ⟨xr_ HO_3⟩, ⟨xw_ HB⟩⟩
    case round =>
     clear H'
     try clear c1
     try clear q1
     try clear c2
     try clear c2b0
     try clear c2b1
     try clear p2
     try clear c5
     try clear c5b0
     try clear c5b1
     try clear c6
     try clear p6
     try clear c7
     try clear c7b0
     try clear c7b1
     try clear c8
     try clear c8b0
     try clear c8b1
     try clear c10
     try clear c10b0
     try clear c10b1
     try clear c11
     try clear c11b0
     try clear c11b1
     try clear c12
     try clear q14
     try clear q16
     try clear c17
     try clear c19
     try clear c20
     try clear c21
     try clear p2
     try clear p6
     try clear q1
     try clear q14
     try clear q16
     obtain ⟨x9_2, x43_2, rfl, rfl, HA, HK2, HO_41, HB⟩ := hrel
     cases gk with
     | zero => exact absurd HA.out (by simp [spec_l1Dots.l1])
     | succ k2 =>
      have H := HA.out
      clear HA
      simp only [spec_l1Dots.l1] at H
      by_cases c25 : x43_2 < (x3_2.length : Int)
      ·rw [if_pos c25] at H
       have c25b0 : decide (x43_2 < (x3_2.length : Int)) = true := decide_eq_true c25
       clear c25
       by_cases c26 : 0 ≤ x43_2
       ·rw [if_pos c26] at H
        have c26b0 : decide (0 ≤ x43_2) = true := decide_eq_true c26
        clear c26
        by_cases c27 : x43_2 < (x3_2.length : Int)
        ·rw [if_pos c27] at H
         have c27b0 : decide (x43_2 < (x3_2.length : Int)) = true := decide_eq_true c27
         clear c27
         by_cases c28 : 1 + (rdOf ByteArray.empty x3_2 x43_2).size ≤ 9223372036854775807
         ·rw [if_pos c28] at H
          have c28b0 := eq_true c28
          have c28b1 : decide (1 + (rdOf ByteArray.empty x3_2 x43_2).size ≤ 9223372036854775807) = true := decide_eq_true c28
          try have c28b2 : (9223372036854775807 < 1 + (rdOf ByteArray.empty x3_2 x43_2).size) = False := eq_false (Nat.not_lt.2 c28)
          by_cases c29 : x9_2.size + ((⟨#[47]⟩ : ByteArray) ++ (rdOf ByteArray.empty x3_2 x43_2)).size ≤ 9223372036854775807
          ·rw [if_pos c29] at H
           have c29b0 := eq_true c29
           have c29b1 : decide (x9_2.size + ((⟨#[47]⟩ : ByteArray) ++ (rdOf ByteArray.empty x3_2 x43_2)).size ≤ 9223372036854775807) = true := decide_eq_true c29
           try have c29b2 : (9223372036854775807 < x9_2.size + ((⟨#[47]⟩ : ByteArray) ++ (rdOf ByteArray.empty x3_2 x43_2)).size) = False := eq_false (Nat.not_lt.2 c29)
           have H' := Aside0.mk H
           clear H
           have p383 : 0 ≤ (x43_2 : Int) := of_decide_eq_true (by first | (with_reducible assumption) | assumption)
           have q383 : x43_2 < (x3_2.length : Int) := of_decide_eq_true (by first | (with_reducible assumption) | assumption)
           obtain ⟨ad383, e383, hx383_0⟩ := Kd.at_string (Kd.R_reads' HO_41.out).2.2 x43_2 p383 q383
           cases e383
           replace p383 := eq_true p383
           replace q383 := eq_true q383
           go_wp2
           go_roundg k2
           case measure => have := HJ2.out; have := HK2.out; omega
           case rel => exact ⟨(x9_2 ++ ((⟨#[47]⟩ : ByteArray) ++ (rdOf ByteArray.empty x3_2 x43_2))), (wrap64 (x43_2 + 1)), (by first | rfl | (simp; done) | (simp [*]; done)), (by first | rfl | (simp; done) | (simp [*]; done)), H', ⟨by have := HJ2.out; have := HK2.out; omega⟩, ⟨xr_ HO_41⟩, ⟨xw_ HB⟩⟩
          ·rw [if_neg c29] at H
           exact absurd H (by simp)
         ·rw [if_neg c28] at H
          exact absurd H (by simp)
        ·rw [if_neg c27] at H
         exact absurd H (by simp)
       ·rw [if_neg c26] at H
        exact absurd H (by simp)
      ·rw [if_neg c25] at H
       have c25b0 : decide (x43_2 < (x3_2.length : Int)) = false := decide_eq_false c25
       clear c25
       by_cases c30 : x9_2.toList = ([] : List UInt8)
       ·rw [if_pos c30] at H
        have c30b0 : (x9_2.toList == ([] : List UInt8)) = true := beq_iff_eq.mpr c30
        have c30b1 : (x9_2.toList != ([] : List UInt8)) = false := bne_eq_false_iff_eq.mpr c30
        clear c30
        by_cases c31 : x9_2.size + 1 ≤ 9223372036854775807
        ·rw [if_pos c31] at H
         have c31b0 := eq_true c31
         have c31b1 : decide (x9_2.size + 1 ≤ 9223372036854775807) = true := decide_eq_true c31
         try have c31b2 : (9223372036854775807 < x9_2.size + 1) = False := eq_false (Nat.not_lt.2 c31)
         obtain rfl := Option.some.inj H
         go_wp2
         go_ret
         exact ⟨by first | rfl | (simp [errW_none, errW_some] <;> rfl) | (simp [*, errW_none, errW_some] <;> rfl), xw_ HB⟩
        ·rw [if_neg c31] at H
         exact absurd H (by simp)
       ·rw [if_neg c30] at H
        have c30b0 : (x9_2.toList == ([] : List UInt8)) = false := beq_eq_false_iff_ne.mpr c30
        have c30b1 : (x9_2.toList != ([] : List UInt8)) = true := bne_iff_ne.mpr c30
        by_cases c32 : x5_2.toList = ([46] : List UInt8)
        ·rw [if_pos c32] at H
         have c32b0 : (x5_2.toList == ([46] : List UInt8)) = true := beq_iff_eq.mpr c32
         have c32b1 : (x5_2.toList != ([46] : List UInt8)) = false := bne_eq_false_iff_eq.mpr c32
         clear c32
         by_cases c33 : x9_2.size + 1 ≤ 9223372036854775807
         ·rw [if_pos c33] at H
          have c33b0 := eq_true c33
          have c33b1 : decide (x9_2.size + 1 ≤ 9223372036854775807) = true := decide_eq_true c33
          try have c33b2 : (9223372036854775807 < x9_2.size + 1) = False := eq_false (Nat.not_lt.2 c33)
          obtain rfl := Option.some.inj H
          go_wp2
          go_ret
          exact ⟨by first | rfl | (simp [errW_none, errW_some] <;> rfl) | (simp [*, errW_none, errW_some] <;> rfl), xw_ HB⟩
         ·rw [if_neg c33] at H
          exact absurd H (by simp)
        ·rw [if_neg c32] at H
         have c32b0 : (x5_2.toList == ([46] : List UInt8)) = false := beq_eq_false_iff_ne.mpr c32
         have c32b1 : (x5_2.toList != ([46] : List UInt8)) = true := bne_iff_ne.mpr c32
         by_cases c34 : x5_2.toList = ([46, 46] : List UInt8)
         ·rw [if_pos c34] at H
          have c34b0 : (x5_2.toList == ([46, 46] : List UInt8)) = true := beq_iff_eq.mpr c34
          have c34b1 : (x5_2.toList != ([46, 46] : List UInt8)) = false := bne_eq_false_iff_eq.mpr c34
          clear c34
          by_cases c35 : x9_2.size + 1 ≤ 9223372036854775807
          ·rw [if_pos c35] at H
           have c35b0 := eq_true c35
           have c35b1 : decide (x9_2.size + 1 ≤ 9223372036854775807) = true := decide_eq_true c35
           try have c35b2 : (9223372036854775807 < x9_2.size + 1) = False := eq_false (Nat.not_lt.2 c35)
           obtain rfl := Option.some.inj H
           go_wp2
           go_ret
           exact ⟨by first | rfl | (simp [errW_none, errW_some] <;> rfl) | (simp [*, errW_none, errW_some] <;> rfl), xw_ HB⟩
          ·rw [if_neg c35] at H
           exact absurd H (by simp)
         ·rw [if_neg c34] at H
          have c34b0 : (x5_2.toList == ([46, 46] : List UInt8)) = false := beq_eq_false_iff_ne.mpr c34
          have c34b1 : (x5_2.toList != ([46, 46] : List UInt8)) = true := bne_iff_ne.mpr c34
          obtain rfl := Option.some.inj H
          go_wp2
          go_ret
          exact ⟨by first | rfl | (simp [errW_none, errW_some] <;> rfl) | (simp [*, errW_none, errW_some] <;> rfl), xw_ HB⟩
 ·rw [if_neg c2] at H
  exact absurd H (by simp)

end Go.Proofs.YtklicdjbihmbiaaGreatDoor.PFnResolved
