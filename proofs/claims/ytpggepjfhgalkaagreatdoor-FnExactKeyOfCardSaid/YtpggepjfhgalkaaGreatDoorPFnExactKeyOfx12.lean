-- Written by a program of this project (xprint.py) out of the translation; Lean checks it.
import Derived.Test.YtpggepjfhgalkaaGreatDoorPFnExactKeyOfx0
import Derived.Test.YtpggepjfhgalkaaGreatDoorPFnExactKeyOfx3
import Derived.Test.YtpggepjfhgalkaaGreatDoorPFnExactKeyOfx9
import Derived.Test.YtpggepjfhgalkaaGreatDoorPFnExactKeyOfx10
import Derived.Test.YtpggepjfhgalkaaGreatDoorPFnExactKeyOfx11
namespace Go.Proofs.YtpggepjfhgalkaaGreatDoor.PFnExactKeyOf
open Go.RowKit Go.Proofs.YtpggepjfhgalkaaGreatDoorW.PrintWords Go.Proofs.YtpggepjfhgalkaaGreatDoorW.PrintLast Go.Proofs.YtpggepjfhgalkaaGreatDoorW.PrintMore
attribute [local go_sem] max2_int min2_int max_two min_two max_three min_three max_four min_four   -- for this text's walks alone
set_option linter.unusedVariables false
set_option linter.unusedSimpArgs false

/-! ### spec_ResolveUrl: function 71 -/
mutual
def spec_ResolveUrl.j0 : Nat → ByteArray → Bool → ByteArray → ByteArray → Int → ByteArray → ByteArray → Bool → Option (ByteArray × ByteArray × Int × ByteArray × ByteArray × Bool × Bool)
 | 0,_,_,_,_,_,_,_,_ => none
 | k + 1,x1,x19,x226000,x226001,x226002,x226003,x226004,x226005 => if x19 = true then (some ((⟨#[]⟩ : ByteArray),(⟨#[]⟩ : ByteArray),0,(⟨#[]⟩ : ByteArray),(⟨#[]⟩ : ByteArray),false,false)) else (if x1.toList = ([] : List UInt8) then (some (x226000,x226001,x226002,x226003,x226004,x226005,true)) else ((spec_l1Read.f k x1).bind fun bt228 => (if bt228.2.2.2.2.2.2 = true then (spec_ResolveUrl.j4 k bt228.2.2.2.2.2.2 bt228.1 bt228.2.1 bt228.2.2.1 bt228.2.2.2.1 bt228.2.2.2.2.1 bt228.2.2.2.2.2.1) else (if (x1.size : Int) > 1 then (if 0 ≤ 2 then (if 2 ≤ (x1.size : Int) then (spec_ResolveUrl.j1 k x1 ((x1.extract 0 2).toList == ([47,47] : List UInt8)) x226000 x226001 x226002 x226003 x226004 x226005) else (none)) else (none)) else (spec_ResolveUrl.j1 k x1 false x226000 x226001 x226002 x226003 x226004 x226005)))))
def spec_ResolveUrl.j4 : Nat → Bool → ByteArray → ByteArray → Int → ByteArray → ByteArray → Bool → Option (ByteArray × ByteArray × Int × ByteArray × ByteArray × Bool × Bool)
 | 0,_,_,_,_,_,_,_ => none
 | k + 1,x7,x236000,x236001,x236002,x236003,x236004,x236005 => if x7 = true then ((spec_l1Dots.f k x236003).bind fun t246 => ((spec_GoodUrl.f k x236000 x236001 x236002 t246 x236004 x236005).bind fun t247 => (if t247 = true then (some (x236000,x236001,x236002,t246,x236004,x236005,true)) else (some ((⟨#[]⟩ : ByteArray),(⟨#[]⟩ : ByteArray),0,(⟨#[]⟩ : ByteArray),(⟨#[]⟩ : ByteArray),false,false))))) else (some ((⟨#[]⟩ : ByteArray),(⟨#[]⟩ : ByteArray),0,(⟨#[]⟩ : ByteArray),(⟨#[]⟩ : ByteArray),false,false))
def spec_ResolveUrl.j1 : Nat → ByteArray → Bool → ByteArray → ByteArray → Int → ByteArray → ByteArray → Bool → Option (ByteArray × ByteArray × Int × ByteArray × ByteArray × Bool × Bool)
 | 0,_,_,_,_,_,_,_,_ => none
 | k + 1,x1,x71,x226000,x226001,x226002,x226003,x226004,x226005 => if x71 = true then (if 2 ≤ (x1.size : Int) then ((spec_l1Authority.f k x226000 (x1.extract 2 x1.size)).bind fun bt236 => (spec_ResolveUrl.j4 k bt236.2.2.2.2.2.2 bt236.1 bt236.2.1 bt236.2.2.1 bt236.2.2.2.1 bt236.2.2.2.2.1 bt236.2.2.2.2.2.1)) else (none)) else ((spec_l1Cut.f k x1 63).bind fun bt243 => (if bt243.1.toList = ([] : List UInt8) then (spec_ResolveUrl.j2 k bt243.1 false x226000 x226001 x226002 x226003 x226004 x226005 x226000 x226001 x226002 x226003 bt243.2.1 bt243.2.2) else (if 0 < (bt243.1.size : Int) then (spec_ResolveUrl.j2 k bt243.1 ((bt bt243.1 0) == 47) x226000 x226001 x226002 x226003 x226004 x226005 x226000 x226001 x226002 x226003 bt243.2.1 bt243.2.2) else (none))))
def spec_ResolveUrl.j2 : Nat → ByteArray → Bool → ByteArray → ByteArray → Int → ByteArray → ByteArray → Bool → ByteArray → ByteArray → Int → ByteArray → ByteArray → Bool → Option (ByteArray × ByteArray × Int × ByteArray × ByteArray × Bool × Bool)
 | 0,_,_,_,_,_,_,_,_,_,_,_,_,_,_ => none
 | k + 1,x8,x46,x226000,x226001,x226002,x226003,x226004,x226005,x236000,x236001,x236002,x236003,x236004,x236005 => if x46 = true then (spec_ResolveUrl.j4 k true x236000 x236001 x236002 x8 x236004 x236005) else (if x8.toList = ([] : List UInt8) then (spec_ResolveUrl.j4 k true x236000 x236001 x236002 x236003 x236004 x236005) else (spec_ResolveUrl.l0 k x8 (x226003.size : Int) x226000 x226001 x226002 x226003 x226004 x226005 x236000 x236001 x236002 x236003 x236004 x236005))
def spec_ResolveUrl.l0 : Nat → ByteArray → Int → ByteArray → ByteArray → Int → ByteArray → ByteArray → Bool → ByteArray → ByteArray → Int → ByteArray → ByteArray → Bool → Option (ByteArray × ByteArray × Int × ByteArray × ByteArray × Bool × Bool)
 | 0,_,_,_,_,_,_,_,_,_,_,_,_,_,_ => none
 | k + 1,x8,x11,x226000,x226001,x226002,x226003,x226004,x226005,x236000,x236001,x236002,x236003,x236004,x236005 => if 0 ≤ (wrap64 (x11 - 1)) then (if (wrap64 (x11 - 1)) < (x226003.size : Int) then (if (bt x226003 (wrap64 (x11 - 1))) = 47 then (if 0 ≤ x11 then (if x11 ≤ (x226003.size : Int) then (if (x226003.extract 0 (x11 : Int).toNat).size + x8.size ≤ 9223372036854775807 then (spec_ResolveUrl.j4 k true x236000 x236001 x236002 ((x226003.extract 0 (x11 : Int).toNat) ++ x8) x236004 x236005) else (none)) else (none)) else (none)) else (spec_ResolveUrl.l0 k x8 (wrap64 (x11 - 1)) x226000 x226001 x226002 x226003 x226004 x226005 x236000 x236001 x236002 x236003 x236004 x236005)) else (none)) else (none)
end
def spec_ResolveUrl.f (k : Nat) (a0_0 : ByteArray) (a0_1 : ByteArray) (a0_2 : Int) (a0_3 : ByteArray) (a0_4 : ByteArray) (a0_5 : Bool) (a1 : ByteArray) : Option (ByteArray × ByteArray × Int × ByteArray × ByteArray × Bool × Bool):=(spec_GoodUrl.f k a0_0 a0_1 a0_2 a0_3 a0_4 a0_5).bind fun t227 => (if t227 = true then (spec_ResolveUrl.j0 k a1 (decide ((a1.size : Int) > 200)) a0_0 a0_1 a0_2 a0_3 a0_4 a0_5) else (spec_ResolveUrl.j0 k a1 true a0_0 a0_1 a0_2 a0_3 a0_4 a0_5))
def spec_ResolveUrl.T20 : Bool × List (List Nat × List Nat):=(true,[([],[]),([0],[0]),([],[]),([2],[2]),([1,3],[1,3]),([4],[4]),([5],[5]),([5],[5]),([6,4,0,1,2,3,4,5,6],[6]),([7,8,0,1,2,3,4,5,6,7,8],[7])])
def spec_ResolveUrl.B20 : List Nat:=[0,1,0,4,15,31,63,63,127,511]
theorem spec_ResolveUrl.tab20 : rtab .any (opsOf Tryz.f71 20) = spec_ResolveUrl.T20:=by kernel_rfl
theorem spec_ResolveUrl.bits20 : waitsOk spec_ResolveUrl.T20.2 spec_ResolveUrl.B20 = true:=by kernel_rfl
set_option maxHeartbeats 8000000 in
set_option maxRecDepth 100000 in
theorem spec_ResolveUrl.calls (k : Nat) (a0_0 : ByteArray) (a0_1 : ByteArray) (a0_2 : Int) (a0_3 : ByteArray) (a0_4 : ByteArray) (a0_5 : Bool) (a1 : ByteArray) (r1 : ByteArray) (r2 : ByteArray) (r3 : Int) (r4 : ByteArray) (r5 : ByteArray) (r6 : Bool) (r7 : Bool) (w : World) (h : spec_ResolveUrl.f k a0_0 a0_1 a0_2 a0_3 a0_4 a0_5 a1 = some (r1,r2,r3,r4,r5,r6,r7)) :
  Calls Tryz.prog 71 #[.agg #[.string a0_0,.string a0_1,.int .i64 a0_2,.string a0_3,.string a0_4,.bool a0_5],.string a1] w fun e w' => e = .returned (.tuple #[.agg #[.string r1,.string r2,.int .i64 r3,.string r4,.string r5,.bool r6],.bool r7]) ∧ Below w.heap.size w w':=by
 have hu31:=Tryz.underlying31
 have HB:=Aside0.mk (Below.refl w.heap.size w)
 have H:=h
 unfold spec_ResolveUrl.f at H
 clear h
 have HC3:=Aside0.mk H
 clear H
 go_enter Tryz.func71,Tryz.ntmps71
 go_upto_region 1 with (first | ((with_reducible refine gd_ 2 ?_);(try (refine gate_guard (by rfl) ?_;dsimp only));refine xbe_ (N:=2) (cs:=#[.string a0_0,.string a0_1,.int .i64 a0_2,.string a0_3,.string a0_4,.bool a0_5]) (t:=31) ?_;intro gb225 hg w4 hbox hb;have BK225:=Aside0.mk (hbox);have GE225:=xge_ HB hg;replace HB:=xws_ HB hb;clear hb hbox hg) | ((with_reducible refine gd_ 4 ?_);(try (refine gate_guard (by rfl) ?_;dsimp only));refine xbe_ (N:=4) (cs:=#[.string (⟨#[]⟩ : ByteArray),.string (⟨#[]⟩ : ByteArray),.int .i64 0,.string (⟨#[]⟩ : ByteArray),.string (⟨#[]⟩ : ByteArray),.bool false]) (t:=31) ?_;intro gb226 hg w5 hbox hb;have BK226:=Aside0.mk (hbox);have GE226:=xge_ HB hg;replace HB:=xws_ HB hb;have NB225_226:=xlt_ BK225 hg;have NB226_225:=xgt_ BK225 hg;replace BK225:=xbb_ BK225 hb;clear hb hbox hg))
 (try simp only [Act.put,List.setIfInBounds_toArray,List.set_cons_zero,List.set_cons_succ])
 go_cut [19] (fun v19 wc => ∃ (kq : Nat) (x19_2 : Bool),v19 = .bool x19_2 ∧ Aside0 (spec_ResolveUrl.j0 kq a1 x19_2 a0_0 a0_1 a0_2 a0_3 a0_4 a0_5 = some (r1,r2,r3,r4,r5,r6,r7)) ∧ Aside0 (kq ≤ k) ∧ Aside0 (wc.heap[gb225]? = some (.cells #[.string a0_0,.string a0_1,.int .i64 a0_2,.string a0_3,.string a0_4,.bool a0_5] 31 (0,0))) ∧ Aside0 (wc.heap[gb226]? = some (.cells #[.string (⟨#[]⟩ : ByteArray),.string (⟨#[]⟩ : ByteArray),.int .i64 0,.string (⟨#[]⟩ : ByteArray),.string (⟨#[]⟩ : ByteArray),.bool false] 31 (0,0))) ∧ Aside0 (Below w.heap.size w wc))
 case first =>
  have H:=HC3.out
  clear HC3
  replace H:=mb_ H
  obtain ⟨t227,A6,H⟩:=H
  by_cases c7 : t227 = true
  ·subst c7
   rw [if_pos rfl] at H
   have H':=Aside0.mk H
   clear H
   have hnb8:=NB225_226.out
   have hnc8:=NB226_225.out
   have ⟨_,_,_,_,_,_,_,_,_,_,_,_⟩:=c6_ BK225
   go_wp2_with (first | ((with_reducible refine gc_ 34 ?_);refine xgl_ (some 13) Tryz.func34 #[.agg #[.string a0_0,.string a0_1,.int .i64 a0_2,.string a0_3,.string a0_4,.bool a0_5]] ?_;(with_reducible refine (spec_GoodUrl.calls k a0_0 a0_1 a0_2 a0_3 a0_4 a0_5 true _ A6.out).mono ?_);rintro e w10 ⟨rfl,hb⟩;refine ⟨_,rfl,?_⟩;replace BK225:=xbb_ BK225 hb;replace BK226:=xbb_ BK226 hb;replace HB:=xws_ HB hb;(try clear hb)))
   go_meet
   case rel => exact ⟨_,(decide ((a1.size : Int) > 200)),me_,H',⟨by first | omega | exact Nat.le_refl _⟩,⟨xb_ BK225⟩,⟨xb_ BK226⟩,⟨xw_ HB⟩⟩
  ·replace c7:=Bool.eq_false_iff.mpr c7
   subst c7
   rw [if_neg (show ¬ (false = true) by decide)] at H
   have H':=Aside0.mk H
   clear H
   have hnb11:=NB225_226.out
   have hnc11:=NB226_225.out
   have ⟨_,_,_,_,_,_,_,_,_,_,_,_⟩:=c6_ BK225
   go_wp2_with (first | ((with_reducible refine gc_ 34 ?_);refine xgl_ (some 13) Tryz.func34 #[.agg #[.string a0_0,.string a0_1,.int .i64 a0_2,.string a0_3,.string a0_4,.bool a0_5]] ?_;(with_reducible refine (spec_GoodUrl.calls k a0_0 a0_1 a0_2 a0_3 a0_4 a0_5 false _ A6.out).mono ?_);rintro e w13 ⟨rfl,hb⟩;refine ⟨_,rfl,?_⟩;replace BK225:=xbb_ BK225 hb;replace BK226:=xbb_ BK226 hb;replace HB:=xws_ HB hb;(try clear hb)))
   go_meet
   case rel => exact ⟨_,(true),me_,H',⟨by first | omega | exact Nat.le_refl _⟩,⟨xb_ BK225⟩,⟨xb_ BK226⟩,⟨xw_ HB⟩⟩
 case rest =>
  clear HC3
  obtain ⟨kq,x19_2,rfl,HA,HJ2,BK225,BK226,HB⟩:=hcut
  cases kq with
  | zero => exact absurd HA.out (by simp [spec_ResolveUrl.j0])
  | succ kj2 =>
   have H:=HA.out
   clear HA
   simp only [spec_ResolveUrl.j0] at H
   by_cases c14 : x19_2 = true
   ·subst c14
    rw [if_pos rfl] at H
    simp only [Option.some.injEq,Prod.mk.injEq] at H
    obtain ⟨rfl,rfl,rfl,rfl,rfl,rfl,rfl⟩:=H
    have hnb15:=NB226_225.out
    have hnc15:=NB225_226.out
    have ⟨_,_,_,_,_,_,_,_,_,_,_,_⟩:=c6_ BK226
    go_wp2
    refine bodyPost_ret (results_ct rfl _ _ gb226 31 #[.string (⟨#[]⟩ : ByteArray),.string (⟨#[]⟩ : ByteArray),.int .i64 0,.string (⟨#[]⟩ : ByteArray),.string (⟨#[]⟩ : ByteArray),.bool false] (0,0) _ rfl (mx_ BK226) Tryz.underlying31 rfl (by kernel_rfl)) rfl ?_
    exact ⟨mf_,xw_ HB⟩
   ·replace c14:=Bool.eq_false_iff.mpr c14
    subst c14
    rw [if_neg (show ¬ (false = true) by decide)] at H
    by_cases c17 : a1.toList = ([] : List UInt8)
    ·rw [if_pos c17] at H
     have c17b0 : (a1.toList == ([] : List UInt8)) = true:=beq_iff_eq.mpr c17
     have c17b1 : (a1.toList != ([] : List UInt8)) = false:=bne_eq_false_iff_eq.mpr c17
     clear c17
     simp only [Option.some.injEq,Prod.mk.injEq] at H
     obtain ⟨rfl,rfl,rfl,rfl,rfl,rfl,rfl⟩:=H
     have hnb18:=NB225_226.out
     have hnc18:=NB226_225.out
     have ⟨_,_,_,_,_,_,_,_,_,_,_,_⟩:=c6_ BK225
     have ⟨_,_,_,_,_,_,_,_,_,_,_,_⟩:=c6_ BK226
     go_wp2
     refine bodyPost_ret (results_ct rfl _ _ gb226 31 #[.string a0_0,.string a0_1,.int .i64 a0_2,.string a0_3,.string a0_4,.bool a0_5] (0,0) _ rfl (mx_ BK226) Tryz.underlying31 rfl (by kernel_rfl)) rfl ?_
     exact ⟨mf_,xw_ HB⟩
    ·rw [if_neg c17] at H
     have c17b0 : (a1.toList == ([] : List UInt8)) = false:=beq_eq_false_iff_ne.mpr c17
     have c17b1 : (a1.toList != ([] : List UInt8)) = true:=bne_iff_ne.mpr c17
     replace H:=mb_ H
     obtain ⟨⟨t228,t229,t230,t231,t232,t233,t234⟩,A21,H⟩:=H
     dsimp only at H
     have HC22:=Aside0.mk H
     clear H
     go_upto_block 0 with (first | ((with_reducible refine gc_ 114 ?_);refine xgl_ (some 26) Tryz.func114 #[.string a1] ?_;(with_reducible refine (spec_l1Read.calls kj2 a1 t228 t229 t230 t231 t232 t233 t234 _ A21.out).mono ?_);rintro e w23 ⟨rfl,hb⟩;refine ⟨_,rfl,?_⟩;replace BK225:=xbb_ BK225 hb;replace BK226:=xbb_ BK226 hb;replace HB:=xws_ HB hb;(try clear hb)) | ((with_reducible refine gd_ 6 ?_);(try (refine gate_guard (by rfl) ?_;dsimp only));refine xbe_ (N:=6) (cs:=#[.string (⟨#[]⟩ : ByteArray),.string (⟨#[]⟩ : ByteArray),.int .i64 0,.string (⟨#[]⟩ : ByteArray),.string (⟨#[]⟩ : ByteArray),.bool false]) (t:=31) ?_;intro gb235 hg w24 hbox hb;have BK235:=Aside0.mk (hbox);have GE235:=xge_ HB hg;replace HB:=xws_ HB hb;have NB225_235:=xlt_ BK225 hg;have NB235_225:=xgt_ BK225 hg;replace BK225:=xbb_ BK225 hb;have NB226_235:=xlt_ BK226 hg;have NB235_226:=xgt_ BK226 hg;replace BK226:=xbb_ BK226 hb;clear hb hbox hg;have hnb25:=NB235_225.out;have hnc25:=NB225_235.out;have hnb26:=NB235_226.out;have hnc26:=NB226_235.out;have ⟨_,_,_,_,_,_,_,_,_,_,_,_⟩:=c6_ BK235))
     (try simp only [Act.put,List.setIfInBounds_toArray,List.set_cons_zero,List.set_cons_succ])
     go_cut [7] (fun v7 wc => ∃ (kq : Nat) (x7_21 : Bool) (x236000_21 : ByteArray) (x236001_21 : ByteArray) (x236002_21 : Int) (x236003_21 : ByteArray) (x236004_21 : ByteArray) (x236005_21 : Bool),v7 = .bool x7_21 ∧ Aside0 (spec_ResolveUrl.j4 kq x7_21 x236000_21 x236001_21 x236002_21 x236003_21 x236004_21 x236005_21 = some (r1,r2,r3,r4,r5,r6,r7)) ∧ Aside0 (kq ≤ kj2) ∧ Aside0 (wc.heap[gb225]? = some (.cells #[.string a0_0,.string a0_1,.int .i64 a0_2,.string a0_3,.string a0_4,.bool a0_5] 31 (0,0))) ∧ Aside0 (wc.heap[gb226]? = some (.cells #[.string (⟨#[]⟩ : ByteArray),.string (⟨#[]⟩ : ByteArray),.int .i64 0,.string (⟨#[]⟩ : ByteArray),.string (⟨#[]⟩ : ByteArray),.bool false] 31 (0,0))) ∧ Aside0 (wc.heap[gb235]? = some (.cells #[.string x236000_21,.string x236001_21,.int .i64 x236002_21,.string x236003_21,.string x236004_21,.bool x236005_21] 31 (0,0))) ∧ Aside0 (Below w.heap.size w wc))
     case first =>
      have H:=HC22.out
      clear HC22
      by_cases c28 : t234 = true
      ·subst c28
       rw [if_pos rfl] at H
       have H':=Aside0.mk H
       clear H
       go_wp2
       go_meet
       case rel => exact ⟨_,(true),(t228),(t229),(t230),(t231),(t232),(t233),me_,H',⟨by have:=HJ2.out;first | omega | exact Nat.le_refl _⟩,⟨mx_ BK225⟩,⟨mx_ BK226⟩,⟨mx_ BK235⟩,⟨xw_ HB⟩⟩
      ·replace c28:=Bool.eq_false_iff.mpr c28
       subst c28
       rw [if_neg (show ¬ (false = true) by decide)] at H
       have HC29:=Aside0.mk H
       clear H
       go_upto_region 19 with (fail)
       go_cut [71] (fun v71 wc => ∃ (kq : Nat) (x71_28 : Bool),v71 = .bool x71_28 ∧ Aside0 (spec_ResolveUrl.j1 kq a1 x71_28 a0_0 a0_1 a0_2 a0_3 a0_4 a0_5 = some (r1,r2,r3,r4,r5,r6,r7)) ∧ Aside0 (kq ≤ kj2) ∧ Aside0 (wc.heap[gb225]? = some (.cells #[.string a0_0,.string a0_1,.int .i64 a0_2,.string a0_3,.string a0_4,.bool a0_5] 31 (0,0))) ∧ Aside0 (wc.heap[gb226]? = some (.cells #[.string (⟨#[]⟩ : ByteArray),.string (⟨#[]⟩ : ByteArray),.int .i64 0,.string (⟨#[]⟩ : ByteArray),.string (⟨#[]⟩ : ByteArray),.bool false] 31 (0,0))) ∧ Aside0 (wc.heap[gb235]? = some (.cells #[.string t228,.string t229,.int .i64 t230,.string t231,.string t232,.bool t233] 31 (0,0))) ∧ Aside0 (Below w.heap.size w wc))
       case first =>
        have H:=HC29.out
        clear HC29
        by_cases c30 : (a1.size : Int) > 1
        ·rw [if_pos c30] at H
         have c30b0 : decide (1 < (a1.size : Int)) = true:=decide_eq_true c30
         have c30b1 : decide (1 < a1.size) = true:=decide_eq_true (by omega)
         clear c30
         (first | rw [c30b0] | (simp only [i64_w,i32_w];rw [c30b0]) | skip)
         replace H:=mi_ H
         obtain ⟨c31,H⟩:=H
         have c31b0:=eq_true c31
         have c31b1:=decide_eq_true c31
         clear c31
         replace H:=mi_ H
         obtain ⟨c32,H⟩:=H
         have c32b0:=eq_true c32
         have c32b1:=decide_eq_true c32
         clear c32
         have H':=Aside0.mk H
         clear H
         go_wp2
         go_meet
         case rel => exact ⟨_,(((a1.extract 0 2).toList == ([47,47] : List UInt8))),me_,H',⟨by have:=HJ2.out;first | omega | exact Nat.le_refl _⟩,⟨mx_ BK225⟩,⟨mx_ BK226⟩,⟨mx_ BK235⟩,⟨xw_ HB⟩⟩
        ·rw [if_neg c30] at H
         have c30b0 : decide (1 < (a1.size : Int)) = false:=decide_eq_false c30
         have c30b1 : decide (1 < a1.size) = false:=decide_eq_false (by omega)
         clear c30
         (first | rw [c30b0] | (simp only [i64_w,i32_w];rw [c30b0]) | skip)
         have H':=Aside0.mk H
         clear H
         go_wp2
         go_meet
         case rel => exact ⟨_,(false),me_,H',⟨by have:=HJ2.out;first | omega | exact Nat.le_refl _⟩,⟨mx_ BK225⟩,⟨mx_ BK226⟩,⟨mx_ BK235⟩,⟨xw_ HB⟩⟩
       case rest =>
        clear HC29
        try clear c14
        try clear c17
        try clear c17b0
        try clear c17b1
        try clear c28
        obtain ⟨kq,x71_28,rfl,HA,HJ28,BK225,BK226,BK235,HB⟩:=hcut
        cases kq with
        | zero => exact absurd HA.out (by simp [spec_ResolveUrl.j1])
        | succ kj28 =>
         have H:=HA.out
         clear HA
         simp only [spec_ResolveUrl.j1] at H
         by_cases c33 : x71_28 = true
         ·subst c33
          rw [if_pos rfl] at H
          replace H:=mi_ H
          obtain ⟨c34,H⟩:=H
          have c34b0:=eq_true c34
          have c34b1:=decide_eq_true c34
          clear c34
          replace H:=mb_ H
          obtain ⟨⟨t236,t237,t238,t239,t240,t241,t242⟩,A35,H⟩:=H
          dsimp only at H
          have H':=Aside0.mk H
          clear H
          try go_wp2
          replace BK225:=Aside0.mk (blk_drew BK225.out)
          replace BK226:=Aside0.mk (blk_drew BK226.out)
          replace BK235:=Aside0.mk (blk_drew BK235.out)
          replace HB:=Aside0.mk (below_drew1 HB.out)
          refine ms_ 10 (fun w' => w'.cell? ⟨gb225,0,none⟩ = some (.string a0_0) ∧ w'.cell? ⟨gb225,1,none⟩ = some (.string a0_1) ∧ w'.cell? ⟨gb225,2,none⟩ = some (.int .i64 a0_2) ∧ w'.cell? ⟨gb225,3,none⟩ = some (.string a0_3) ∧ w'.cell? ⟨gb225,4,none⟩ = some (.string a0_4) ∧ w'.cell? ⟨gb225,5,none⟩ = some (.bool a0_5)) spec_ResolveUrl.tab20 spec_ResolveUrl.bits20 ⟨xk_ BK225 0,xk_ BK225 1,xk_ BK225 2,xk_ BK225 3,xk_ BK225 4,xk_ BK225 5⟩ (fun hHeld HT_ HW_ => ?_)
          generalize wc.drew = w36 at BK225 BK226 BK235 HB hHeld ⊢
          refine mp_ 0 81 ?_
          refine mp_ 2 83 ?_
          refine mp_ 3 84 ?_
          refine mt_ 1 82 hHeld ?_
          refine m1_ 4 85 Tryz.func115 #[.string a0_0,.string (a1.extract 2 a1.size)] ?_
          with_reducible refine (spec_l1Authority.calls kj28 a0_0 (a1.extract 2 a1.size) t236 t237 t238 t239 t240 t241 t242 _ A35.out).mono ?_
          rintro e w37 ⟨rfl,hb⟩
          refine ⟨_,rfl,?_⟩
          replace BK225:=xbb_ BK225 hb
          replace BK226:=xbb_ BK226 hb
          replace BK235:=xbb_ BK235 hb
          replace HB:=xws_ HB hb
          (try clear hb)
          refine ⟨⟨xk_ BK225 0,xk_ BK225 1,xk_ BK225 2,xk_ BK225 3,xk_ BK225 4,xk_ BK225 5⟩,fun hHeld => ?_⟩
          refine mn_ 85 ?_
          refine mp_ 5 80 ?_
          refine mp_ 6 86 ?_
          refine mp_ 7 87 ?_
          refine one_ (i:=8) (N:=none) #[true,true,true,true,true,true,true,true,true,false] rfl rfl (one_of HT_.out (by kernel_rfl)) (by decide) (fun K hK => ?_)
          have hs38 : w37.cell? ⟨gb235,0,none⟩ = some (.string t228):=xk_ BK235 0
          have hfs38:=blk_frozen BK235.out 0
          have hns38_0:=NB225_235.out
          have hns38_1:=NB226_235.out
          have hms38_0:=NB235_225.out
          have hms38_1:=NB235_226.out
          have hs39 : w37.cell? ⟨gb235,1,none⟩ = some (.string t229):=xk_ BK235 1
          have hfs39:=blk_frozen BK235.out 1
          have hns39_0:=NB225_235.out
          have hns39_1:=NB226_235.out
          have hms39_0:=NB235_225.out
          have hms39_1:=NB235_226.out
          have hs40 : w37.cell? ⟨gb235,2,none⟩ = some (.int .i64 t230):=xk_ BK235 2
          have hfs40:=blk_frozen BK235.out 2
          have hns40_0:=NB225_235.out
          have hns40_1:=NB226_235.out
          have hms40_0:=NB235_225.out
          have hms40_1:=NB235_226.out
          have hs41 : w37.cell? ⟨gb235,3,none⟩ = some (.string t231):=xk_ BK235 3
          have hfs41:=blk_frozen BK235.out 3
          have hns41_0:=NB225_235.out
          have hns41_1:=NB226_235.out
          have hms41_0:=NB235_225.out
          have hms41_1:=NB235_226.out
          have hs42 : w37.cell? ⟨gb235,4,none⟩ = some (.string t232):=xk_ BK235 4
          have hfs42:=blk_frozen BK235.out 4
          have hns42_0:=NB225_235.out
          have hns42_1:=NB226_235.out
          have hms42_0:=NB235_225.out
          have hms42_1:=NB235_226.out
          have hs43 : w37.cell? ⟨gb235,5,none⟩ = some (.bool t233):=xk_ BK235 5
          have hfs43:=blk_frozen BK235.out 5
          have hns43_0:=NB225_235.out
          have hns43_1:=NB226_235.out
          have hms43_0:=NB235_225.out
          have hms43_1:=NB235_226.out
          refine skip_ (w1:=?_) (by rfl) rfl ?_ ?_
          rotate_left
          ·go_simp
           rfl
          refine hK.out _ _ ⟨((cell_far (p:=⟨gb235,_,none⟩) NB225_235.out _).trans (((cell_far (p:=⟨gb235,_,none⟩) NB225_235.out _).trans (((cell_far (p:=⟨gb235,_,none⟩) NB225_235.out _).trans (((cell_far (p:=⟨gb235,_,none⟩) NB225_235.out _).trans (((cell_far (p:=⟨gb235,_,none⟩) NB225_235.out _).trans (((cell_far (p:=⟨gb235,_,none⟩) NB225_235.out _).trans (hHeld.1)))))))))))),((cell_far (p:=⟨gb235,_,none⟩) NB225_235.out _).trans (((cell_far (p:=⟨gb235,_,none⟩) NB225_235.out _).trans (((cell_far (p:=⟨gb235,_,none⟩) NB225_235.out _).trans (((cell_far (p:=⟨gb235,_,none⟩) NB225_235.out _).trans (((cell_far (p:=⟨gb235,_,none⟩) NB225_235.out _).trans (((cell_far (p:=⟨gb235,_,none⟩) NB225_235.out _).trans (hHeld.2.1)))))))))))),((cell_far (p:=⟨gb235,_,none⟩) NB225_235.out _).trans (((cell_far (p:=⟨gb235,_,none⟩) NB225_235.out _).trans (((cell_far (p:=⟨gb235,_,none⟩) NB225_235.out _).trans (((cell_far (p:=⟨gb235,_,none⟩) NB225_235.out _).trans (((cell_far (p:=⟨gb235,_,none⟩) NB225_235.out _).trans (((cell_far (p:=⟨gb235,_,none⟩) NB225_235.out _).trans (hHeld.2.2.1)))))))))))),((cell_far (p:=⟨gb235,_,none⟩) NB225_235.out _).trans (((cell_far (p:=⟨gb235,_,none⟩) NB225_235.out _).trans (((cell_far (p:=⟨gb235,_,none⟩) NB225_235.out _).trans (((cell_far (p:=⟨gb235,_,none⟩) NB225_235.out _).trans (((cell_far (p:=⟨gb235,_,none⟩) NB225_235.out _).trans (((cell_far (p:=⟨gb235,_,none⟩) NB225_235.out _).trans (hHeld.2.2.2.1)))))))))))),((cell_far (p:=⟨gb235,_,none⟩) NB225_235.out _).trans (((cell_far (p:=⟨gb235,_,none⟩) NB225_235.out _).trans (((cell_far (p:=⟨gb235,_,none⟩) NB225_235.out _).trans (((cell_far (p:=⟨gb235,_,none⟩) NB225_235.out _).trans (((cell_far (p:=⟨gb235,_,none⟩) NB225_235.out _).trans (((cell_far (p:=⟨gb235,_,none⟩) NB225_235.out _).trans (hHeld.2.2.2.2.1)))))))))))),((cell_far (p:=⟨gb235,_,none⟩) NB225_235.out _).trans (((cell_far (p:=⟨gb235,_,none⟩) NB225_235.out _).trans (((cell_far (p:=⟨gb235,_,none⟩) NB225_235.out _).trans (((cell_far (p:=⟨gb235,_,none⟩) NB225_235.out _).trans (((cell_far (p:=⟨gb235,_,none⟩) NB225_235.out _).trans (((cell_far (p:=⟨gb235,_,none⟩) NB225_235.out _).trans (hHeld.2.2.2.2.2))))))))))))⟩ (fun hHeld => ?_)
          clear hK K
          refine mp_ 9 7 ?_
          refine done_ (done_of HT_.out (by kernel_rfl)) ?_
          try go_wp2
          go_meet
          case rel => exact ⟨_,(t242),(t236),(t237),(t238),(t239),(t240),(t241),me_,H',⟨by have:=HJ2.out;have:=HJ28.out;first | omega | exact Nat.le_refl _⟩,⟨mx_ BK225⟩,⟨mx_ BK226⟩,⟨mx_ BK235⟩,⟨xw_ HB⟩⟩
         ·replace c33:=Bool.eq_false_iff.mpr c33
          subst c33
          rw [if_neg (show ¬ (false = true) by decide)] at H
          replace H:=mb_ H
          obtain ⟨⟨t243,t244,t245⟩,A44,H⟩:=H
          dsimp only at H
          have HC45:=Aside0.mk H
          clear H
          have hnb46:=NB225_226.out
          have hnc46:=NB226_225.out
          have hnb47:=NB225_235.out
          have hnc47:=NB235_225.out
          have ⟨_,_,_,_,_,_,_,_,_,_,_,_⟩:=c6_ BK225
          have hnb49:=NB235_226.out
          have hnc49:=NB226_235.out
          have ⟨_,_,_,_,_,_,_,_,_,_,_,_⟩:=c6_ BK235
          go_upto_region 10 with (first | ((with_reducible refine gc_ 116 ?_);refine xgl_ (some 32) Tryz.func116 #[.string a1,.int .u8 63] ?_;(with_reducible refine (spec_l1Cut.calls kj28 a1 63 t243 t244 t245 _ A44.out).mono ?_);rintro e w' ⟨rfl,⟨nd,rfl⟩⟩;refine ⟨_,rfl,?_⟩))
          (try simp only [Act.put,List.setIfInBounds_toArray,List.set_cons_zero,List.set_cons_succ])
          go_cut [46] (fun v46 wc => ∃ (kq : Nat) (x46_44 : Bool),v46 = .bool x46_44 ∧ Aside0 (spec_ResolveUrl.j2 kq t243 x46_44 a0_0 a0_1 a0_2 a0_3 a0_4 a0_5 a0_0 a0_1 a0_2 a0_3 t244 t245 = some (r1,r2,r3,r4,r5,r6,r7)) ∧ Aside0 (kq ≤ kj28) ∧ Aside0 (wc.heap[gb225]? = some (.cells #[.string a0_0,.string a0_1,.int .i64 a0_2,.string a0_3,.string a0_4,.bool a0_5] 31 (0,0))) ∧ Aside0 (wc.heap[gb226]? = some (.cells #[.string (⟨#[]⟩ : ByteArray),.string (⟨#[]⟩ : ByteArray),.int .i64 0,.string (⟨#[]⟩ : ByteArray),.string (⟨#[]⟩ : ByteArray),.bool false] 31 (0,0))) ∧ Aside0 (wc.heap[gb235]? = some (.cells #[.string a0_0,.string a0_1,.int .i64 a0_2,.string a0_3,.string t244,.bool t245] 31 (0,0))) ∧ Aside0 (Below w.heap.size w wc))
          case first =>
           have H:=HC45.out
           clear HC45
           by_cases c51 : t243.toList = ([] : List UInt8)
           ·rw [if_pos c51] at H
            have c51b0 : (t243.toList == ([] : List UInt8)) = true:=beq_iff_eq.mpr c51
            have c51b1 : (t243.toList != ([] : List UInt8)) = false:=bne_eq_false_iff_eq.mpr c51
            clear c51
            (first | rw [c51b0] | (simp only [i64_w,i32_w];rw [c51b0]) | skip)
            have H':=Aside0.mk H
            clear H
            go_wp2
            go_meet
            case rel => exact ⟨_,(false),me_,H',⟨by have:=HJ2.out;have:=HJ28.out;first | omega | exact Nat.le_refl _⟩,⟨mx_ BK225⟩,⟨mx_ BK226⟩,⟨mx_ BK235⟩,⟨xw_ HB⟩⟩
           ·rw [if_neg c51] at H
            have c51b0 : (t243.toList == ([] : List UInt8)) = false:=beq_eq_false_iff_ne.mpr c51
            have c51b1 : (t243.toList != ([] : List UInt8)) = true:=bne_iff_ne.mpr c51
            (first | rw [c51b0] | (simp only [i64_w,i32_w];rw [c51b0]) | skip)
            replace H:=mi_ H
            obtain ⟨c52,H⟩:=H
            have c52b0:=decide_eq_true c52
            have c52b1 : decide (0 < t243.size) = true:=decide_eq_true (by omega)
            clear c52
            have H':=Aside0.mk H
            clear H
            have p53 : 0 ≤ (0 : Int):=(by omega)
            have q53 : 0 < t243.size:=(by have : (0 : Int) < (t243.size : Int):=md_;omega)
            have hx53 : ∀ h : 0 < t243.size,((t243[0]'h).toNat : Int) = bt t243 0:=bt_at t243 0
            clear p53
            have qi53 : (0 < (t243.size : Int)) = True:=eq_true (md_)
            replace q53:=eq_true q53
            go_wp2
            go_meet
            case rel => exact ⟨_,(((bt t243 0) == 47)),me_,H',⟨by have:=HJ2.out;have:=HJ28.out;first | omega | exact Nat.le_refl _⟩,⟨mx_ BK225⟩,⟨mx_ BK226⟩,⟨mx_ BK235⟩,⟨xw_ HB⟩⟩
          case rest =>
           clear HC45
           try clear c14
           try clear c17
           try clear c17b0
           try clear c17b1
           try clear c28
           try clear c33
           try clear c34
           try clear c34b0
           try clear c34b1
           obtain ⟨kq,x46_44,rfl,HA,HJ44,BK225,BK226,BK235,HB⟩:=hcut
           cases kq with
           | zero => exact absurd HA.out (by simp [spec_ResolveUrl.j2])
           | succ kj44 =>
            have H:=HA.out
            clear HA
            simp only [spec_ResolveUrl.j2] at H
            by_cases c54 : x46_44 = true
            ·subst c54
             rw [if_pos rfl] at H
             have H':=Aside0.mk H
             clear H
             have hnb55:=NB235_225.out
             have hnc55:=NB225_235.out
             have hnb56:=NB235_226.out
             have hnc56:=NB226_235.out
             have ⟨_,_,_,_,_,_,_,_,_,_,_,_⟩:=c6_ BK235
             go_wp2
             go_meet
             case rel => exact ⟨_,(true),(a0_0),(a0_1),(a0_2),(t243),(t244),(t245),me_,H',⟨by have:=HJ2.out;have:=HJ28.out;have:=HJ44.out;first | omega | exact Nat.le_refl _⟩,⟨mx_ BK225⟩,⟨mx_ BK226⟩,⟨mx_ BK235⟩,⟨xw_ HB⟩⟩
            ·replace c54:=Bool.eq_false_iff.mpr c54
             subst c54
             rw [if_neg (show ¬ (false = true) by decide)] at H
             by_cases c58 : t243.toList = ([] : List UInt8)
             ·rw [if_pos c58] at H
              have c58b0 : (t243.toList == ([] : List UInt8)) = true:=beq_iff_eq.mpr c58
              have c58b1 : (t243.toList != ([] : List UInt8)) = false:=bne_eq_false_iff_eq.mpr c58
              clear c58
              have H':=Aside0.mk H
              clear H
              go_wp2
              go_meet
              case rel => exact ⟨_,(true),(a0_0),(a0_1),(a0_2),(a0_3),(t244),(t245),me_,H',⟨by have:=HJ2.out;have:=HJ28.out;have:=HJ44.out;first | omega | exact Nat.le_refl _⟩,⟨xb_ BK225⟩,⟨xb_ BK226⟩,⟨xb_ BK235⟩,⟨xw_ HB⟩⟩
             ·rw [if_neg c58] at H
              have c58b0 : (t243.toList == ([] : List UInt8)) = false:=beq_eq_false_iff_ne.mpr c58
              have c58b1 : (t243.toList != ([] : List UInt8)) = true:=bne_iff_ne.mpr c58
              have H':=Aside0.mk H
              clear H
              have hnb59:=NB225_226.out
              have hnc59:=NB226_225.out
              have hnb60:=NB225_235.out
              have hnc60:=NB235_225.out
              have ⟨_,_,_,_,_,_,_,_,_,_,_,_⟩:=c6_ BK225
              go_wp2
              go_loopg [11] kj44 (fun kq v11 w' => ∃ (x11_4 : Int),v11 = .int .i64 x11_4 ∧ Aside0 (spec_ResolveUrl.l0 kq t243 x11_4 a0_0 a0_1 a0_2 a0_3 a0_4 a0_5 a0_0 a0_1 a0_2 a0_3 t244 t245 = some (r1,r2,r3,r4,r5,r6,r7)) ∧ Aside0 (kq ≤ kj44) ∧ Aside0 (w'.heap[gb225]? = some (.cells #[.string a0_0,.string a0_1,.int .i64 a0_2,.string a0_3,.string a0_4,.bool a0_5] 31 (0,0))) ∧ Aside0 (w'.heap[gb226]? = some (.cells #[.string (⟨#[]⟩ : ByteArray),.string (⟨#[]⟩ : ByteArray),.int .i64 0,.string (⟨#[]⟩ : ByteArray),.string (⟨#[]⟩ : ByteArray),.bool false] 31 (0,0))) ∧ Aside0 (w'.heap[gb235]? = some (.cells #[.string a0_0,.string a0_1,.int .i64 a0_2,.string a0_3,.string t244,.bool t245] 31 (0,0))) ∧ Aside0 (Below w.heap.size w w'))
              case atStart => exact ⟨((a0_3.size : Int)),me_,H',⟨Nat.le_refl _⟩,⟨xb_ BK225⟩,⟨xb_ BK226⟩,⟨xb_ BK235⟩,⟨xw_ HB⟩⟩
              case round =>
               clear H'
               try clear c14
               try clear c17
               try clear c17b0
               try clear c17b1
               try clear c28
               try clear c33
               try clear c34
               try clear c34b0
               try clear c34b1
               try clear c54
               try clear c58
               try clear c58b0
               try clear c58b1
               obtain ⟨x11_4,rfl,HA,HK4,BK225,BK226,BK235,HB⟩:=hrel
               cases gk with
               | zero => exact absurd HA.out (by simp [spec_ResolveUrl.l0])
               | succ k4 =>
                have H:=HA.out
                clear HA
                simp only [spec_ResolveUrl.l0] at H
                obtain ⟨ji62,hji62⟩ : ∃ j_ : Int,(wrap64 (x11_4 - 1)) = j_:=⟨_,rfl⟩
                replace H : (if 0 ≤ (ji62) then (if (ji62) < (a0_3.size : Int) then (if (bt a0_3 (ji62)) = 47 then (if 0 ≤ x11_4 then (if x11_4 ≤ (a0_3.size : Int) then (if (a0_3.extract 0 (x11_4 : Int).toNat).size + t243.size ≤ 9223372036854775807 then (spec_ResolveUrl.j4 k4 true a0_0 a0_1 a0_2 ((a0_3.extract 0 (x11_4 : Int).toNat) ++ t243) t244 t245) else (none)) else (none)) else (none)) else (spec_ResolveUrl.l0 k4 t243 ji62 a0_0 a0_1 a0_2 a0_3 a0_4 a0_5 a0_0 a0_1 a0_2 a0_3 t244 t245)) else (none)) else (none)) = some (r1,r2,r3,r4,r5,r6,r7):=by first | (rw [hji62] at H;exact H) | (simp only [hji62] at H ⊢;exact H)
                have hji62w : (IntKind.i64.wrap (x11_4 - 1)) = ji62:=(i64_w _).trans hji62
                replace H:=mi_ H
                obtain ⟨c63,H⟩:=H
                have c63b0:=decide_eq_true c63
                clear c63
                replace H:=mi_ H
                obtain ⟨c64,H⟩:=H
                have c64b0:=decide_eq_true c64
                clear c64
                by_cases c66 : (bt a0_3 (ji62)) = 47
                ·rw [if_pos c66] at H
                 have c66b0 : ((bt a0_3 (ji62)) == 47) = true:=beq_iff_eq.mpr c66
                 have c66b1 : ((bt a0_3 (ji62)) != 47) = false:=bne_eq_false_iff_eq.mpr c66
                 clear c66
                 replace H:=mi_ H
                 obtain ⟨c67,H⟩:=H
                 have c67b0:=eq_true c67
                 have c67b1:=decide_eq_true c67
                 clear c67
                 replace H:=mi_ H
                 obtain ⟨c68,H⟩:=H
                 have c68b0:=eq_true c68
                 have c68b1:=decide_eq_true c68
                 clear c68
                 replace H:=mi_ H
                 obtain ⟨c69,H⟩:=H
                 have c69b0:=eq_true c69
                 have c69b1:=decide_eq_true c69
                 try have c69b2 : (9223372036854775807 < (a0_3.extract 0 (x11_4 : Int).toNat).size + t243.size) = False:=eq_false (Nat.not_lt.2 c69)
                 have H':=Aside0.mk H
                 clear H
                 have hnb70:=NB225_226.out
                 have hnc70:=NB226_225.out
                 have hnb71:=NB225_235.out
                 have hnc71:=NB235_225.out
                 have ⟨_,_,_,_,_,_,_,_,_,_,_,_⟩:=c6_ BK225
                 have p65 : 0 ≤ ((ji62) : Int):=md_
                 have q65 : (ji62) < (a0_3.size : Int):=md_
                 have hx65:=bt_at a0_3 (ji62)
                 replace p65:=eq_true p65
                 replace q65:=eq_true q65
                 have hnb73:=NB235_226.out
                 have hnc73:=NB226_235.out
                 have ⟨_,_,_,_,_,_,_,_,_,_,_,_⟩:=c6_ BK235
                 go_wp2
                 go_meet
                 case rel => exact ⟨_,(true),(a0_0),(a0_1),(a0_2),((a0_3.extract 0 (x11_4 : Int).toNat) ++ t243),(t244),(t245),me_,H',⟨by have:=HJ2.out;have:=HJ28.out;have:=HJ44.out;have:=HK4.out;first | omega | exact Nat.le_refl _⟩,⟨mx_ BK225⟩,⟨mx_ BK226⟩,⟨mx_ BK235⟩,⟨xw_ HB⟩⟩
                ·rw [if_neg c66] at H
                 have c66b0 : ((bt a0_3 (ji62)) == 47) = false:=beq_eq_false_iff_ne.mpr c66
                 have c66b1 : ((bt a0_3 (ji62)) != 47) = true:=bne_iff_ne.mpr c66
                 have H':=Aside0.mk H
                 clear H
                 have hnb75:=NB225_226.out
                 have hnc75:=NB226_225.out
                 have hnb76:=NB225_235.out
                 have hnc76:=NB235_225.out
                 have ⟨_,_,_,_,_,_,_,_,_,_,_,_⟩:=c6_ BK225
                 have p65 : 0 ≤ ((ji62) : Int):=md_
                 have q65 : (ji62) < (a0_3.size : Int):=md_
                 have hx65:=bt_at a0_3 (ji62)
                 replace p65:=eq_true p65
                 replace q65:=eq_true q65
                 go_wp2
                 go_roundg k4
                 case measure => have:=HJ2.out;have:=HJ28.out;have:=HJ44.out;have:=HK4.out;omega
                 case rel => exact ⟨(ji62),(by first | rfl | (simp;done) | (simp only [← hji62] <;> (first | rfl | simp)) | (simp [*];done)),H',⟨by have:=HJ2.out;have:=HJ28.out;have:=HJ44.out;have:=HK4.out;omega⟩,⟨xb_ BK225⟩,⟨xb_ BK226⟩,⟨xb_ BK235⟩,⟨xw_ HB⟩⟩
     case rest =>
      clear HC22
      try clear c14
      try clear c17
      try clear c17b0
      try clear c17b1
      obtain ⟨kq,x7_21,x236000_21,x236001_21,x236002_21,x236003_21,x236004_21,x236005_21,rfl,HA,HJ21,BK225,BK226,BK235,HB⟩:=hcut
      cases kq with
      | zero => exact absurd HA.out (by simp [spec_ResolveUrl.j4])
      | succ kj21 =>
       have H:=HA.out
       clear HA
       simp only [spec_ResolveUrl.j4] at H
       by_cases c78 : x7_21 = true
       ·subst c78
        rw [if_pos rfl] at H
        replace H:=mb_ H
        obtain ⟨t246,A79,H⟩:=H
        replace H:=mb_ H
        obtain ⟨t247,A80,H⟩:=H
        by_cases c81 : t247 = true
        ·subst c81
         rw [if_pos rfl] at H
         simp only [Option.some.injEq,Prod.mk.injEq] at H
         obtain ⟨rfl,rfl,rfl,rfl,rfl,rfl,rfl⟩:=H
         have hnb82:=NB235_225.out
         have hnc82:=NB225_235.out
         have hnb83:=NB235_226.out
         have hnc83:=NB226_235.out
         have ⟨_,_,_,_,_,_,_,_,_,_,_,_⟩:=c6_ BK235
         go_wp2_with (first | ((with_reducible refine gc_ 117 ?_);refine xgl_ (some 93) Tryz.func117 #[.string x236003_21] ?_;(with_reducible refine (spec_l1Dots.calls kj21 x236003_21 t246 _ A79.out).mono ?_);rintro e w85 ⟨rfl,hb⟩;refine ⟨_,rfl,?_⟩;replace BK225:=xbb_ BK225 hb;replace BK226:=xbb_ BK226 hb;replace BK235:=xbb_ BK235 hb;replace HB:=xws_ HB hb;(try clear hb);have ⟨_,_,_,_,_,_,_,_,_,_,_,_⟩:=c6_ BK235) | ((with_reducible refine gc_ 34 ?_);refine xgl_ (some 96) Tryz.func34 #[.agg #[.string x236000_21,.string x236001_21,.int .i64 x236002_21,.string t246,.string x236004_21,.bool x236005_21]] ?_;(with_reducible refine (spec_GoodUrl.calls kj21 x236000_21 x236001_21 x236002_21 t246 x236004_21 x236005_21 true _ A80.out).mono ?_);rintro e w87 ⟨rfl,hb⟩;refine ⟨_,rfl,?_⟩;replace BK225:=mxb_ (o':=.cells #[.string a0_0,.string a0_1,.int .i64 a0_2,.string a0_3,.string a0_4,.bool a0_5] 31 (0,0)) BK225 hb;replace BK226:=mxb_ (o':=.cells #[.string (⟨#[]⟩ : ByteArray),.string (⟨#[]⟩ : ByteArray),.int .i64 0,.string (⟨#[]⟩ : ByteArray),.string (⟨#[]⟩ : ByteArray),.bool false] 31 (0,0)) BK226 hb;replace BK235:=mxb_ (o':=.cells #[.string x236000_21,.string x236001_21,.int .i64 x236002_21,.string t246,.string x236004_21,.bool x236005_21] 31 (0,0)) BK235 hb;replace HB:=xws_ HB hb;(try clear hb);have ⟨_,_,_,_,_,_,_,_,_,_,_,_⟩:=c6_ BK235;have hnb89:=NB226_225.out;have hnc89:=NB225_226.out;have ⟨_,_,_,_,_,_,_,_,_,_,_,_⟩:=c6_ BK226))
         refine bodyPost_ret (results_ct rfl _ _ gb226 31 #[.string x236000_21,.string x236001_21,.int .i64 x236002_21,.string t246,.string x236004_21,.bool x236005_21] (0,0) _ rfl (mx_ BK226) Tryz.underlying31 rfl (by kernel_rfl)) rfl ?_
         exact ⟨mf_,xw_ HB⟩
        ·replace c81:=Bool.eq_false_iff.mpr c81
         subst c81
         rw [if_neg (show ¬ (false = true) by decide)] at H
         simp only [Option.some.injEq,Prod.mk.injEq] at H
         obtain ⟨rfl,rfl,rfl,rfl,rfl,rfl,rfl⟩:=H
         have hnb91:=NB235_225.out
         have hnc91:=NB225_235.out
         have hnb92:=NB235_226.out
         have hnc92:=NB226_235.out
         have ⟨_,_,_,_,_,_,_,_,_,_,_,_⟩:=c6_ BK235
         go_wp2_with (first | ((with_reducible refine gc_ 117 ?_);refine xgl_ (some 93) Tryz.func117 #[.string x236003_21] ?_;(with_reducible refine (spec_l1Dots.calls kj21 x236003_21 t246 _ A79.out).mono ?_);rintro e w94 ⟨rfl,hb⟩;refine ⟨_,rfl,?_⟩;replace BK225:=xbb_ BK225 hb;replace BK226:=xbb_ BK226 hb;replace BK235:=xbb_ BK235 hb;replace HB:=xws_ HB hb;(try clear hb);have ⟨_,_,_,_,_,_,_,_,_,_,_,_⟩:=c6_ BK235) | ((with_reducible refine gc_ 34 ?_);refine xgl_ (some 96) Tryz.func34 #[.agg #[.string x236000_21,.string x236001_21,.int .i64 x236002_21,.string t246,.string x236004_21,.bool x236005_21]] ?_;(with_reducible refine (spec_GoodUrl.calls kj21 x236000_21 x236001_21 x236002_21 t246 x236004_21 x236005_21 false _ A80.out).mono ?_);rintro e w96 ⟨rfl,hb⟩;refine ⟨_,rfl,?_⟩;replace BK225:=mxb_ (o':=.cells #[.string a0_0,.string a0_1,.int .i64 a0_2,.string a0_3,.string a0_4,.bool a0_5] 31 (0,0)) BK225 hb;replace BK226:=mxb_ (o':=.cells #[.string (⟨#[]⟩ : ByteArray),.string (⟨#[]⟩ : ByteArray),.int .i64 0,.string (⟨#[]⟩ : ByteArray),.string (⟨#[]⟩ : ByteArray),.bool false] 31 (0,0)) BK226 hb;replace BK235:=mxb_ (o':=.cells #[.string x236000_21,.string x236001_21,.int .i64 x236002_21,.string t246,.string x236004_21,.bool x236005_21] 31 (0,0)) BK235 hb;replace HB:=xws_ HB hb;(try clear hb);have hnb97:=NB226_225.out;have hnc97:=NB225_226.out;have ⟨_,_,_,_,_,_,_,_,_,_,_,_⟩:=c6_ BK226))
         refine bodyPost_ret (results_ct rfl _ _ gb226 31 #[.string (⟨#[]⟩ : ByteArray),.string (⟨#[]⟩ : ByteArray),.int .i64 0,.string (⟨#[]⟩ : ByteArray),.string (⟨#[]⟩ : ByteArray),.bool false] (0,0) _ rfl (mx_ BK226) Tryz.underlying31 rfl (by kernel_rfl)) rfl ?_
         exact ⟨mf_,xw_ HB⟩
       ·replace c78:=Bool.eq_false_iff.mpr c78
        subst c78
        rw [if_neg (show ¬ (false = true) by decide)] at H
        simp only [Option.some.injEq,Prod.mk.injEq] at H
        obtain ⟨rfl,rfl,rfl,rfl,rfl,rfl,rfl⟩:=H
        have hnb99:=NB226_225.out
        have hnc99:=NB225_226.out
        have hnb100:=NB226_235.out
        have hnc100:=NB235_226.out
        have ⟨_,_,_,_,_,_,_,_,_,_,_,_⟩:=c6_ BK226
        go_wp2
        refine bodyPost_ret (results_ct rfl _ _ gb226 31 #[.string (⟨#[]⟩ : ByteArray),.string (⟨#[]⟩ : ByteArray),.int .i64 0,.string (⟨#[]⟩ : ByteArray),.string (⟨#[]⟩ : ByteArray),.bool false] (0,0) _ rfl (mx_ BK226) Tryz.underlying31 rfl (by kernel_rfl)) rfl ?_
        exact ⟨mf_,xw_ HB⟩

end Go.Proofs.YtpggepjfhgalkaaGreatDoor.PFnExactKeyOf
