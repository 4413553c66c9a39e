-- Written by a program of this project (xprint.py) out of the translation; Lean checks it.
import Derived.Test.YtpggepjfhgalkaaGreatDoorPFnExactKeyOfx0
import Derived.Test.YtpggepjfhgalkaaGreatDoorPFnExactKeyOfx1
import Derived.Test.YtpggepjfhgalkaaGreatDoorPFnExactKeyOfx5
namespace Go.Proofs.YtpggepjfhgalkaaGreatDoor.PFnExactKeyOf
open Go.RowKit Go.Proofs.YtpggepjfhgalkaaGreatDoorW.PrintWords Go.Proofs.YtpggepjfhgalkaaGreatDoorW.PrintLast Go.Proofs.YtpggepjfhgalkaaGreatDoorW.PrintMore
attribute [local go_sem] max2_int min2_int max_two min_two max_three min_three max_four min_four   -- for this text's walks alone
set_option linter.unusedVariables false
set_option linter.unusedSimpArgs false

def lowB (b : UInt8) : UInt8:=if 65 ≤ b ∧ b ≤ 90 then b + 32 else b
/-- the converted row: its first i bytes told small -/
def LowRow (w : World) (g i : Nat) (s : ByteArray) : Prop:=∀ j,j < s.size → w.cell? ⟨g,j,none⟩ = some (.int .u8 ((if j < i then lowB (s.data.toList.getD j 0) else s.data.toList.getD j 0).toNat : Nat)) ∧ w.frozen? ⟨g,j,none⟩ = false
theorem low_start (w : World) (s : ByteArray) : LowRow (Lib.bytesWorld w 5 s) w.heap.size 0 s:=fun j hj => ⟨by rw [Lib.bytesWorld_cell w 5 s j hj,if_neg (Nat.not_lt_zero j)],by
  simp [World.frozen?,Lib.bytesWorld_at_new,Lib.bytesCells]
  intro h
  have : s.data.size = s.size:=rfl
  omega⟩
theorem low_keep {w : World} {g i : Nat} {s : ByteArray} (h : LowRow w g i s) (hb : lowB (s.data.toList.getD i 0) = s.data.toList.getD i 0) : LowRow w g (i + 1) s:=fun j hj => by
  obtain ⟨h1,h2⟩:=h j hj
  refine ⟨?_,h2⟩
  rw [h1]
  by_cases e : j = i
  · subst e;rw [if_neg (Nat.lt_irrefl j),if_pos (Nat.lt_succ_self j),hb]
  · by_cases c : j < i
    · rw [if_pos c,if_pos (by omega)]
    · rw [if_neg c,if_neg (by omega)]
theorem low_step {w : World} {g i : Nat} {s : ByteArray} (h : LowRow w g i s) (hi : i < s.size) : LowRow (w.setCell ⟨g,i,none⟩ (.int .u8 ((lowB (s.data.toList.getD i 0)).toNat : Nat))) g (i + 1) s:=fun j hj => by
  obtain ⟨h1,h2⟩:=h j hj
  refine ⟨?_,by rw [World.frozen?_setCell];exact h2⟩
  by_cases e : j = i
  · subst e
    have hs : ∀ v,(w.setCell ⟨g,j,none⟩ v).cell? ⟨g,j,none⟩ = some v:=fun v => by first | exact World.cell?_setCell_same h1 | exact World.cell?_setCell_same w h1 | exact World.cell?_setCell_same w _ h1 | exact World.cell?_setCell_same w _ _ h1
    rw [hs,if_pos (Nat.lt_succ_self j)]
  · have hne : (⟨g,i,none⟩ : Addr) ≠ ⟨g,j,none⟩:=by intro hh;injection hh with _ h3 _;exact e h3.symm
    have hs : ∀ v,(w.setCell ⟨g,i,none⟩ v).cell? ⟨g,j,none⟩ = w.cell? ⟨g,j,none⟩:=fun v => by first | exact World.cell?_setCell_other hne | exact World.cell?_setCell_other w hne | exact World.cell?_setCell_other w _ hne | exact World.cell?_setCell_other w _ _ hne | exact World.cell?_setCell_other w _ _ _ hne
    rw [hs,h1]
    by_cases c : j < i
    · rw [if_pos c,if_pos (by omega)]
    · rw [if_neg c,if_neg (by omega)]
theorem low_back (w : World) (g c : Nat) (s : ByteArray) (h : LowRow w g s.size s) : (convert 120 9 (.slice (some ⟨g,0,none⟩) s.size c)).run Tryz.prog w = .ok (.string ⟨s.data.map lowB⟩) w:=by
  have z:=run_convert_bytes_back (P:=Tryz.prog) w 120 9 5 ⟨g,0,none⟩ c (s.data.toList.map lowB) Tryz.underlying120 Tryz.underlying5 Tryz.underlying9 (fun j hj => by
    have hj2 : j < s.size:=by rw [List.length_map,Array.length_toList] at hj;exact hj
    have h1:=(h j hj2).1
    rw [if_pos hj2] at h1
    have ha : (⟨g,0,none⟩ : Addr).add j = ⟨g,j,none⟩:=by simp [Addr.add];omega
    rw [ha,h1,List.getElem_map]
    have hj3 : j < s.data.toList.length:=by rw [Array.length_toList];exact hj2
    rw [List.getD_eq_getElem?_getD,List.getElem?_eq_getElem hj3];rfl)
  have hl : (s.data.toList.map lowB).length = s.size:=by rw [List.length_map,Array.length_toList];rfl
  rw [hl] at z
  rw [z,← List.map_toArray,Array.toArray_toList]
theorem lowB_no1 (b : UInt8) (h : ¬ 65 ≤ b.toNat) : lowB b = b:=by unfold lowB;rw [if_neg (fun hh => h (by have z:=UInt8.le_iff_toNat_le.mp hh.1;have : (65 : UInt8).toNat = 65:=rfl;omega))]
theorem lowB_no2 (b : UInt8) (h : ¬ b.toNat ≤ 90) : lowB b = b:=by unfold lowB;rw [if_neg (fun hh => h (by have z:=UInt8.le_iff_toNat_le.mp hh.2;have : (90 : UInt8).toNat = 90:=rfl;omega))]
theorem lowB_yes (b : UInt8) (h1 : 65 ≤ b.toNat) (h2 : b.toNat ≤ 90) : ((lowB b).toNat : Int) = (b.toNat : Int) + 32:=by
  unfold lowB
  rw [if_pos ⟨UInt8.le_iff_toNat_le.mpr h1,UInt8.le_iff_toNat_le.mpr h2⟩,UInt8.toNat_add]
  have : (32 : UInt8).toNat = 32:=rfl
  omega
/-! ### spec_l1Lower: function 90 -/
def spec_l1Lower.f (a0 : ByteArray) : Option (ByteArray):=if a0.size < 100000000 then some ⟨a0.data.map lowB⟩ else none
set_option maxHeartbeats 4000000 in
theorem spec_l1Lower.calls (a0 : ByteArray) (r : ByteArray) (w : World) (h : spec_l1Lower.f a0 = some r) :
    Calls Tryz.prog 90 #[.string a0] w fun e w' => e = .returned (.string r) ∧ Below w.heap.size w w':=by
  unfold spec_l1Lower.f at h
  by_cases c : a0.size < 100000000
  · rw [if_pos c] at h
    obtain rfl:=Option.some.inj h
    have hcv:=Lib.run_convert_string_bytes (P:=Tryz.prog) w 9 120 5 a0 Tryz.underlying9 Tryz.underlying120 Tryz.underlying5
    have hst:=low_start w a0
    have hbe:=Lib.bytesWorld_below w 5 a0
    obtain ⟨W0,hW0⟩ : ∃ W0,W0 = Lib.bytesWorld w 5 a0:=⟨_,rfl⟩
    rw [← hW0] at hcv hst hbe
    have HS:=Aside0.mk hst
    have HB0:=Aside0.mk hbe
    have HC:=Aside0.mk c
    clear hW0 hst hbe c h
    go_enter Tryz.func90,Tryz.ntmps90
    go_wp2
    go_loopg [9] 1000000001 (fun kq v9 w' => ∃ (i : Nat),v9 = .int .i64 i ∧ Aside0 (a0.size + 1 ≤ i + kq) ∧ Aside0 (i ≤ a0.size) ∧ Aside0 (LowRow w' w.heap.size i a0) ∧ Aside0 (Below w.heap.size w w'))
    case atStart => exact ⟨0,rfl,⟨by have:=HC.out;omega⟩,⟨Nat.zero_le _⟩,HS,HB0⟩
    case round =>
      obtain ⟨i,rfl,HK,HI,HL,HB⟩:=hrel
      cases gk with
      | zero => exact absurd HK.out (by have:=HI.out;omega)
      | succ k1 =>
        by_cases c2 : i < a0.size
        · have c2b : decide ((i : Int) < (a0.size : Int)) = true:=decide_eq_true (by omega)
          have hx:=(HL.out i c2).1
          have hf:=(HL.out i c2).2
          rw [if_neg (Nat.lt_irrefl i)] at hx
          have p1 : (0 ≤ (i : Int)) = True:=eq_true (by omega)
          have q1 : ((i : Int) < (a0.size : Int)) = True:=eq_true (by omega)
          obtain ⟨B,hB⟩ : ∃ B,B = a0.data.toList.getD i 0:=⟨_,rfl⟩
          rw [← hB] at hx
          have HBB:=Aside0.mk hB
          clear hB
          have hw1 : wrap64 ((i : Int) + 1) = ((i + 1 : Nat) : Int):=by unfold wrap64;have:=HC.out;omega
          have HW1:=Aside0.mk hw1
          clear hw1
          by_cases d1 : 65 ≤ B.toNat
          · have d1b : decide ((B.toNat : Int) ≥ 65) = true:=decide_eq_true (by omega)
            have d1c : decide (65 ≤ (B.toNat : Int)) = true:=decide_eq_true (by omega)
            by_cases d2 : B.toNat ≤ 90
            · have d2b : decide ((B.toNat : Int) ≤ 90) = true:=decide_eq_true (by omega)
              have HL2:=Aside0.mk (low_step HL.out c2)
              have hlow : ((lowB (a0.data.toList.getD i 0)).toNat : Int) = (B.toNat : Int) + 32:=by rw [← HBB.out];exact lowB_yes B d1 d2
              rw [hlow] at HL2
              have HB2:=Aside0.mk (HB.out.setCell (p:=⟨w.heap.size,i,none⟩) (Nat.le_refl _) (.int .u8 ((B.toNat : Int) + 32)))
              clear hlow
              go_wp2
              go_roundg k1
              case measure => have:=HK.out;omega
              case rel => exact ⟨i + 1,by rw [HW1.out],⟨by have:=HK.out;omega⟩,⟨by omega⟩,HL2,HB2⟩
            · have d2b : decide ((B.toNat : Int) ≤ 90) = false:=decide_eq_false (by omega)
              have HL2:=Aside0.mk (low_keep HL.out (by rw [← HBB.out];exact lowB_no2 B d2))
              go_wp2
              go_roundg k1
              case measure => have:=HK.out;omega
              case rel => exact ⟨i + 1,by rw [HW1.out],⟨by have:=HK.out;omega⟩,⟨by omega⟩,HL2,HB⟩
          · have d1b : decide ((B.toNat : Int) ≥ 65) = false:=decide_eq_false (by omega)
            have d1c : decide (65 ≤ (B.toNat : Int)) = false:=decide_eq_false (by omega)
            have HL2:=Aside0.mk (low_keep HL.out (by rw [← HBB.out];exact lowB_no1 B d1))
            go_wp2
            go_roundg k1
            case measure => have:=HK.out;omega
            case rel => exact ⟨i + 1,by rw [HW1.out],⟨by have:=HK.out;omega⟩,⟨by omega⟩,HL2,HB⟩
        · have c2b : decide ((i : Int) < (a0.size : Int)) = false:=decide_eq_false (by omega)
          have hi : i = a0.size:=by have:=HI.out;omega
          subst hi
          have hbk:=low_back wr w.heap.size (grownCap w a0.size 0 5) a0 HL.out
          go_wp2
          go_ret
          exact ⟨rfl,HB.out⟩
  · rw [if_neg c] at h;cases h

/-! ### spec_l3Is: function 155 -/
def spec_l3Is.f (a0_0 : ByteArray) (a0_1 : ByteArray) (a1 : ByteArray) : Option (Bool):=(spec_l1Lower.f a0_0).bind fun t155 => ((spec_l1Lower.f a1).bind fun t156 => (some (t155.toList == t156.toList)))
set_option maxHeartbeats 8000000 in
set_option maxRecDepth 100000 in
theorem spec_l3Is.calls (a0_0 : ByteArray) (a0_1 : ByteArray) (a1 : ByteArray) (r : Bool) (w : World) (h : spec_l3Is.f a0_0 a0_1 a1 = some r) :
  Calls Tryz.prog 155 #[.agg #[.string a0_0,.string a0_1],.string a1] w fun e w' => e = .returned (.bool r) ∧ Below w.heap.size w w':=by
 have hu105:=Tryz.underlying105
 have HB:=Aside0.mk (Below.refl w.heap.size w)
 have H:=h
 unfold spec_l3Is.f at H
 clear h
 replace H:=mb_ H
 obtain ⟨t155,A3,H⟩:=H
 replace H:=mb_ H
 obtain ⟨t156,A4,H⟩:=H
 obtain rfl:=Option.some.inj H
 go_enter Tryz.func155,Tryz.ntmps155
 go_wp2_with (first | ((with_reducible refine gd_ 2 ?_);refine xbe_ (N:=2) (cs:=#[.string a0_0,.string a0_1]) (t:=105) ?_;intro gb154 hg w5 hbox hb;have BK154:=Aside0.mk (hbox);have GE154:=xge_ HB hg;replace HB:=xws_ HB hb;clear hb hbox hg;have ⟨_,_,_,_⟩:=c2_ BK154) | ((with_reducible refine gc_ 90 ?_);refine xgl_ (some 7) Tryz.func90 #[.string a0_0] ?_;(with_reducible refine (spec_l1Lower.calls a0_0 t155 _ A3.out).mono ?_);rintro e w7 ⟨rfl,hb⟩;refine ⟨_,rfl,?_⟩;replace BK154:=xbb_ BK154 hb;replace HB:=xws_ HB hb;(try clear hb)) | ((with_reducible refine gc_ 90 ?_);refine xgl_ (some 9) Tryz.func90 #[.string a1] ?_;(with_reducible refine (spec_l1Lower.calls a1 t156 _ A4.out).mono ?_);rintro e w8 ⟨rfl,hb⟩;refine ⟨_,rfl,?_⟩;replace BK154:=xbb_ BK154 hb;replace HB:=xws_ HB hb;(try clear hb)))
 go_ret
 exact ⟨mf_,xw_ HB⟩

/-! ### spec_l3Values: function 113 -/
def spec_l3Values.l0 : Nat → ByteArray → List ByteArray → List (S105) → Int → Int → Option (List ByteArray)
 | 0,_,_,_,_,_ => none
 | k + 1,x1,x5,x8,x9,x10 => if x10 < x9 then (if 0 ≤ x10 then (if x10 < (x8.length : Int) then ((spec_l3Is.f ((rd_T105 x8 x10).f0) ((rd_T105 x8 x10).f1) x1).bind fun t159 => (if t159 = true then (if x5.length < 8796093022208 then (spec_l3Values.l0 k x1 (x5 ++ [(rd_T105 x8 x10).f1]) x8 x9 (wrap64 (x10 + 1))) else (none)) else (spec_l3Values.l0 k x1 x5 x8 x9 (wrap64 (x10 + 1))))) else (none)) else (none)) else (some x5)
def spec_l3Values.f (k : Nat) (l0 : List (S105)) (a1 : ByteArray) : Option (List ByteArray):=spec_l3Values.l0 k a1 ([] : List ByteArray) l0 (l0.length : Int) 0
set_option maxHeartbeats 8000000 in
set_option maxRecDepth 100000 in
theorem spec_l3Values.calls (k : Nat) (A0 : Option Addr) (c0 : Nat) (l0 : List (S105)) (a1 : ByteArray) (r : List ByteArray) (w : World) (hr0 : Kd.C k105 w A0 l0.length l0) (hc0 : l0.length ≤ c0) (h : spec_l3Values.f k l0 a1 = some r) :
  Calls Tryz.prog 113 #[.slice A0 l0.length c0,.string a1] w fun e w' => ∃ v0_ : Value,e = .returned (v0_) ∧ Kd.R Kd.string 9 w' w.heap.size (fun _ => True) v0_ r ∧ Below w.heap.size w w':=by
 have hu105:=Tryz.underlying105
 have HR0:=Aside0.mk hr0
 have HC0:=Aside0.mk hc0
 clear hr0 hc0
 have HB:=Aside0.mk (Below.refl w.heap.size w)
 have H:=h
 unfold spec_l3Values.f at H
 clear h
 have H':=Aside0.mk H
 clear H
 go_enter Tryz.func113,Tryz.ntmps113
 go_wp2
 go_loopg [5,10] k (fun kq v5 v10 w' => ∃ (x5_1 : List ByteArray) (x10_1 : Int),v10 = .int .i64 x10_1 ∧ Aside0 (spec_l3Values.l0 kq a1 x5_1 l0 (l0.length : Int) x10_1 = some r) ∧ Aside0 (kq ≤ k) ∧ Aside0 (Kd.R Kd.string 9 w' w.heap.size (fun _ => True) v5 x5_1) ∧ Aside0 (Below w.heap.size w w'))
 case atStart => exact ⟨(([] : List ByteArray)),(0),me_,H',⟨Nat.le_refl _⟩,⟨by first | exact Kd.R_nil _ _ _ _ _ | exact Kd.N_nil _ _ _ _ _ | exact Kd.V_nil _ _ _ _ _ | exact Kd.Q_nil _ _ _ _ _ | exact Kd.S_nil _ _ _ _ _⟩,⟨xw_ HB⟩⟩
 case round =>
  clear H'
  obtain ⟨x5_1,x10_1,rfl,HA,HK1,HO_5,HB⟩:=hrel
  cases gk with
  | zero => exact absurd HA.out (by simp [spec_l3Values.l0])
  | succ k1 =>
   have H:=HA.out
   clear HA
   simp only [spec_l3Values.l0] at H
   by_cases c3 : x10_1 < (l0.length : Int)
   ·rw [if_pos c3] at H
    have c3b0:=decide_eq_true c3
    clear c3
    replace H:=mi_ H
    obtain ⟨c4,H⟩:=H
    have c4b0:=decide_eq_true c4
    clear c4
    replace H:=mi_ H
    obtain ⟨c5,H⟩:=H
    have c5b0:=decide_eq_true c5
    clear c5
    replace H:=mb_ H
    obtain ⟨t159,A6,H⟩:=H
    by_cases c7 : t159 = true
    ·subst c7
     rw [if_pos rfl] at H
     replace H:=mi_ H
     obtain ⟨c8,H⟩:=H
     have LMc8:=Aside0.mk c8
     clear c8
     obtain ⟨y160,hy160⟩ : ∃ y_ : List ByteArray,y_ = (x5_1 ++ [(rd_T105 l0 x10_1).f1]):=⟨_,rfl⟩
     replace H : (spec_l3Values.l0 k1 a1 y160 l0 (l0.length : Int) (wrap64 (x10_1 + 1))) = some r:=by first | (rw [hy160];with_reducible exact H) | (have H2_:=(Option.bind_some _ _).symm.trans H;rw [hy160];with_reducible exact H2_) | (have H2_:=(Option.bind_some _ _).symm.trans H;with_reducible exact H2_) | with_reducible exact H | (rw [hy160];exact H) | exact H
     have Ny160:=Aside0.mk hy160
     clear hy160
     have H':=Aside0.mk H
     clear H
     have p157 : 0 ≤ (x10_1 : Int):=md_
     have q157 : x10_1 < (l0.length : Int):=md_
     obtain ⟨ad157,e157,hx157_0,hx157_1⟩:=at_T105 HR0.out x10_1 p157 q157
     cases e157
     (try replace hx157_0:=(HB.out.cell (World.block_lt_of_cell? w _ hx157_0)).trans hx157_0)
     (try replace hx157_1:=(HB.out.cell (World.block_lt_of_cell? w _ hx157_1)).trans hx157_1)
     replace p157:=eq_true p157
     replace q157:=eq_true q157
     go_wp2_with (first | ((with_reducible refine gd_ 7 ?_);refine xbe_ (N:=7) (cs:=#[.string (⟨#[]⟩ : ByteArray),.string (⟨#[]⟩ : ByteArray)]) (t:=105) ?_;intro gb158 hg w9 hbox hb;replace HO_5:=xrb_ HO_5 hb;have BK158:=Aside0.mk (hbox);have GE158:=xge_ HB hg;replace HB:=xws_ HB hb;clear hb hbox hg;have ⟨_,_,_,_⟩:=c2_ BK158) | ((with_reducible refine gc_ 155 ?_);refine xgl_ (some 16) Tryz.func155 #[.agg #[.string ((rd_T105 l0 x10_1).f0),.string ((rd_T105 l0 x10_1).f1)],.string a1] ?_;(with_reducible refine (spec_l3Is.calls ((rd_T105 l0 x10_1).f0) ((rd_T105 l0 x10_1).f1) a1 true _ A6.out).mono ?_);rintro e w11 ⟨rfl,hb⟩;refine ⟨_,rfl,?_⟩;replace HO_5:=Aside0.mk (Kd.R_below (xrt_ ((Kd.R_mono (Kd.R_far (p:=⟨gb158,1,none⟩) (Kd.R_far (p:=⟨gb158,0,none⟩) (Kd.R_types HO_5.out BK158.out (by decide)) (fun _ hk => hk.2) (.string ((rd_T105 l0 x10_1).f0))) (fun _ hk => hk.2) (.string ((rd_T105 l0 x10_1).f1))) (fun _ h_ => h_.1)))) hb);replace BK158:=mxb_ (o':=.cells #[.string ((rd_T105 l0 x10_1).f0),.string ((rd_T105 l0 x10_1).f1)] 105 (0,0)) BK158 hb;replace HB:=xws_ HB hb;(try clear hb);have ⟨_,_,_,_⟩:=c2_ BK158) | ((with_reducible refine gate_builtin (b:=.append) (xs:=#[.tmp 17,.tmp 20]) rfl ?_);at_builtin;refine Kd.R_append Kd.string (w0:=w) w.heap.size rfl (.tmp 17) (.tmp 20) 50 9 (.string ⟨#[]⟩) 16 rfl Tryz.underlying50 info9 rfl (by decide) (by omega) u5 x5_1 ((rd_T105 l0 x10_1).f1) [.string ((rd_T105 l0 x10_1).f1)] (fun _ => True) (fun _ => False) rfl rfl ?aP (fun _ hk => hk.elim) ?aF ?aO ?aB ?aS ?aL ?_;(case aP => exact rfl);(case aB => exact (xw_ HB));(case aF => exact (fun _ _ => trivial));(case aO => exact (xr_ HO_5));(case aS => exact (below_size (xw_ HB)));(case aL => have:=LMc8.out;omega);intro v161 w13 ho hb hg hat;rw [← Ny160.out] at ho;replace BK158:=Aside0.mk (blk_grown (g:=gb158) (o:=.cells #[.string ((rd_T105 l0 x10_1).f0),.string ((rd_T105 l0 x10_1).f1)] 105 (0,0)) (xb_ BK158) hg (Kd.R_ne HO_5.out BK158.out (by decide)));replace HB:=Aside0.mk (hb);have HO162:=Aside0.mk (ho);clear HO_5;clear ho hb hg hat))
     go_roundg k1
     case measure => have:=HK1.out;omega
     case rel => exact ⟨(y160),(wrap64 (x10_1 + 1)),me_,H',⟨by have:=HK1.out;omega⟩,⟨xr_ HO162⟩,⟨xw_ HB⟩⟩
    ·replace c7:=Bool.eq_false_iff.mpr c7
     subst c7
     rw [if_neg (show ¬ (false = true) by decide)] at H
     have H':=Aside0.mk H
     clear H
     have p157 : 0 ≤ (x10_1 : Int):=md_
     have q157 : x10_1 < (l0.length : Int):=md_
     obtain ⟨ad157,e157,hx157_0,hx157_1⟩:=at_T105 HR0.out x10_1 p157 q157
     cases e157
     (try replace hx157_0:=(HB.out.cell (World.block_lt_of_cell? w _ hx157_0)).trans hx157_0)
     (try replace hx157_1:=(HB.out.cell (World.block_lt_of_cell? w _ hx157_1)).trans hx157_1)
     replace p157:=eq_true p157
     replace q157:=eq_true q157
     go_wp2_with (first | ((with_reducible refine gd_ 7 ?_);refine xbe_ (N:=7) (cs:=#[.string (⟨#[]⟩ : ByteArray),.string (⟨#[]⟩ : ByteArray)]) (t:=105) ?_;intro gb158 hg w14 hbox hb;replace HO_5:=xrb_ HO_5 hb;have BK158:=Aside0.mk (hbox);have GE158:=xge_ HB hg;replace HB:=xws_ HB hb;clear hb hbox hg;have ⟨_,_,_,_⟩:=c2_ BK158) | ((with_reducible refine gc_ 155 ?_);refine xgl_ (some 16) Tryz.func155 #[.agg #[.string ((rd_T105 l0 x10_1).f0),.string ((rd_T105 l0 x10_1).f1)],.string a1] ?_;(with_reducible refine (spec_l3Is.calls ((rd_T105 l0 x10_1).f0) ((rd_T105 l0 x10_1).f1) a1 false _ A6.out).mono ?_);rintro e w16 ⟨rfl,hb⟩;refine ⟨_,rfl,?_⟩;replace HO_5:=Aside0.mk (Kd.R_below (xrt_ ((Kd.R_mono (Kd.R_far (p:=⟨gb158,1,none⟩) (Kd.R_far (p:=⟨gb158,0,none⟩) (Kd.R_types HO_5.out BK158.out (by decide)) (fun _ hk => hk.2) (.string ((rd_T105 l0 x10_1).f0))) (fun _ hk => hk.2) (.string ((rd_T105 l0 x10_1).f1))) (fun _ h_ => h_.1)))) hb);replace BK158:=mxb_ (o':=.cells #[.string ((rd_T105 l0 x10_1).f0),.string ((rd_T105 l0 x10_1).f1)] 105 (0,0)) BK158 hb;replace HB:=xws_ HB hb;(try clear hb)))
     go_roundg k1
     case measure => have:=HK1.out;omega
     case rel => exact ⟨(x5_1),(wrap64 (x10_1 + 1)),me_,H',⟨by have:=HK1.out;omega⟩,⟨xr_ HO_5⟩,⟨xw_ HB⟩⟩
   ·rw [if_neg c3] at H
    have c3b0:=decide_eq_false c3
    clear c3
    obtain rfl:=Option.some.inj H
    go_wp2
    go_ret
    exact ⟨_,mf_,by (with_reducible repeat (first | apply Kd.R_alloc | apply Kd.R_drewN | apply Kd.R_drew));exact HO_5.out,xw_ HB⟩

/-! ### spec_l2Number: function 154 -/
def spec_l2Number.l0 : Nat → ByteArray → Int → Int → Int → Int → Option (Int)
 | 0,_,_,_,_,_ => none
 | k + 1,x0,x1,x2,x7,x8 => if x8 < (wrap64 (x1 + x2)) then (if 0 ≤ x8 then (if x8 < (x0.size : Int) then ((spec_l1Digit.f (bt x0 x8)).bind fun t163 => (if t163 = true then (spec_l2Number.l0 k x0 x1 x2 (wrap64 ((wrap64 (10 * x7)) + (((bt x0 x8) - 48) % 256))) (wrap64 (x8 + 1))) else (some (-1)))) else (none)) else (none)) else (some x7)
def spec_l2Number.f (k : Nat) (a0 : ByteArray) (a1 : Int) (a2 : Int) : Option (Int):=if (wrap64 (a1 + a2)) > (a0.size : Int) then (some (-1)) else (spec_l2Number.l0 k a0 a1 a2 0 a1)
set_option maxHeartbeats 8000000 in
set_option maxRecDepth 100000 in
theorem spec_l2Number.calls (k : Nat) (a0 : ByteArray) (a1 : Int) (a2 : Int) (r : Int) (w : World) (h : spec_l2Number.f k a0 a1 a2 = some r) :
  Calls Tryz.prog 154 #[.string a0,.int .i64 a1,.int .i64 a2] w fun e w' => e = .returned (.int .i64 r) ∧ Drawn0 w w':=by
 have H:=h
 unfold spec_l2Number.f at H
 clear h
 by_cases c4 : (wrap64 (a1 + a2)) > (a0.size : Int)
 ·rw [if_pos c4] at H
  have c4b0 : decide ((a0.size : Int) < (wrap64 (a1 + a2))) = true:=decide_eq_true c4
  clear c4
  obtain rfl:=Option.some.inj H
  go_enter Tryz.func154,Tryz.ntmps154
  go_wp2
  go_ret
  exact ⟨by first | rfl | (simp;done) | (simp [*];done),by repeat (first | exact Drawn0.refl _ | apply Drawn0.step)⟩
 ·rw [if_neg c4] at H
  have c4b0 : decide ((a0.size : Int) < (wrap64 (a1 + a2))) = false:=decide_eq_false c4
  clear c4
  have H':=Aside0.mk H
  clear H
  go_enter Tryz.func154,Tryz.ntmps154
  go_wp2
  go_loopg [7,8] k (fun kq v7 v8 w' => ∃ (x7_1 : Int) (x8_1 : Int),v7 = .int .i64 x7_1 ∧ v8 = .int .i64 x8_1 ∧ Aside0 (spec_l2Number.l0 kq a0 a1 a2 x7_1 x8_1 = some r) ∧ Aside0 (kq ≤ k) ∧ Drawn0 w w')
  case atStart => exact ⟨(0),(a1),me_,me_,H',⟨Nat.le_refl _⟩,by repeat (first | exact Drawn0.refl _ | apply Drawn0.step)⟩
  case round =>
   clear H'
   try clear c4
   try clear c4b0
   obtain ⟨x7_1,x8_1,rfl,rfl,HA,HK1,⟨m1,rfl⟩⟩:=hrel
   cases gk with
   | zero => exact absurd HA.out (by simp [spec_l2Number.l0])
   | succ k1 =>
    have H:=HA.out
    clear HA
    simp only [spec_l2Number.l0] at H
    by_cases c5 : x8_1 < (wrap64 (a1 + a2))
    ·rw [if_pos c5] at H
     have c5b0:=decide_eq_true c5
     clear c5
     replace H:=mi_ H
     obtain ⟨c6,H⟩:=H
     have c6b0:=decide_eq_true c6
     clear c6
     replace H:=mi_ H
     obtain ⟨c7,H⟩:=H
     have c7b0:=decide_eq_true c7
     clear c7
     replace H:=mb_ H
     obtain ⟨t163,A9,H⟩:=H
     by_cases c10 : t163 = true
     ·subst c10
      rw [if_pos rfl] at H
      have H':=Aside0.mk H
      clear H
      have p8 : 0 ≤ (x8_1 : Int):=md_
      have q8 : x8_1 < (a0.size : Int):=md_
      have hx8:=bt_at a0 x8_1
      replace p8:=eq_true p8
      replace q8:=eq_true q8
      go_wp2_with (first | ((with_reducible refine gc_ 106 ?_);refine xgl_ (some 26) Tryz.func106 #[.int .u8 (bt a0 x8_1)] ?_;(with_reducible refine (spec_l1Digit.calls (bt a0 x8_1) true _ A9.out).mono ?_);rintro e w' ⟨rfl,⟨nd,rfl⟩⟩;refine ⟨_,rfl,?_⟩;have p11 : 0 ≤ (x8_1 : Int):=md_;have q11 : x8_1 < (a0.size : Int):=md_;have hx11:=bt_at a0 x8_1;replace p11:=eq_true p11;replace q11:=eq_true q11))
      go_roundg k1
      case measure => have:=HK1.out;omega
      case rel => exact ⟨(wrap64 ((wrap64 (10 * x7_1)) + (((bt a0 x8_1) - 48) % 256))),(wrap64 (x8_1 + 1)),me_,me_,H',⟨by have:=HK1.out;omega⟩,by repeat (first | exact Drawn0.refl _ | apply Drawn0.step)⟩
     ·replace c10:=Bool.eq_false_iff.mpr c10
      subst c10
      rw [if_neg (show ¬ (false = true) by decide)] at H
      obtain rfl:=Option.some.inj H
      have p8 : 0 ≤ (x8_1 : Int):=md_
      have q8 : x8_1 < (a0.size : Int):=md_
      have hx8:=bt_at a0 x8_1
      replace p8:=eq_true p8
      replace q8:=eq_true q8
      go_wp2_with (first | ((with_reducible refine gc_ 106 ?_);refine xgl_ (some 26) Tryz.func106 #[.int .u8 (bt a0 x8_1)] ?_;(with_reducible refine (spec_l1Digit.calls (bt a0 x8_1) false _ A9.out).mono ?_);rintro e w' ⟨rfl,⟨nd,rfl⟩⟩;refine ⟨_,rfl,?_⟩))
      go_ret
      exact ⟨by first | rfl | (simp;done) | (simp [*];done),by repeat (first | exact Drawn0.refl _ | apply Drawn0.step)⟩
    ·rw [if_neg c5] at H
     have c5b0:=decide_eq_false c5
     clear c5
     obtain rfl:=Option.some.inj H
     go_wp2
     go_ret
     exact ⟨by first | rfl | (simp;done) | (simp [*];done),by repeat (first | exact Drawn0.refl _ | apply Drawn0.step)⟩

/-! ### spec_l4Length: function 112 -/
mutual
def spec_l4Length.l0 : Nat → Int → List ByteArray → Int → Int → Option (Int)
 | 0,_,_,_,_ => none
 | k + 1,x3,x12,x13,x14 => if x14 < x13 then (if 0 ≤ x14 then (if x14 < (x12.length : Int) then ((spec_l3List.f k (rdOf ByteArray.empty x12 x14)).bind fun bt168 => (if bt168.2 = true then (spec_l4Length.j1 k x3 bt168.1 x12 x13 x14 ((bt168.1.length : Int) == 0)) else (spec_l4Length.j1 k x3 bt168.1 x12 x13 x14 true))) else (none)) else (none)) else (some x3)
def spec_l4Length.j1 : Nat → Int → List ByteArray → List ByteArray → Int → Int → Bool → Option (Int)
 | 0,_,_,_,_,_,_ => none
 | k + 1,x3,x6,x12,x13,x14,x29 => if x29 = true then (some (-2)) else (spec_l4Length.l1 k x3 x12 x13 x14 x6 (x6.length : Int) 0)
def spec_l4Length.l1 : Nat → Int → List ByteArray → Int → Int → List ByteArray → Int → Int → Option (Int)
 | 0,_,_,_,_,_,_,_ => none
 | k + 1,x3,x12,x13,x14,x30,x31,x32 => if x32 < x31 then (if 0 ≤ x32 then (if x32 < (x30.length : Int) then ((spec_l2Number.f k (rdOf ByteArray.empty x30 x32) 0 ((rdOf ByteArray.empty x30 x32).size : Int)).bind fun t173 => (if t173 < 0 then (some (-2)) else (if ((rdOf ByteArray.empty x30 x32).size : Int) > 9 then (some (-2)) else (if (rdOf ByteArray.empty x30 x32).toList = ([] : List UInt8) then (some (-2)) else (if x3 ≥ 0 then (if x3 = t173 then (spec_l4Length.l1 k t173 x12 x13 x14 x30 x31 (wrap64 (x32 + 1))) else (some (-2))) else (spec_l4Length.l1 k t173 x12 x13 x14 x30 x31 (wrap64 (x32 + 1)))))))) else (none)) else (none)) else (spec_l4Length.l0 k x3 x12 x13 (wrap64 (x14 + 1)))
end
def spec_l4Length.f (k : Nat) (l0 : List (S105)) : Option (Int):=(spec_l3Values.f k l0 (⟨#[99,111,110,116,101,110,116,45,108,101,110,103,116,104]⟩ : ByteArray)).bind fun t164 => (spec_l4Length.l0 k (-1) t164 (t164.length : Int) 0)
set_option maxHeartbeats 8000000 in
set_option maxRecDepth 100000 in
theorem spec_l4Length.calls (k : Nat) (A0 : Option Addr) (c0 : Nat) (l0 : List (S105)) (r : Int) (w : World) (hr0 : Kd.C k105 w A0 l0.length l0) (hc0 : l0.length ≤ c0) (h : spec_l4Length.f k l0 = some r) :
  Calls Tryz.prog 112 #[.slice A0 l0.length c0] w fun e w' => e = .returned (.int .i64 r) ∧ Below w.heap.size w w':=by
 have HR0:=Aside0.mk hr0
 have HC0:=Aside0.mk hc0
 clear hr0 hc0
 have HB:=Aside0.mk (Below.refl w.heap.size w)
 have H:=h
 unfold spec_l4Length.f at H
 clear h
 replace H:=mb_ H
 obtain ⟨t164,A2,H⟩:=H
 have H':=Aside0.mk H
 clear H
 go_enter Tryz.func112,Tryz.ntmps112
 go_wp2_with (first | ((with_reducible refine gc_ 113 ?_);refine xgl_ (some 12) Tryz.func113 #[.slice A0 l0.length c0,.string (⟨#[99,111,110,116,101,110,116,45,108,101,110,103,116,104]⟩ : ByteArray)] ?_;(with_reducible refine (spec_l3Values.calls k _ _ l0 (⟨#[99,111,110,116,101,110,116,45,108,101,110,103,116,104]⟩ : ByteArray) t164 _ ?side1 ?side2 A2.out).mono ?_);(case side1 => repeat (first | exact HR0.out | (with_reducible refine Kd.C_alloc ?_ _) | (with_reducible refine Kd.C_drewN ?_ _) | (with_reducible refine Kd.C_drew ?_)));(case side2 => exact HC0.out);rintro e w3 ⟨v165,rfl,ho0,hb⟩;refine ⟨_,rfl,?_⟩;have HO166:=Aside0.mk (Kd.R_lower ho0 (below_size (xw_ HB)));replace HB:=xws_ HB hb;(try clear hb);(try clear ho0);obtain ⟨Ao4,co4,eo4⟩:=Kd.R_slice HO166.out;subst eo4))
 go_loopg [3,14] k (fun kq v3 v14 w' => ∃ (x3_1 : Int) (x14_1 : Int),v3 = .int .i64 x3_1 ∧ v14 = .int .i64 x14_1 ∧ Aside0 (spec_l4Length.l0 kq x3_1 t164 (t164.length : Int) x14_1 = some r) ∧ Aside0 (kq ≤ k) ∧ Aside0 (Kd.R Kd.string 9 w' w.heap.size (fun _ => True) (.slice Ao4 t164.length co4) t164) ∧ Aside0 (Below w.heap.size w w'))
 case atStart => exact ⟨((-1)),(0),me_,me_,H',⟨Nat.le_refl _⟩,⟨xr_ HO166⟩,⟨xw_ HB⟩⟩
 case round =>
  clear H'
  obtain ⟨x3_1,x14_1,rfl,rfl,HA,HK1,HO_12,HB⟩:=hrel
  cases gk with
  | zero => exact absurd HA.out (by simp [spec_l4Length.l0])
  | succ k1 =>
   have H:=HA.out
   clear HA
   simp only [spec_l4Length.l0] at H
   by_cases c5 : x14_1 < (t164.length : Int)
   ·rw [if_pos c5] at H
    have c5b0:=decide_eq_true c5
    clear c5
    replace H:=mi_ H
    obtain ⟨c6,H⟩:=H
    have c6b0:=decide_eq_true c6
    clear c6
    replace H:=mi_ H
    obtain ⟨c7,H⟩:=H
    have c7b0:=decide_eq_true c7
    clear c7
    replace H:=mb_ H
    obtain ⟨⟨t168,t169⟩,A8,H⟩:=H
    dsimp only at H
    have HC9:=Aside0.mk H
    clear H
    have p167 : 0 ≤ (x14_1 : Int):=md_
    have q167 : x14_1 < (t164.length : Int):=md_
    obtain ⟨ad167,e167,hx167_0⟩:=Kd.at_string (Kd.R_reads' HO_12.out).2.2 x14_1 p167 q167
    cases e167
    replace p167:=eq_true p167
    replace q167:=eq_true q167
    go_upto_region 6 with (first | ((with_reducible refine gc_ 88 ?_);refine xgl_ (some 20) Tryz.func88 #[.string (rdOf ByteArray.empty t164 x14_1)] ?_;(with_reducible refine (spec_l3List.calls k1 (rdOf ByteArray.empty t164 x14_1) t168 t169 _ A8.out).mono ?_);rintro e w10 ⟨v170,rfl,ho0,hb⟩;refine ⟨_,rfl,?_⟩;have HO171:=Aside0.mk (Kd.R_lower (Kd.R_new' ho0 (Kd.R_lt (xr_ HO_12))) (below_size (xw_ HB)));replace HO_12:=xre_ HO_12 ho0 hb;replace HB:=xws_ HB hb;(try clear hb);(try clear ho0)))
    (try simp only [Act.put,List.setIfInBounds_toArray,List.set_cons_zero,List.set_cons_succ])
    go_cut [29] (fun v29 wc => ∃ (kq : Nat) (x29_8 : Bool),v29 = .bool x29_8 ∧ Aside0 (spec_l4Length.j1 kq x3_1 t168 t164 (t164.length : Int) x14_1 x29_8 = some r) ∧ Aside0 (kq ≤ k1) ∧ Aside0 (Kd.R Kd.string 9 wc w.heap.size (fun k_ => some k_ ≠ ((.slice (some ad167) t164.length co4) : Value).ownBlock) v170 t168) ∧ Aside0 (Kd.R Kd.string 9 wc w.heap.size (fun k_ => some k_ ≠ (v170 : Value).ownBlock) (.slice (some ad167) t164.length co4) t164) ∧ Aside0 (Below w.heap.size w wc))
    case first =>
     have H:=HC9.out
     clear HC9
     by_cases c11 : t169 = true
     ·subst c11
      rw [if_pos rfl] at H
      have H':=Aside0.mk H
      clear H
      obtain ⟨Ao12,co12,eo12⟩:=Kd.R_slice HO171.out
      subst eo12
      go_wp2
      go_meet
      case rel => exact ⟨_,(((t168.length : Int) == 0)),me_,H',⟨by have:=HK1.out;first | omega | exact Nat.le_refl _⟩,⟨xrt_ (Kd.R_mono HO171.out (fun _ hk => hk.2))⟩,⟨xrt_ (Kd.R_mono HO_12.out (fun _ hk => hk.2))⟩,⟨xw_ HB⟩⟩
     ·replace c11:=Bool.eq_false_iff.mpr c11
      subst c11
      rw [if_neg (show ¬ (false = true) by decide)] at H
      have H':=Aside0.mk H
      clear H
      go_wp2
      go_meet
      case rel => exact ⟨_,(true),me_,H',⟨by have:=HK1.out;first | omega | exact Nat.le_refl _⟩,⟨xrt_ (Kd.R_mono HO171.out (fun _ hk => hk.2))⟩,⟨xrt_ (Kd.R_mono HO_12.out (fun _ hk => hk.2))⟩,⟨xw_ HB⟩⟩
    case rest =>
     clear HC9
     try clear c5
     try clear c5b0
     try clear c6
     try clear c6b0
     try clear c7
     try clear c7b0
     try clear hx167_0
     try clear p167
     try clear q167
     obtain ⟨kq,x29_8,rfl,HA,HJ8,HO_6,HO_12,HB⟩:=hcut
     cases kq with
     | zero => exact absurd HA.out (by simp [spec_l4Length.j1])
     | succ kj8 =>
      have H:=HA.out
      clear HA
      simp only [spec_l4Length.j1] at H
      by_cases c13 : x29_8 = true
      ·subst c13
       rw [if_pos rfl] at H
       obtain rfl:=Option.some.inj H
       go_wp2
       go_ret
       exact ⟨mf_,xw_ HB⟩
      ·replace c13:=Bool.eq_false_iff.mpr c13
       subst c13
       rw [if_neg (show ¬ (false = true) by decide)] at H
       have H':=Aside0.mk H
       clear H
       obtain ⟨Ao14,co14,eo14⟩:=Kd.R_slice HO_6.out
       subst eo14
       go_wp2
       go_loopg [3,32] kj8 (fun kq v3 v32 w' => ∃ (x3_3 : Int) (x32_3 : Int),v3 = .int .i64 x3_3 ∧ v32 = .int .i64 x32_3 ∧ Aside0 (spec_l4Length.l1 kq x3_3 t164 (t164.length : Int) x14_1 t168 (t168.length : Int) x32_3 = some r) ∧ Aside0 (kq ≤ kj8) ∧ Aside0 (Kd.R Kd.string 9 w' w.heap.size (fun k_ => some k_ ≠ ((.slice Ao14 t168.length co14) : Value).ownBlock) (.slice (some ad167) t164.length co4) t164) ∧ Aside0 (Kd.R Kd.string 9 w' w.heap.size (fun k_ => some k_ ≠ ((.slice (some ad167) t164.length co4) : Value).ownBlock) (.slice Ao14 t168.length co14) t168) ∧ Aside0 (Below w.heap.size w w'))
       case atStart => exact ⟨(x3_1),(0),me_,me_,H',⟨Nat.le_refl _⟩,⟨xr_ HO_12⟩,⟨xr_ HO_6⟩,⟨xw_ HB⟩⟩
       case round =>
        clear H'
        try clear c5
        try clear c5b0
        try clear c6
        try clear c6b0
        try clear c7
        try clear c7b0
        try clear c13
        try clear hx167_0
        try clear p167
        try clear q167
        obtain ⟨x3_3,x32_3,rfl,rfl,HA,HK3,HO_12,HO_30,HB⟩:=hrel
        cases gk with
        | zero => exact absurd HA.out (by simp [spec_l4Length.l1])
        | succ k3 =>
         have H:=HA.out
         clear HA
         simp only [spec_l4Length.l1] at H
         by_cases c15 : x32_3 < (t168.length : Int)
         ·rw [if_pos c15] at H
          have c15b0:=decide_eq_true c15
          clear c15
          replace H:=mi_ H
          obtain ⟨c16,H⟩:=H
          have c16b0:=decide_eq_true c16
          clear c16
          replace H:=mi_ H
          obtain ⟨c17,H⟩:=H
          have c17b0:=decide_eq_true c17
          clear c17
          replace H:=mb_ H
          obtain ⟨t173,A18,H⟩:=H
          by_cases c19 : t173 < 0
          ·rw [if_pos c19] at H
           have c19b0:=decide_eq_true c19
           clear c19
           obtain rfl:=Option.some.inj H
           have p172 : 0 ≤ (x32_3 : Int):=md_
           have q172 : x32_3 < (t168.length : Int):=md_
           obtain ⟨ad172,e172,hx172_0⟩:=Kd.at_string (Kd.R_reads' HO_30.out).2.2 x32_3 p172 q172
           cases e172
           replace p172:=eq_true p172
           replace q172:=eq_true q172
           go_wp2_with (first | ((with_reducible refine gc_ 154 ?_);refine xgl_ (some 39) Tryz.func154 #[.string (rdOf ByteArray.empty t168 x32_3),.int .i64 0,.int .i64 ((rdOf ByteArray.empty t168 x32_3).size : Int)] ?_;(with_reducible refine (spec_l2Number.calls k3 (rdOf ByteArray.empty t168 x32_3) 0 ((rdOf ByteArray.empty t168 x32_3).size : Int) t173 _ A18.out).mono ?_);rintro e w' ⟨rfl,⟨nd,rfl⟩⟩;refine ⟨_,rfl,?_⟩))
           go_ret
           exact ⟨mf_,xw_ HB⟩
          ·rw [if_neg c19] at H
           have c19b0:=decide_eq_false c19
           clear c19
           by_cases c20 : ((rdOf ByteArray.empty t168 x32_3).size : Int) > 9
           ·rw [if_pos c20] at H
            have c20b0 : decide (9 < ((rdOf ByteArray.empty t168 x32_3).size : Int)) = true:=decide_eq_true c20
            have c20b1 : decide (9 < (rdOf ByteArray.empty t168 x32_3).size) = true:=decide_eq_true (by omega)
            clear c20
            obtain rfl:=Option.some.inj H
            have p172 : 0 ≤ (x32_3 : Int):=md_
            have q172 : x32_3 < (t168.length : Int):=md_
            obtain ⟨ad172,e172,hx172_0⟩:=Kd.at_string (Kd.R_reads' HO_30.out).2.2 x32_3 p172 q172
            cases e172
            replace p172:=eq_true p172
            replace q172:=eq_true q172
            go_wp2_with (first | ((with_reducible refine gc_ 154 ?_);refine xgl_ (some 39) Tryz.func154 #[.string (rdOf ByteArray.empty t168 x32_3),.int .i64 0,.int .i64 ((rdOf ByteArray.empty t168 x32_3).size : Int)] ?_;(with_reducible refine (spec_l2Number.calls k3 (rdOf ByteArray.empty t168 x32_3) 0 ((rdOf ByteArray.empty t168 x32_3).size : Int) t173 _ A18.out).mono ?_);rintro e w' ⟨rfl,⟨nd,rfl⟩⟩;refine ⟨_,rfl,?_⟩))
            go_ret
            exact ⟨mf_,xw_ HB⟩
           ·rw [if_neg c20] at H
            have c20b0 : decide (9 < ((rdOf ByteArray.empty t168 x32_3).size : Int)) = false:=decide_eq_false c20
            have c20b1 : decide (9 < (rdOf ByteArray.empty t168 x32_3).size) = false:=decide_eq_false (by omega)
            clear c20
            by_cases c21 : (rdOf ByteArray.empty t168 x32_3).toList = ([] : List UInt8)
            ·rw [if_pos c21] at H
             have c21b0 : ((rdOf ByteArray.empty t168 x32_3).toList == ([] : List UInt8)) = true:=beq_iff_eq.mpr c21
             have c21b1 : ((rdOf ByteArray.empty t168 x32_3).toList != ([] : List UInt8)) = false:=bne_eq_false_iff_eq.mpr c21
             clear c21
             obtain rfl:=Option.some.inj H
             have p172 : 0 ≤ (x32_3 : Int):=md_
             have q172 : x32_3 < (t168.length : Int):=md_
             obtain ⟨ad172,e172,hx172_0⟩:=Kd.at_string (Kd.R_reads' HO_30.out).2.2 x32_3 p172 q172
             cases e172
             replace p172:=eq_true p172
             replace q172:=eq_true q172
             go_wp2_with (first | ((with_reducible refine gc_ 154 ?_);refine xgl_ (some 39) Tryz.func154 #[.string (rdOf ByteArray.empty t168 x32_3),.int .i64 0,.int .i64 ((rdOf ByteArray.empty t168 x32_3).size : Int)] ?_;(with_reducible refine (spec_l2Number.calls k3 (rdOf ByteArray.empty t168 x32_3) 0 ((rdOf ByteArray.empty t168 x32_3).size : Int) t173 _ A18.out).mono ?_);rintro e w' ⟨rfl,⟨nd,rfl⟩⟩;refine ⟨_,rfl,?_⟩))
             go_ret
             exact ⟨mf_,xw_ HB⟩
            ·rw [if_neg c21] at H
             have c21b0 : ((rdOf ByteArray.empty t168 x32_3).toList == ([] : List UInt8)) = false:=beq_eq_false_iff_ne.mpr c21
             have c21b1 : ((rdOf ByteArray.empty t168 x32_3).toList != ([] : List UInt8)) = true:=bne_iff_ne.mpr c21
             by_cases c22 : x3_3 ≥ 0
             ·rw [if_pos c22] at H
              have c22b0 : decide (0 ≤ x3_3) = true:=decide_eq_true c22
              clear c22
              by_cases c23 : x3_3 = t173
              ·rw [if_pos c23] at H
               have c23b0 : (x3_3 == t173) = true:=beq_iff_eq.mpr c23
               have c23b1 : (x3_3 != t173) = false:=bne_eq_false_iff_eq.mpr c23
               clear c23
               have H':=Aside0.mk H
               clear H
               have p172 : 0 ≤ (x32_3 : Int):=md_
               have q172 : x32_3 < (t168.length : Int):=md_
               obtain ⟨ad172,e172,hx172_0⟩:=Kd.at_string (Kd.R_reads' HO_30.out).2.2 x32_3 p172 q172
               cases e172
               replace p172:=eq_true p172
               replace q172:=eq_true q172
               go_wp2_with (first | ((with_reducible refine gc_ 154 ?_);refine xgl_ (some 39) Tryz.func154 #[.string (rdOf ByteArray.empty t168 x32_3),.int .i64 0,.int .i64 ((rdOf ByteArray.empty t168 x32_3).size : Int)] ?_;(with_reducible refine (spec_l2Number.calls k3 (rdOf ByteArray.empty t168 x32_3) 0 ((rdOf ByteArray.empty t168 x32_3).size : Int) t173 _ A18.out).mono ?_);rintro e w' ⟨rfl,⟨nd,rfl⟩⟩;refine ⟨_,rfl,?_⟩))
               go_roundg k3
               case measure => have:=HK1.out;have:=HJ8.out;have:=HK3.out;omega
               case rel => exact ⟨(t173),(wrap64 (x32_3 + 1)),me_,me_,H',⟨by have:=HK1.out;have:=HJ8.out;have:=HK3.out;omega⟩,⟨xr_ HO_12⟩,⟨xr_ HO_30⟩,⟨xw_ HB⟩⟩
              ·rw [if_neg c23] at H
               have c23b0 : (x3_3 == t173) = false:=beq_eq_false_iff_ne.mpr c23
               have c23b1 : (x3_3 != t173) = true:=bne_iff_ne.mpr c23
               obtain rfl:=Option.some.inj H
               have p172 : 0 ≤ (x32_3 : Int):=md_
               have q172 : x32_3 < (t168.length : Int):=md_
               obtain ⟨ad172,e172,hx172_0⟩:=Kd.at_string (Kd.R_reads' HO_30.out).2.2 x32_3 p172 q172
               cases e172
               replace p172:=eq_true p172
               replace q172:=eq_true q172
               go_wp2_with (first | ((with_reducible refine gc_ 154 ?_);refine xgl_ (some 39) Tryz.func154 #[.string (rdOf ByteArray.empty t168 x32_3),.int .i64 0,.int .i64 ((rdOf ByteArray.empty t168 x32_3).size : Int)] ?_;(with_reducible refine (spec_l2Number.calls k3 (rdOf ByteArray.empty t168 x32_3) 0 ((rdOf ByteArray.empty t168 x32_3).size : Int) t173 _ A18.out).mono ?_);rintro e w' ⟨rfl,⟨nd,rfl⟩⟩;refine ⟨_,rfl,?_⟩))
               go_ret
               exact ⟨mf_,xw_ HB⟩
             ·rw [if_neg c22] at H
              have c22b0 : decide (0 ≤ x3_3) = false:=decide_eq_false c22
              clear c22
              have H':=Aside0.mk H
              clear H
              have p172 : 0 ≤ (x32_3 : Int):=md_
              have q172 : x32_3 < (t168.length : Int):=md_
              obtain ⟨ad172,e172,hx172_0⟩:=Kd.at_string (Kd.R_reads' HO_30.out).2.2 x32_3 p172 q172
              cases e172
              replace p172:=eq_true p172
              replace q172:=eq_true q172
              go_wp2_with (first | ((with_reducible refine gc_ 154 ?_);refine xgl_ (some 39) Tryz.func154 #[.string (rdOf ByteArray.empty t168 x32_3),.int .i64 0,.int .i64 ((rdOf ByteArray.empty t168 x32_3).size : Int)] ?_;(with_reducible refine (spec_l2Number.calls k3 (rdOf ByteArray.empty t168 x32_3) 0 ((rdOf ByteArray.empty t168 x32_3).size : Int) t173 _ A18.out).mono ?_);rintro e w' ⟨rfl,⟨nd,rfl⟩⟩;refine ⟨_,rfl,?_⟩))
              go_roundg k3
              case measure => have:=HK1.out;have:=HJ8.out;have:=HK3.out;omega
              case rel => exact ⟨(t173),(wrap64 (x32_3 + 1)),me_,me_,H',⟨by have:=HK1.out;have:=HJ8.out;have:=HK3.out;omega⟩,⟨xr_ HO_12⟩,⟨xr_ HO_30⟩,⟨xw_ HB⟩⟩
         ·rw [if_neg c15] at H
          have c15b0:=decide_eq_false c15
          clear c15
          have H':=Aside0.mk H
          clear H
          go_wp2
          go_roundg k3
          case measure => have:=HK1.out;have:=HJ8.out;have:=HK3.out;omega
          case rel => exact ⟨(x3_3),(wrap64 (x14_1 + 1)),me_,me_,H',⟨by have:=HK1.out;have:=HJ8.out;have:=HK3.out;omega⟩,⟨xrt_ (Kd.R_mono HO_12.out (fun _ hk => trivial))⟩,⟨xw_ HB⟩⟩
   ·rw [if_neg c5] at H
    have c5b0:=decide_eq_false c5
    clear c5
    obtain rfl:=Option.some.inj H
    go_wp2
    go_ret
    exact ⟨mf_,xw_ HB⟩

end Go.Proofs.YtpggepjfhgalkaaGreatDoor.PFnExactKeyOf
