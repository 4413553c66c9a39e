-- Written by a program of this project (xprint.py) out of the translation; Lean checks it.
import Derived.Test.YtpggepjfhgalkaaGreatDoorPFnExactKeyOfx0
import Derived.Test.YtpggepjfhgalkaaGreatDoorPFnExactKeyOfx13
namespace Go.Proofs.YtpggepjfhgalkaaGreatDoor.PFnExactKeyOf
open Go.RowKit Go.Proofs.YtpggepjfhgalkaaGreatDoorW.PrintWords Go.Proofs.YtpggepjfhgalkaaGreatDoorW.PrintLast Go.Proofs.YtpggepjfhgalkaaGreatDoorW.PrintMore
attribute [local go_sem] max2_int min2_int max_two min_two max_three min_three max_four min_four   -- for this text's walks alone
set_option linter.unusedVariables false
set_option linter.unusedSimpArgs false

/-! ### laws_toFieldS: function 37 -/
def laws_toFieldS.l0 : Nat → List (S97) → List (S105) → Int → Option ((List (S105)))
 | 0,_,_,_ => none
 | k + 1,x0,x3,x4 => if x4 < (x0.length : Int) then (if 0 ≤ x4 then ((laws_toField.f ((rd_T97 x0 x4).f0) ((rd_T97 x0 x4).f1)).bind fun bt296 => (if x4 < (x3.length : Int) then (laws_toFieldS.l0 k x0 (x3.set (x4 : Int).toNat (⟨bt296.1,bt296.2⟩ : S105)) (wrap64 (x4 + 1))) else (none))) else (none)) else (some x3)
def laws_toFieldS.f (k : Nat) (l0 : List (S97)) : Option ((List (S105))):=if 0 ≤ (l0.length : Int) then (if ((l0.length : Int) : Int).toNat ≤ 8796093022208 then (laws_toFieldS.l0 k l0 (List.replicate ((l0.length : Int) : Int).toNat z105) 0) else (none)) else (none)
set_option maxHeartbeats 8000000 in
set_option maxRecDepth 100000 in
theorem laws_toFieldS.calls (k : Nat) (A0 : Option Addr) (c0 : Nat) (l0 : List (S97)) (r : List (S105)) (w : World) (hr0 : Kd.C k97 w A0 l0.length l0) (hc0 : l0.length ≤ c0) (h : laws_toFieldS.f k l0 = some r) :
  Calls Tryz.prog 37 #[.slice A0 l0.length c0] w fun e w' => ∃ v0_ : Value,e = .returned (v0_) ∧ Kd.R k105 105 w' w.heap.size (fun _ => True) v0_ r ∧ Below w.heap.size w w':=by
 have hu97:=Tryz.underlying97
 have hu105:=Tryz.underlying105
 have HR0:=Aside0.mk hr0
 have HC0:=Aside0.mk hc0
 clear hr0 hc0
 have HB:=Aside0.mk (Below.refl w.heap.size w)
 have H:=h
 unfold laws_toFieldS.f at H
 clear h
 replace H:=mi_ H
 obtain ⟨c2,H⟩:=H
 have c2b0:=eq_true c2
 have c2b1:=decide_eq_true c2
 clear c2
 replace H:=mi_ H
 obtain ⟨c3,H⟩:=H
 have c3b0:=eq_true c3
 have c3b1:=decide_eq_true c3
 clear c3
 obtain ⟨y292,hy292⟩ : ∃ y_ : List (S105),y_ = (List.replicate ((l0.length : Int) : Int).toNat z105):=⟨_,rfl⟩
 replace H : (laws_toFieldS.l0 k l0 y292 0) = some r:=by first | (rw [hy292];with_reducible exact H) | (have H2_:=(Option.bind_some _ _).symm.trans H;rw [hy292];with_reducible exact H2_) | (have H2_:=(Option.bind_some _ _).symm.trans H;with_reducible exact H2_) | with_reducible exact H | (rw [hy292];exact H) | exact H
 have Ny292:=Aside0.mk hy292
 clear hy292
 have H':=Aside0.mk H
 clear H
 go_enter Tryz.func37,Tryz.ntmps37
 go_wp2_with (first | ((with_reducible refine gd_ 7 ?_);refine Kd.R_make k105 _ 105 rfl (N:=7) rfl 33 _ _ rfl (l0.length : Int) rfl rfl Tryz.underlying33 (.agg #[(.string ⟨#[]⟩),(.string ⟨#[]⟩)]) 32 info105 rfl (by decide) (by omega) z105 (ok:=fun _ => True) (okp:=fun _ => True) (k105_mkM _ _ _ z105 ) (fun _ hk => hk) trivial (md_) (Nat.le_trans (Nat.mul_le_mul_right _ (md_ : (l0.length : Int).toNat ≤ 8796093022208)) (by omega)) (Below.refl _ _) (Nat.le_refl _) ?_;intro v293 w4 ho5 hb hg_ hnew_;clear hg_ hnew_;(first | rw [← Ny292.out] at ho5 | (simp only [Int.reduceToNat] at ho5;rw [← Ny292.out] at ho5));have HO294:=Aside0.mk (Kd.R_lower ho5 (below_size (xw_ HB)));replace HB:=xws_ HB hb;clear hb ho5))
 go_loopg [4] k (fun kq v4 w' => ∃ (x3_1 : List (S105)) (x4_1 : Int),v4 = .int .i64 x4_1 ∧ Aside0 (laws_toFieldS.l0 kq l0 x3_1 x4_1 = some r) ∧ Aside0 (kq ≤ k) ∧ Aside0 (Kd.R k105 105 w' w.heap.size (fun _ => True) v293 x3_1) ∧ Aside0 (Below w.heap.size w w'))
 case atStart => exact ⟨(y292),(0),me_,H',⟨Nat.le_refl _⟩,⟨xr_ HO294⟩,⟨xw_ HB⟩⟩
 case round =>
  clear H'
  try clear c2
  try clear c2b0
  try clear c2b1
  try clear c3
  try clear c3b0
  try clear c3b1
  obtain ⟨x3_1,x4_1,rfl,HA,HK1,HO_3,HB⟩:=hrel
  cases gk with
  | zero => exact absurd HA.out (by simp [laws_toFieldS.l0])
  | succ k1 =>
   have H:=HA.out
   clear HA
   simp only [laws_toFieldS.l0] at H
   by_cases c6 : x4_1 < (l0.length : Int)
   ·rw [if_pos c6] at H
    have c6b0:=decide_eq_true c6
    clear c6
    replace H:=mi_ H
    obtain ⟨c7,H⟩:=H
    have c7b0:=decide_eq_true c7
    clear c7
    replace H:=mb_ H
    obtain ⟨⟨t296,t297⟩,A8,H⟩:=H
    dsimp only at H
    replace H:=mi_ H
    obtain ⟨c9,H⟩:=H
    have c9b0:=decide_eq_true c9
    clear c9
    obtain ⟨y298,hy298⟩ : ∃ y_ : List (S105),y_ = (x3_1.set (x4_1 : Int).toNat (⟨t296,t297⟩ : S105)):=⟨_,rfl⟩
    replace H : (laws_toFieldS.l0 k1 l0 y298 (wrap64 (x4_1 + 1))) = some r:=by first | (rw [hy298];with_reducible exact H) | (have H2_:=(Option.bind_some _ _).symm.trans H;rw [hy298];with_reducible exact H2_) | (have H2_:=(Option.bind_some _ _).symm.trans H;with_reducible exact H2_) | with_reducible exact H | (rw [hy298];exact H) | exact H
    have Ny298:=Aside0.mk hy298
    clear hy298
    have H':=Aside0.mk H
    clear H
    have p295 : 0 ≤ (x4_1 : Int):=md_
    have q295 : x4_1 < (l0.length : Int):=md_
    obtain ⟨ad295,e295,hx295_0,hx295_1⟩:=at_T97 HR0.out x4_1 p295 q295
    cases e295
    (try replace hx295_0:=(HB.out.cell (World.block_lt_of_cell? w _ hx295_0)).trans hx295_0)
    (try replace hx295_1:=(HB.out.cell (World.block_lt_of_cell? w _ hx295_1)).trans hx295_1)
    replace p295:=eq_true p295
    replace q295:=eq_true q295
    go_wp2_with (first | ((with_reducible refine gc_ 73 ?_);refine xgl_ (some 20) Tryz.func73 #[.agg #[.string ((rd_T97 l0 x4_1).f0),.string ((rd_T97 l0 x4_1).f1)]] ?_;(with_reducible refine (laws_toField.calls ((rd_T97 l0 x4_1).f0) ((rd_T97 l0 x4_1).f1) t296 t297 _ A8.out).mono ?_);rintro e w11 ⟨rfl,hb⟩;refine ⟨_,rfl,?_⟩;replace HO_3:=xrb_ HO_3 hb;replace HB:=xws_ HB hb;(try clear hb);have p10 : 0 ≤ (x4_1 : Int):=md_;have q10 : (x4_1 : Int) < ((x3_1.length : Int) : Int):=md_;obtain ⟨go10,co10,eo10,gb10,gl10,cl10,HG10⟩:=Kd.R_form HO_3.out (by omega);(first | cases eo10 | (injection eo10 with ea_ en_ ec_;(first | subst ea_ | (injection ea_ with ea_;subst ea_));subst ec_;clear en_));have GB10:=Aside0.mk gb10;have GG10:=Aside0.mk HG10;clear gb10 gl10 HG10;obtain ⟨ce10,hcl10,hM10,hcc10,hfr10⟩:=Kd.R_elem HO_3.out z105 (x4_1 : Int) p10 q10;obtain rfl:=k105_openM hM10;have hx10_0 : w11.cell? ⟨go10,(x4_1 : Int).toNat * 2,none⟩ = some (.string ((rd_T105 x3_1 x4_1).f0)):=hcc10 0 _ rfl;have hx10_1 : w11.cell? ⟨go10,(x4_1 : Int).toNat * 2 + 1,none⟩ = some (.string ((rd_T105 x3_1 x4_1).f1)):=hcc10 1 _ rfl;have hf10_0 : w11.frozen? ⟨go10,(x4_1 : Int).toNat * 2,none⟩ = false:=hfr10 0;have hf10_1 : w11.frozen? ⟨go10,(x4_1 : Int).toNat * 2 + 1,none⟩ = false:=hfr10 1;clear hcl10 hcc10 hfr10 hM10;replace p10:=eq_true p10;replace q10:=eq_true q10;have HX12:=Aside0.mk (show Kd.R k105 105 w11 w.heap.size (fun _ => True) (.slice (some ⟨go10,0,none⟩) x3_1.length co10) x3_1 from (xr_ HO_3));obtain ⟨ce12,hcl12,hM12,hcc12,hfr12⟩:=Kd.R_elem HX12.out z105 (x4_1 : Int) (md_) (by have h_ : (x4_1 : Int) < ((x3_1.length : Int) : Int):=md_;first | exact h_ | (have e_:=(Kd.R_reads' HO_3.out).1;omega) | simpa using h_);obtain rfl:=k105_openM hM12;have HP12:=Kd.R_seg HX12.out (x4_1 : Int) (md_) (by have h_ : (x4_1 : Int) < ((x3_1.length : Int) : Int):=md_;first | exact h_ | (have e_:=(Kd.R_reads' HO_3.out).1;omega) | simpa using h_) (seg:=[.string t296,.string t297]) (j:=0) hcl12 hcc12 (show 2 ≤ 2 from by decide) (x':=(⟨t296,t297⟩ : S105)) (k105_mkM _ _ _ (⟨t296,t297⟩ : S105) ) (fun _ hk => hk);have hx12_0:=hcc12 0 _ rfl;(try simp only [show (k105).sz = 2 from rfl,Nat.mul_one,Nat.add_zero] at hx12_0);have hf12_0:=hfr12 0;(try simp only [show (k105).sz = 2 from rfl,Nat.mul_one,Nat.add_zero] at hf12_0);have hx12_1:=hcc12 1 _ rfl;(try simp only [show (k105).sz = 2 from rfl,Nat.mul_one,Nat.add_zero] at hx12_1);have hf12_1:=hfr12 1;(try simp only [show (k105).sz = 2 from rfl,Nat.mul_one,Nat.add_zero] at hf12_1);clear hcl12 hcc12 hfr12 hM12) | ((with_reducible refine gate_store (t:=105) (p:=21) rfl ?_);refine store_event (t:=105) (p:=21) (v:=?vo_w13) (w1:=((w11.setCell ⟨go10,(x4_1 : Int).toNat * 2,none⟩ (.string t296)).setCell ⟨go10,(x4_1 : Int).toNat * 2 + 1,none⟩ (.string t297))) ?hg ?ho ?hn ?hr ?_;(case ho => rfl);(case hg => rfl);(case hn => rfl);(case hr => first | (go_simp;done) | (go_simp;rfl));intro w13 hw;have hg : w11.grownBy w13 (some go10):=(by rw [hw];exact HP12.2);have hp_ : Kd.R k105 105 w13 w.heap.size (fun _ => True) (.slice (some ⟨go10,0,none⟩) x3_1.length co10) y298:=(by rw [hw,Ny298.out];exact HP12.1);clear HP12;replace HO_3:=Aside0.mk (hp_);replace HB:=Aside0.mk ((by rw [hw];exact below_set (below_set (HB.out) GB10.out) GB10.out : Below w.heap.size w w13));clear hg hw hp_))
    go_roundg k1
    case measure => have:=HK1.out;omega
    case rel => exact ⟨(y298),(wrap64 (x4_1 + 1)),me_,H',⟨by have:=HK1.out;omega⟩,⟨xr_ HO_3⟩,⟨xw_ HB⟩⟩
   ·rw [if_neg c6] at H
    have c6b0:=decide_eq_false c6
    clear c6
    obtain rfl:=Option.some.inj H
    go_wp2
    go_ret
    exact ⟨_,mf_,by (with_reducible repeat (first | apply Kd.R_alloc | apply Kd.R_drewN | apply Kd.R_drew));exact HO_3.out,xw_ HB⟩

/-! ### laws_toRequest: function 11 -/
def laws_toRequest.f (k : Nat) (a0_0 : ByteArray) (a0_1 : ByteArray) (l0_2 : List (S97)) (a0_3 : ByteArray) : Option (ByteArray × ByteArray × (List (S105)) × ByteArray):=(laws_toFieldS.f k l0_2).bind fun t302 => (some (a0_0,a0_1,t302,a0_3))
set_option maxHeartbeats 8000000 in
set_option maxRecDepth 100000 in
theorem laws_toRequest.calls (k : Nat) (a0_0 : ByteArray) (a0_1 : ByteArray) (A0_2 : Option Addr) (c0_2 : Nat) (l0_2 : List (S97)) (a0_3 : ByteArray) (r1 : ByteArray) (r2 : ByteArray) (r3 : List (S105)) (r4 : ByteArray) (w : World) (hr0_2 : Kd.C k97 w A0_2 l0_2.length l0_2) (hc0_2 : l0_2.length ≤ c0_2) (h : laws_toRequest.f k a0_0 a0_1 l0_2 a0_3 = some (r1,r2,r3,r4)) :
  Calls Tryz.prog 11 #[.agg #[.string a0_0,.string a0_1,.slice A0_2 l0_2.length c0_2,.string a0_3]] w fun e w' => ∃ v2_ : Value,e = .returned (.agg #[.string r1,.string r2,v2_,.string r4]) ∧ Kd.R k105 105 w' w.heap.size (fun _ => True) v2_ r3 ∧ Below w.heap.size w w':=by
 have hu26:=Tryz.underlying26
 have hu35:=Tryz.underlying35
 have HR0_2:=Aside0.mk hr0_2
 have HC0_2:=Aside0.mk hc0_2
 clear hr0_2 hc0_2
 have HB:=Aside0.mk (Below.refl w.heap.size w)
 have H:=h
 unfold laws_toRequest.f at H
 clear h
 replace H:=mb_ H
 obtain ⟨t302,A2,H⟩:=H
 simp only [Option.some.injEq,Prod.mk.injEq] at H
 obtain ⟨rfl,rfl,rfl,rfl⟩:=H
 go_enter Tryz.func11,Tryz.ntmps11
 go_wp2_with (first | ((with_reducible refine gd_ 1 ?_);refine xbe_ (N:=1) (cs:=#[.string a0_0,.string a0_1,.slice A0_2 l0_2.length c0_2,.string a0_3]) (t:=26) ?_;intro gb299 hg w3 hbox hb;have BK299:=Aside0.mk (hbox);have GE299:=xge_ HB hg;replace HB:=xws_ HB hb;clear hb hbox hg) | ((with_reducible refine gd_ 2 ?_);refine xbe_ (N:=2) (cs:=#[.string (⟨#[]⟩ : ByteArray),.string (⟨#[]⟩ : ByteArray),.slice none 0 0,.string (⟨#[]⟩ : ByteArray)]) (t:=35) ?_;intro gb300 hg w4 hbox hb;have BK300:=Aside0.mk (hbox);have GE300:=xge_ HB hg;replace HB:=xws_ HB hb;have NB299_300:=xlt_ BK299 hg;have NB300_299:=xgt_ BK299 hg;replace BK299:=xbb_ BK299 hb;clear hb hbox hg) | ((with_reducible refine gd_ 3 ?_);refine xbe_ (N:=3) (cs:=#[.string (⟨#[]⟩ : ByteArray),.string (⟨#[]⟩ : ByteArray),.slice none 0 0,.string (⟨#[]⟩ : ByteArray)]) (t:=35) ?_;intro gb301 hg w5 hbox hb;have BK301:=Aside0.mk (hbox);have GE301:=xge_ HB hg;replace HB:=xws_ HB hb;have NB299_301:=xlt_ BK299 hg;have NB301_299:=xgt_ BK299 hg;replace BK299:=xbb_ BK299 hb;have NB300_301:=xlt_ BK300 hg;have NB301_300:=xgt_ BK300 hg;replace BK300:=xbb_ BK300 hb;clear hb hbox hg;have hnb6:=NB299_300.out;have hnc6:=NB300_299.out;have hnb7:=NB299_301.out;have hnc7:=NB301_299.out;have ⟨_,_,_,_,_,_,_,_⟩:=c4_ BK299;have hnb9:=NB301_300.out;have hnc9:=NB300_301.out;have ⟨_,_,_,_,_,_,_,_⟩:=c4_ BK301) | ((with_reducible refine gc_ 37 ?_);refine xgl_ (some 12) Tryz.func37 #[.slice A0_2 l0_2.length c0_2] ?_;(with_reducible refine (laws_toFieldS.calls k _ _ l0_2 t302 _ ?side1 ?side2 A2.out).mono ?_);(case side1 => exact Kd.C_below HR0_2.out (xw_ HB));(case side2 => exact HC0_2.out);rintro e w11 ⟨v303,rfl,ho0,hb⟩;refine ⟨_,rfl,?_⟩;have HO304:=Aside0.mk (Kd.R_lower ho0 (below_size (xw_ HB)));replace BK299:=mxb_ (o':=.cells #[.string a0_0,.string a0_1,.slice A0_2 l0_2.length c0_2,.string a0_3] 26 (0,0)) BK299 hb;replace BK300:=mxb_ (o':=.cells #[.string (⟨#[]⟩ : ByteArray),.string (⟨#[]⟩ : ByteArray),.slice none 0 0,.string (⟨#[]⟩ : ByteArray)] 35 (0,0)) BK300 hb;replace BK301:=mxb_ (o':=.cells #[.string a0_0,.string a0_1,.slice none 0 0,.string (⟨#[]⟩ : ByteArray)] 35 (0,0)) BK301 hb;replace HB:=xws_ HB hb;(try clear hb);(try clear ho0);obtain ⟨Ao12,co12,eo12⟩:=Kd.R_slice HO304.out;subst eo12;have ⟨_,_,_,_,_,_,_,_⟩:=c4_ BK301;have ⟨_,_,_,_,_,_,_,_⟩:=c4_ BK299;have ⟨_,_,_,_,_,_,_,_⟩:=c4_ BK300))
 refine bodyPost_ret (results_cell_row rfl _ _ gb300 35 #[.string a0_0,.string a0_1,.slice Ao12 t302.length co12,.string a0_3] (0,0) _ rfl (mx_ BK300) Tryz.underlying35 rfl (by kernel_rfl)) rfl ?_
 exact ⟨_,mf_,by (with_reducible repeat (first | apply Kd.R_alloc | apply Kd.R_drewN | apply Kd.R_drew));exact Kd.R_mono (Kd.R_far (p:=⟨gb300,3,none⟩) (Kd.R_far (p:=⟨gb300,2,none⟩) (Kd.R_far (p:=⟨gb300,1,none⟩) (Kd.R_far (p:=⟨gb300,0,none⟩) (Kd.R_far (p:=⟨gb301,3,none⟩) (Kd.R_far (p:=⟨gb301,2,none⟩) (Kd.R_types (Kd.R_types HO304.out BK301.out (by decide)) BK300.out (by decide)) (fun _ hk => hk.1.2) (.slice Ao12 t302.length co12)) (fun _ hk => hk.1.2) (.string a0_3)) (fun _ hk => hk.2) (.string a0_0)) (fun _ hk => hk.2) (.string a0_1)) (fun _ hk => hk.2) (.slice Ao12 t302.length co12)) (fun _ hk => hk.2) (.string a0_3)) (fun _ hk => trivial),xw_ HB⟩

theorem tabIs_below {P : Program} {w W : World} {name : String} {k : IntKind} {zs : List Int} (h : Lib.TabIs P w name k zs) (hb : Below w.heap.size w W) : Lib.TabIs P W name k zs:=by
  unfold Lib.TabIs World.var? at h ⊢
  cases hg : P.globalNamed name with
  | none => rw [hg] at h;cases h
  | some g =>
    rw [hg] at h
    simp only [Option.bind_some] at h ⊢
    by_cases hlt : g < w.heap.size
    · rw [hb.block g hlt];exact h
    · rw [Array.getElem?_eq_none (by omega)] at h;cases h
/-- a variable of an interface's type: nil, or some value -/
def IfOk (w : World) (g : Nat) : Prop:=∃ ev,w.cell? ⟨g,0,none⟩ = some ev ∧ (ev = .nilIface ∨ ∃ te pe,ev = .iface te pe)
/-- what the library's variables hold: bytealg's length (some number), strconv's table of powers, its two errors -/
structure TabOk (w : World) : Prop where
  mx : ∃ m,w.cell? ⟨0,0,none⟩ = some (.int .i64 m)
  tab : Lib.TabIs Tryz.prog w "internal/strconv.uint64pow10" .u64 Lib.pow10Tab
  syn : IfOk w 4
  rng : IfOk w 5
theorem IfOk.below {w W : World} {g : Nat} (h : IfOk w g) (hb : Below w.heap.size w W) : IfOk W g:=h.imp fun ev hv => ⟨(hb.cell (World.block_lt_of_cell? w _ hv.1)).trans hv.1,hv.2⟩
theorem TabOk.below {w W : World} (h : TabOk w) (hb : Below w.heap.size w W) : TabOk W:=⟨h.1.imp fun m hm => (hb.cell (World.block_lt_of_cell? w _ hm)).trans hm,tabIs_below h.2 hb,h.3.below hb,h.4.below hb⟩
theorem below_grow_ (w : World) (n : Nat) (os : Array Obj) : Below w.heap.size w (Go.Sort.grow (w.drewN n) os) :=
  ⟨rfl,rfl,rfl,by show w.heap.size ≤ (w.heap ++ os).size;rw [Array.size_append];omega,fun k hk => by
    show (w.heap ++ os)[k]? = _
    rw [Array.getElem?_append_left hk]⟩
/-! ### strconv_Itoa: function 132 -/
def strconv_Itoa.f (a0 : Int) : Option (ByteArray):=if -9223372036854775808 ≤ a0 then (if a0 ≤ 9223372036854775807 then some ⟨(Lib.itoa a0).toArray⟩ else none) else none
theorem strconv_Itoa.calls (a0 : Int) (r : ByteArray) (w : World) (h : strconv_Itoa.f a0 = some r) (hT : TabOk w) :
    Calls Tryz.prog 132 #[.int .i64 a0] w fun e w' => e = .returned (.string r) ∧ Below w.heap.size w w':=by
  unfold strconv_Itoa.f at h
  by_cases c : -9223372036854775808 ≤ a0
  · rw [if_pos c] at h
    by_cases c2 : a0 ≤ 9223372036854775807
    · rw [if_pos c2] at h
      obtain rfl:=Option.some.inj h
      refine (Tryz.strconv_Itoa a0 (by omega) (by omega) w hT.2).mono fun e w' hq => ⟨hq.1,?_⟩
      obtain ⟨k,os,rfl⟩:=hq.2
      exact below_grow_ w k os
    · rw [if_neg c2] at h;cases h
  · rw [if_neg c] at h;cases h

/-! ### impl_urlText: function 80 -/
def impl_urlText.f (a0_0 : ByteArray) (a0_1 : ByteArray) (a0_2 : Int) (a0_3 : ByteArray) (a0_4 : ByteArray) (a0_5 : Bool) : Option (ByteArray):=if a0_0.size + 3 ≤ 9223372036854775807 then (if (a0_0 ++ (⟨#[58,47,47]⟩ : ByteArray)).size + a0_1.size ≤ 9223372036854775807 then (if a0_2 = 0 then (if ((a0_0 ++ (⟨#[58,47,47]⟩ : ByteArray)) ++ a0_1).size + a0_3.size ≤ 9223372036854775807 then (if a0_5 = true then (if 1 + a0_4.size ≤ 9223372036854775807 then (if (((a0_0 ++ (⟨#[58,47,47]⟩ : ByteArray)) ++ a0_1) ++ a0_3).size + ((⟨#[63]⟩ : ByteArray) ++ a0_4).size ≤ 9223372036854775807 then (some ((((a0_0 ++ (⟨#[58,47,47]⟩ : ByteArray)) ++ a0_1) ++ a0_3) ++ ((⟨#[63]⟩ : ByteArray) ++ a0_4))) else (none)) else (none)) else (some (((a0_0 ++ (⟨#[58,47,47]⟩ : ByteArray)) ++ a0_1) ++ a0_3))) else (none)) else ((strconv_Itoa.f a0_2).bind fun t306 => (if 1 + t306.size ≤ 9223372036854775807 then (if ((a0_0 ++ (⟨#[58,47,47]⟩ : ByteArray)) ++ a0_1).size + ((⟨#[58]⟩ : ByteArray) ++ t306).size ≤ 9223372036854775807 then (if (((a0_0 ++ (⟨#[58,47,47]⟩ : ByteArray)) ++ a0_1) ++ ((⟨#[58]⟩ : ByteArray) ++ t306)).size + a0_3.size ≤ 9223372036854775807 then (if a0_5 = true then (if 1 + a0_4.size ≤ 9223372036854775807 then (if ((((a0_0 ++ (⟨#[58,47,47]⟩ : ByteArray)) ++ a0_1) ++ ((⟨#[58]⟩ : ByteArray) ++ t306)) ++ a0_3).size + ((⟨#[63]⟩ : ByteArray) ++ a0_4).size ≤ 9223372036854775807 then (some (((((a0_0 ++ (⟨#[58,47,47]⟩ : ByteArray)) ++ a0_1) ++ ((⟨#[58]⟩ : ByteArray) ++ t306)) ++ a0_3) ++ ((⟨#[63]⟩ : ByteArray) ++ a0_4))) else (none)) else (none)) else (some ((((a0_0 ++ (⟨#[58,47,47]⟩ : ByteArray)) ++ a0_1) ++ ((⟨#[58]⟩ : ByteArray) ++ t306)) ++ a0_3))) else (none)) else (none)) else (none)))) else (none)) else (none)
set_option maxHeartbeats 8000000 in
set_option maxRecDepth 100000 in
theorem impl_urlText.calls (a0_0 : ByteArray) (a0_1 : ByteArray) (a0_2 : Int) (a0_3 : ByteArray) (a0_4 : ByteArray) (a0_5 : Bool) (r : ByteArray) (w : World) (h : impl_urlText.f a0_0 a0_1 a0_2 a0_3 a0_4 a0_5 = some r) (hT_ : TabOk w) :
  Calls Tryz.prog 80 #[.agg #[.string a0_0,.string a0_1,.int .i64 a0_2,.string a0_3,.string a0_4,.bool a0_5]] w fun e w' => e = .returned (.string r) ∧ Below w.heap.size w w':=by
 have HTB_:=Aside0.mk hT_
 clear hT_
 have hu31:=Tryz.underlying31
 have HB:=Aside0.mk (Below.refl w.heap.size w)
 have H:=h
 unfold impl_urlText.f at H
 clear h
 replace H:=mi_ H
 obtain ⟨c2,H⟩:=H
 have c2b0:=eq_true c2
 have c2b1:=decide_eq_true c2
 try have c2b2 : (9223372036854775807 < a0_0.size + 3) = False:=eq_false (Nat.not_lt.2 c2)
 replace H:=mi_ H
 obtain ⟨c3,H⟩:=H
 have c3b0:=eq_true c3
 have c3b1:=decide_eq_true c3
 try have c3b2 : (9223372036854775807 < (a0_0 ++ (⟨#[58,47,47]⟩ : ByteArray)).size + a0_1.size) = False:=eq_false (Nat.not_lt.2 c3)
 try have c3b3 : (9223372036854775807 < a0_0.size + 3 + a0_1.size) = False:=eq_false (Nat.not_lt.2 (by have z_:=c3;simp only [ByteArray.size_append] at z_;exact z_))
 by_cases c4 : a0_2 = 0
 ·rw [if_pos c4] at H
  have c4b0 : (a0_2 == 0) = true:=beq_iff_eq.mpr c4
  have c4b1 : (a0_2 != 0) = false:=bne_eq_false_iff_eq.mpr c4
  clear c4
  replace H:=mi_ H
  obtain ⟨c5,H⟩:=H
  have c5b0:=eq_true c5
  have c5b1:=decide_eq_true c5
  try have c5b2 : (9223372036854775807 < ((a0_0 ++ (⟨#[58,47,47]⟩ : ByteArray)) ++ a0_1).size + a0_3.size) = False:=eq_false (Nat.not_lt.2 c5)
  try have c5b3 : (9223372036854775807 < a0_0.size + 3 + a0_1.size + a0_3.size) = False:=eq_false (Nat.not_lt.2 (by have z_:=c5;simp only [ByteArray.size_append] at z_;exact z_))
  by_cases c6 : a0_5 = true
  ·subst c6
   rw [if_pos rfl] at H
   replace H:=mi_ H
   obtain ⟨c7,H⟩:=H
   have c7b0:=eq_true c7
   have c7b1:=decide_eq_true c7
   try have c7b2 : (9223372036854775807 < 1 + a0_4.size) = False:=eq_false (Nat.not_lt.2 c7)
   replace H:=mi_ H
   obtain ⟨c8,H⟩:=H
   have c8b0:=eq_true c8
   have c8b1:=decide_eq_true c8
   try have c8b2 : (9223372036854775807 < (((a0_0 ++ (⟨#[58,47,47]⟩ : ByteArray)) ++ a0_1) ++ a0_3).size + ((⟨#[63]⟩ : ByteArray) ++ a0_4).size) = False:=eq_false (Nat.not_lt.2 c8)
   try have c8b3 : (9223372036854775807 < a0_0.size + 3 + a0_1.size + a0_3.size + (1 + a0_4.size)) = False:=eq_false (Nat.not_lt.2 (by have z_:=c8;simp only [ByteArray.size_append] at z_;exact z_))
   obtain rfl:=Option.some.inj H
   go_enter Tryz.func80,Tryz.ntmps80
   go_wp2_with (first | ((with_reducible refine gd_ 1 ?_);refine xbe_ (N:=1) (cs:=#[.string a0_0,.string a0_1,.int .i64 a0_2,.string a0_3,.string a0_4,.bool true]) (t:=31) ?_;intro gb305 hg w9 hbox hb;have BK305:=Aside0.mk (hbox);have GE305:=xge_ HB hg;replace HB:=xws_ HB hb;clear hb hbox hg;have ⟨_,_,_,_,_,_,_,_,_,_,_,_⟩:=c6_ BK305))
   go_ret
   exact ⟨mf_,xw_ HB⟩
  ·replace c6:=Bool.eq_false_iff.mpr c6
   subst c6
   rw [if_neg (show ¬ (false = true) by decide)] at H
   obtain rfl:=Option.some.inj H
   go_enter Tryz.func80,Tryz.ntmps80
   go_wp2_with (first | ((with_reducible refine gd_ 1 ?_);refine xbe_ (N:=1) (cs:=#[.string a0_0,.string a0_1,.int .i64 a0_2,.string a0_3,.string a0_4,.bool false]) (t:=31) ?_;intro gb305 hg w11 hbox hb;have BK305:=Aside0.mk (hbox);have GE305:=xge_ HB hg;replace HB:=xws_ HB hb;clear hb hbox hg;have ⟨_,_,_,_,_,_,_,_,_,_,_,_⟩:=c6_ BK305))
   go_ret
   exact ⟨mf_,xw_ HB⟩
 ·rw [if_neg c4] at H
  have c4b0 : (a0_2 == 0) = false:=beq_eq_false_iff_ne.mpr c4
  have c4b1 : (a0_2 != 0) = true:=bne_iff_ne.mpr c4
  replace H:=mb_ H
  obtain ⟨t306,A13,H⟩:=H
  replace H:=mi_ H
  obtain ⟨c14,H⟩:=H
  have c14b0:=eq_true c14
  have c14b1:=decide_eq_true c14
  try have c14b2 : (9223372036854775807 < 1 + t306.size) = False:=eq_false (Nat.not_lt.2 c14)
  replace H:=mi_ H
  obtain ⟨c15,H⟩:=H
  have c15b0:=eq_true c15
  have c15b1:=decide_eq_true c15
  try have c15b2 : (9223372036854775807 < ((a0_0 ++ (⟨#[58,47,47]⟩ : ByteArray)) ++ a0_1).size + ((⟨#[58]⟩ : ByteArray) ++ t306).size) = False:=eq_false (Nat.not_lt.2 c15)
  try have c15b3 : (9223372036854775807 < a0_0.size + 3 + a0_1.size + (1 + t306.size)) = False:=eq_false (Nat.not_lt.2 (by have z_:=c15;simp only [ByteArray.size_append] at z_;exact z_))
  replace H:=mi_ H
  obtain ⟨c16,H⟩:=H
  have c16b0:=eq_true c16
  have c16b1:=decide_eq_true c16
  try have c16b2 : (9223372036854775807 < (((a0_0 ++ (⟨#[58,47,47]⟩ : ByteArray)) ++ a0_1) ++ ((⟨#[58]⟩ : ByteArray) ++ t306)).size + a0_3.size) = False:=eq_false (Nat.not_lt.2 c16)
  try have c16b3 : (9223372036854775807 < a0_0.size + 3 + a0_1.size + (1 + t306.size) + a0_3.size) = False:=eq_false (Nat.not_lt.2 (by have z_:=c16;simp only [ByteArray.size_append] at z_;exact z_))
  by_cases c17 : a0_5 = true
  ·subst c17
   rw [if_pos rfl] at H
   replace H:=mi_ H
   obtain ⟨c18,H⟩:=H
   have c18b0:=eq_true c18
   have c18b1:=decide_eq_true c18
   try have c18b2 : (9223372036854775807 < 1 + a0_4.size) = False:=eq_false (Nat.not_lt.2 c18)
   replace H:=mi_ H
   obtain ⟨c19,H⟩:=H
   have c19b0:=eq_true c19
   have c19b1:=decide_eq_true c19
   try have c19b2 : (9223372036854775807 < ((((a0_0 ++ (⟨#[58,47,47]⟩ : ByteArray)) ++ a0_1) ++ ((⟨#[58]⟩ : ByteArray) ++ t306)) ++ a0_3).size + ((⟨#[63]⟩ : ByteArray) ++ a0_4).size) = False:=eq_false (Nat.not_lt.2 c19)
   try have c19b3 : (9223372036854775807 < a0_0.size + 3 + a0_1.size + (1 + t306.size) + a0_3.size + (1 + a0_4.size)) = False:=eq_false (Nat.not_lt.2 (by have z_:=c19;simp only [ByteArray.size_append] at z_;exact z_))
   obtain rfl:=Option.some.inj H
   go_enter Tryz.func80,Tryz.ntmps80
   go_wp2_with (first | ((with_reducible refine gd_ 1 ?_);refine xbe_ (N:=1) (cs:=#[.string a0_0,.string a0_1,.int .i64 a0_2,.string a0_3,.string a0_4,.bool true]) (t:=31) ?_;intro gb305 hg w20 hbox hb;have BK305:=Aside0.mk (hbox);have GE305:=xge_ HB hg;replace HB:=xws_ HB hb;clear hb hbox hg;have ⟨_,_,_,_,_,_,_,_,_,_,_,_⟩:=c6_ BK305) | ((with_reducible refine gc_ 132 ?_);refine xgl_ (some 16) Tryz.func132 #[.int .i64 a0_2] ?_;(with_reducible refine (strconv_Itoa.calls a0_2 t306 _ A13.out (HTB_.out.below (by first | (with_reducible exact Below.refl _ _) | (repeat (first | (with_reducible first | exact HB.out | exact Below.refl _ _ | apply below_alloc | apply pw_below_drewN | apply below_drew1 | refine below_set ?_ GE305.out) | exact HB.out)) | (repeat (first | exact Below.refl _ _ | apply below_alloc | apply pw_below_drewN | apply below_drew1 | refine below_set ?_ GE305.out))))).mono ?_);rintro e w22 ⟨rfl,hb⟩;refine ⟨_,rfl,?_⟩;replace BK305:=xbb_ BK305 hb;replace HB:=xws_ HB hb;(try clear hb);have ⟨_,_,_,_,_,_,_,_,_,_,_,_⟩:=c6_ BK305))
   go_ret
   exact ⟨mf_,xw_ HB⟩
  ·replace c17:=Bool.eq_false_iff.mpr c17
   subst c17
   rw [if_neg (show ¬ (false = true) by decide)] at H
   obtain rfl:=Option.some.inj H
   go_enter Tryz.func80,Tryz.ntmps80
   go_wp2_with (first | ((with_reducible refine gd_ 1 ?_);refine xbe_ (N:=1) (cs:=#[.string a0_0,.string a0_1,.int .i64 a0_2,.string a0_3,.string a0_4,.bool false]) (t:=31) ?_;intro gb305 hg w24 hbox hb;have BK305:=Aside0.mk (hbox);have GE305:=xge_ HB hg;replace HB:=xws_ HB hb;clear hb hbox hg;have ⟨_,_,_,_,_,_,_,_,_,_,_,_⟩:=c6_ BK305) | ((with_reducible refine gc_ 132 ?_);refine xgl_ (some 16) Tryz.func132 #[.int .i64 a0_2] ?_;(with_reducible refine (strconv_Itoa.calls a0_2 t306 _ A13.out (HTB_.out.below (by first | (with_reducible exact Below.refl _ _) | (repeat (first | (with_reducible first | exact HB.out | exact Below.refl _ _ | apply below_alloc | apply pw_below_drewN | apply below_drew1 | refine below_set ?_ GE305.out) | exact HB.out)) | (repeat (first | exact Below.refl _ _ | apply below_alloc | apply pw_below_drewN | apply below_drew1 | refine below_set ?_ GE305.out))))).mono ?_);rintro e w26 ⟨rfl,hb⟩;refine ⟨_,rfl,?_⟩;replace BK305:=xbb_ BK305 hb;replace HB:=xws_ HB hb;(try clear hb);have ⟨_,_,_,_,_,_,_,_,_,_,_,_⟩:=c6_ BK305))
   go_ret
   exact ⟨mf_,xw_ HB⟩

/-! ### impl_within: function 119 -/
def impl_within.f (a0 : Int) (a1 : Int) (a2 : Int) : Option (Bool):=if a1 ≤ a0 then (some (decide (a0 ≤ a2))) else (some false)
set_option maxHeartbeats 8000000 in
set_option maxRecDepth 100000 in
theorem impl_within.calls (a0 : Int) (a1 : Int) (a2 : Int) (r : Bool) (w : World) (h : impl_within.f a0 a1 a2 = some r) :
  Calls Tryz.prog 119 #[.int .i64 a0,.int .i64 a1,.int .i64 a2] w fun e w' => e = .returned (.bool r) ∧ Drawn0 w w':=by
 have H:=h
 unfold impl_within.f at H
 clear h
 by_cases c4 : a1 ≤ a0
 ·rw [if_pos c4] at H
  have c4b0:=decide_eq_true c4
  clear c4
  obtain rfl:=Option.some.inj H
  go_enter Tryz.func119,Tryz.ntmps119
  go_wp2
  go_ret
  exact ⟨by first | rfl | (simp;done) | (simp [*];done),by repeat (first | exact Drawn0.refl _ | apply Drawn0.step)⟩
 ·rw [if_neg c4] at H
  have c4b0:=decide_eq_false c4
  clear c4
  obtain rfl:=Option.some.inj H
  go_enter Tryz.func119,Tryz.ntmps119
  go_wp2
  go_ret
  exact ⟨by first | rfl | (simp;done) | (simp [*];done),by repeat (first | exact Drawn0.refl _ | apply Drawn0.step)⟩

/-! ### impl_isLetter: function 159 -/
def impl_isLetter.f (a0 : Int) : Option (Bool):=if (Go.bits .or .u8 a0 32) ≥ 97 then (some (decide ((Go.bits .or .u8 a0 32) ≤ 122))) else (some false)
set_option maxHeartbeats 8000000 in
set_option maxRecDepth 100000 in
theorem impl_isLetter.calls (a0 : Int) (r : Bool) (w : World) (h : impl_isLetter.f a0 = some r) :
  Calls Tryz.prog 159 #[.int .u8 a0] w fun e w' => e = .returned (.bool r) ∧ Drawn0 w w':=by
 have H:=h
 unfold impl_isLetter.f at H
 clear h
 by_cases c2 : (Go.bits .or .u8 a0 32) ≥ 97
 ·rw [if_pos c2] at H
  have c2b0 : decide (97 ≤ (Go.bits .or .u8 a0 32)) = true:=decide_eq_true c2
  clear c2
  obtain rfl:=Option.some.inj H
  go_enter Tryz.func159,Tryz.ntmps159
  go_wp2
  go_ret
  exact ⟨by first | rfl | (simp;done) | (simp [*];done),by repeat (first | exact Drawn0.refl _ | apply Drawn0.step)⟩
 ·rw [if_neg c2] at H
  have c2b0 : decide (97 ≤ (Go.bits .or .u8 a0 32)) = false:=decide_eq_false c2
  clear c2
  obtain rfl:=Option.some.inj H
  go_enter Tryz.func159,Tryz.ntmps159
  go_wp2
  go_ret
  exact ⟨by first | rfl | (simp;done) | (simp [*];done),by repeat (first | exact Drawn0.refl _ | apply Drawn0.step)⟩

/-! ### impl_isDigit: function 160 -/
def impl_isDigit.f (a0 : Int) : Option (Bool):=if a0 ≥ 48 then (some (decide (a0 ≤ 57))) else (some false)
set_option maxHeartbeats 8000000 in
set_option maxRecDepth 100000 in
theorem impl_isDigit.calls (a0 : Int) (r : Bool) (w : World) (h : impl_isDigit.f a0 = some r) :
  Calls Tryz.prog 160 #[.int .u8 a0] w fun e w' => e = .returned (.bool r) ∧ Drawn0 w w':=by
 have H:=h
 unfold impl_isDigit.f at H
 clear h
 by_cases c2 : a0 ≥ 48
 ·rw [if_pos c2] at H
  have c2b0 : decide (48 ≤ a0) = true:=decide_eq_true c2
  clear c2
  obtain rfl:=Option.some.inj H
  go_enter Tryz.func160,Tryz.ntmps160
  go_wp2
  go_ret
  exact ⟨by first | rfl | (simp;done) | (simp [*];done),by repeat (first | exact Drawn0.refl _ | apply Drawn0.step)⟩
 ·rw [if_neg c2] at H
  have c2b0 : decide (48 ≤ a0) = false:=decide_eq_false c2
  clear c2
  obtain rfl:=Option.some.inj H
  go_enter Tryz.func160,Tryz.ntmps160
  go_wp2
  go_ret
  exact ⟨by first | rfl | (simp;done) | (simp [*];done),by repeat (first | exact Drawn0.refl _ | apply Drawn0.step)⟩

/-! ### strings_IndexByte: function 161 -/
def strings_IndexByte.f (a0 : ByteArray) (a1 : Int) : Option (Int):=some (Lib.indexByte a0.data.toList a1.toNat.toUInt8)
theorem strings_IndexByte.calls (a0 : ByteArray) (a1 : Int) (r : Int) (w : World) (h : strings_IndexByte.f a0 a1 = some r) :
    Calls Tryz.prog 161 #[.string a0,.int .u8 a1] w fun e w' => e = .returned (.int .i64 r) ∧ Drawn0 w w':=by
  unfold strings_IndexByte.f at h
  obtain rfl:=Option.some.inj h
  exact (Tryz.strings_IndexByte a0 a1 w).mono fun e w' hq => ⟨hq.1,by rw [hq.2];exact Drawn0.refl _⟩

/-! ### impl_isAmong: function 122 -/
def impl_isAmong.f (a0 : Int) (a1 : ByteArray) : Option (Bool):=(impl_isLetter.f a0).bind fun t307 => (if t307 = true then (some true) else ((impl_isDigit.f a0).bind fun t308 => (if t308 = true then (some true) else ((strings_IndexByte.f a1 a0).bind fun t309 => (some (decide (t309 ≥ 0)))))))
set_option maxHeartbeats 8000000 in
set_option maxRecDepth 100000 in
theorem impl_isAmong.calls (a0 : Int) (a1 : ByteArray) (r : Bool) (w : World) (h : impl_isAmong.f a0 a1 = some r) :
  Calls Tryz.prog 122 #[.int .u8 a0,.string a1] w fun e w' => e = .returned (.bool r) ∧ Drawn0 w w':=by
 have H:=h
 unfold impl_isAmong.f at H
 clear h
 replace H:=mb_ H
 obtain ⟨t307,A3,H⟩:=H
 by_cases c4 : t307 = true
 ·subst c4
  rw [if_pos rfl] at H
  obtain rfl:=Option.some.inj H
  go_enter Tryz.func122,Tryz.ntmps122
  go_wp2_with (first | ((with_reducible refine gc_ 159 ?_);refine xgl_ (some 6) Tryz.func159 #[.int .u8 a0] ?_;(with_reducible refine (impl_isLetter.calls a0 true _ A3.out).mono ?_);rintro e w' ⟨rfl,⟨nd,rfl⟩⟩;refine ⟨_,rfl,?_⟩))
  go_ret
  exact ⟨by first | rfl | (simp;done) | (simp [*];done),by repeat (first | exact Drawn0.refl _ | apply Drawn0.step)⟩
 ·replace c4:=Bool.eq_false_iff.mpr c4
  subst c4
  rw [if_neg (show ¬ (false = true) by decide)] at H
  replace H:=mb_ H
  obtain ⟨t308,A5,H⟩:=H
  by_cases c6 : t308 = true
  ·subst c6
   rw [if_pos rfl] at H
   obtain rfl:=Option.some.inj H
   go_enter Tryz.func122,Tryz.ntmps122
   go_wp2_with (first | ((with_reducible refine gc_ 159 ?_);refine xgl_ (some 6) Tryz.func159 #[.int .u8 a0] ?_;(with_reducible refine (impl_isLetter.calls a0 false _ A3.out).mono ?_);rintro e w' ⟨rfl,⟨nd,rfl⟩⟩;refine ⟨_,rfl,?_⟩) | (go_at_call 160;(with_reducible refine (impl_isDigit.calls a0 true _ A5.out).mono ?_);rintro e w' ⟨rfl,⟨nd,rfl⟩⟩))
   go_ret
   exact ⟨by first | rfl | (simp;done) | (simp [*];done),by repeat (first | exact Drawn0.refl _ | apply Drawn0.step)⟩
  ·replace c6:=Bool.eq_false_iff.mpr c6
   subst c6
   rw [if_neg (show ¬ (false = true) by decide)] at H
   replace H:=mb_ H
   obtain ⟨t309,A7,H⟩:=H
   obtain rfl:=Option.some.inj H
   go_enter Tryz.func122,Tryz.ntmps122
   go_wp2_with (first | ((with_reducible refine gc_ 159 ?_);refine xgl_ (some 6) Tryz.func159 #[.int .u8 a0] ?_;(with_reducible refine (impl_isLetter.calls a0 false _ A3.out).mono ?_);rintro e w' ⟨rfl,⟨nd,rfl⟩⟩;refine ⟨_,rfl,?_⟩) | (go_at_call 160;(with_reducible refine (impl_isDigit.calls a0 false _ A5.out).mono ?_);rintro e w' ⟨rfl,⟨nd,rfl⟩⟩) | (go_at_call 161;(with_reducible refine (strings_IndexByte.calls a1 a0 t309 _ A7.out).mono ?_);rintro e w' ⟨rfl,⟨nd,rfl⟩⟩))
   go_ret
   exact ⟨by first | rfl | (simp;done) | (simp [*];done),by repeat (first | exact Drawn0.refl _ | apply Drawn0.step)⟩

/-! ### impl_GoodUrl_1: function 121 -/
def impl_GoodUrl_1.f (a0 : Int) : Option (Bool):=(impl_isAmong.f a0 (⟨#[45,46]⟩ : ByteArray)).bind fun t310 => (some t310)
set_option maxHeartbeats 8000000 in
set_option maxRecDepth 100000 in
theorem impl_GoodUrl_1.calls (a0 : Int) (r : Bool) (w : World) (h : impl_GoodUrl_1.f a0 = some r) :
  Calls Tryz.prog 121 #[.int .u8 a0] w fun e w' => e = .returned (.bool r) ∧ Drawn0 w w':=by
 have H:=h
 unfold impl_GoodUrl_1.f at H
 clear h
 replace H:=mb_ H
 obtain ⟨t310,A2,H⟩:=H
 obtain rfl:=Option.some.inj H
 go_enter Tryz.func121,Tryz.ntmps121
 go_wp2_with (first | ((with_reducible refine gc_ 122 ?_);refine xgl_ (some 4) Tryz.func122 #[.int .u8 a0,.string (⟨#[45,46]⟩ : ByteArray)] ?_;(with_reducible refine (impl_isAmong.calls a0 (⟨#[45,46]⟩ : ByteArray) t310 _ A2.out).mono ?_);rintro e w' ⟨rfl,⟨nd,rfl⟩⟩;refine ⟨_,rfl,?_⟩))
 go_ret
 exact ⟨by first | rfl | (simp;done) | (simp [*];done),by repeat (first | exact Drawn0.refl _ | apply Drawn0.step)⟩

/-! ### stringslite_HasPrefix: function 162 -/
def stringslite_HasPrefix.f (a0 : ByteArray) (a1 : ByteArray) : Option (Bool):=if (a0.size : Int) ≥ (a1.size : Int) then (if 0 ≤ (a1.size : Int) then (if (a1.size : Int) ≤ (a0.size : Int) then (some ((a0.extract 0 ((a1.size : Int) : Int).toNat).toList == a1.toList)) else (none)) else (none)) else (some false)
set_option maxHeartbeats 8000000 in
set_option maxRecDepth 100000 in
theorem stringslite_HasPrefix.calls (a0 : ByteArray) (a1 : ByteArray) (r : Bool) (w : World) (h : stringslite_HasPrefix.f a0 a1 = some r) :
  Calls Tryz.prog 162 #[.string a0,.string a1] w fun e w' => e = .returned (.bool r) ∧ Drawn0 w w':=by
 have H:=h
 unfold stringslite_HasPrefix.f at H
 clear h
 by_cases c3 : (a0.size : Int) ≥ (a1.size : Int)
 ·rw [if_pos c3] at H
  have c3b0 : decide ((a1.size : Int) ≤ (a0.size : Int)) = true:=decide_eq_true c3
  have c3b1 : decide (a1.size ≤ a0.size) = true:=decide_eq_true (Int.ofNat_le.mp c3)
  clear c3
  replace H:=mi_ H
  obtain ⟨c4,H⟩:=H
  have c4b0:=eq_true c4
  have c4b1:=decide_eq_true c4
  clear c4
  replace H:=mi_ H
  obtain ⟨c5,H⟩:=H
  have c5b0:=eq_true c5
  have c5b1:=decide_eq_true c5
  clear c5
  obtain rfl:=Option.some.inj H
  go_enter Tryz.func162,Tryz.ntmps162
  go_wp2
  go_ret
  exact ⟨by first | rfl | (simp;done) | (simp [*];done),by repeat (first | exact Drawn0.refl _ | apply Drawn0.step)⟩
 ·rw [if_neg c3] at H
  have c3b0 : decide ((a1.size : Int) ≤ (a0.size : Int)) = false:=decide_eq_false c3
  have c3b1 : decide (a1.size ≤ a0.size) = false:=decide_eq_false (fun h => c3 (Int.ofNat_le.mpr h))
  clear c3
  obtain rfl:=Option.some.inj H
  go_enter Tryz.func162,Tryz.ntmps162
  go_wp2
  go_ret
  exact ⟨by first | rfl | (simp;done) | (simp [*];done),by repeat (first | exact Drawn0.refl _ | apply Drawn0.step)⟩

/-! ### strings_HasPrefix: function 123 -/
def strings_HasPrefix.f (a0 : ByteArray) (a1 : ByteArray) : Option (Bool):=(stringslite_HasPrefix.f a0 a1).bind fun t311 => (some t311)
set_option maxHeartbeats 8000000 in
set_option maxRecDepth 100000 in
theorem strings_HasPrefix.calls (a0 : ByteArray) (a1 : ByteArray) (r : Bool) (w : World) (h : strings_HasPrefix.f a0 a1 = some r) :
  Calls Tryz.prog 123 #[.string a0,.string a1] w fun e w' => e = .returned (.bool r) ∧ Drawn0 w w':=by
 have H:=h
 unfold strings_HasPrefix.f at H
 clear h
 replace H:=mb_ H
 obtain ⟨t311,A3,H⟩:=H
 obtain rfl:=Option.some.inj H
 go_enter Tryz.func123,Tryz.ntmps123
 go_wp2_with (first | ((with_reducible refine gc_ 162 ?_);refine xgl_ (some 7) Tryz.func162 #[.string a0,.string a1] ?_;(with_reducible refine (stringslite_HasPrefix.calls a0 a1 t311 _ A3.out).mono ?_);rintro e w' ⟨rfl,⟨nd,rfl⟩⟩;refine ⟨_,rfl,?_⟩))
 go_ret
 exact ⟨by first | rfl | (simp;done) | (simp [*];done),by repeat (first | exact Drawn0.refl _ | apply Drawn0.step)⟩

/-! ### impl_hexValue: function 170 -/
def impl_hexValue.f (a0 : Int) : Option (Int):=(impl_isDigit.f a0).bind fun t312 => (if t312 = true then (some ((a0 - 48) % 256)) else (if (Go.bits .or .u8 a0 32) ≥ 97 then (if (Go.bits .or .u8 a0 32) ≤ 102 then (some ((((Go.bits .or .u8 a0 32) - 97) % 256) + 10)) else (some (-1))) else (some (-1))))
set_option maxHeartbeats 8000000 in
set_option maxRecDepth 100000 in
theorem impl_hexValue.calls (a0 : Int) (r : Int) (w : World) (h : impl_hexValue.f a0 = some r) :
  Calls Tryz.prog 170 #[.int .u8 a0] w fun e w' => e = .returned (.int .i64 r) ∧ Drawn0 w w':=by
 have H:=h
 unfold impl_hexValue.f at H
 clear h
 replace H:=mb_ H
 obtain ⟨t312,A2,H⟩:=H
 by_cases c3 : t312 = true
 ·subst c3
  rw [if_pos rfl] at H
  obtain rfl:=Option.some.inj H
  go_enter Tryz.func170,Tryz.ntmps170
  go_wp2_with (first | ((with_reducible refine gc_ 160 ?_);refine xgl_ (some 5) Tryz.func160 #[.int .u8 a0] ?_;(with_reducible refine (impl_isDigit.calls a0 true _ A2.out).mono ?_);rintro e w' ⟨rfl,⟨nd,rfl⟩⟩;refine ⟨_,rfl,?_⟩))
  go_ret
  exact ⟨by first | rfl | (simp;done) | (simp [*];done),by repeat (first | exact Drawn0.refl _ | apply Drawn0.step)⟩
 ·replace c3:=Bool.eq_false_iff.mpr c3
  subst c3
  rw [if_neg (show ¬ (false = true) by decide)] at H
  by_cases c4 : (Go.bits .or .u8 a0 32) ≥ 97
  ·rw [if_pos c4] at H
   have c4b0 : decide (97 ≤ (Go.bits .or .u8 a0 32)) = true:=decide_eq_true c4
   clear c4
   by_cases c5 : (Go.bits .or .u8 a0 32) ≤ 102
   ·rw [if_pos c5] at H
    have c5b0:=decide_eq_true c5
    clear c5
    obtain rfl:=Option.some.inj H
    go_enter Tryz.func170,Tryz.ntmps170
    go_wp2_with (first | ((with_reducible refine gc_ 160 ?_);refine xgl_ (some 5) Tryz.func160 #[.int .u8 a0] ?_;(with_reducible refine (impl_isDigit.calls a0 false _ A2.out).mono ?_);rintro e w' ⟨rfl,⟨nd,rfl⟩⟩;refine ⟨_,rfl,?_⟩))
    go_ret
    exact ⟨by first | rfl | (simp;done) | (simp [*];done),by repeat (first | exact Drawn0.refl _ | apply Drawn0.step)⟩
   ·rw [if_neg c5] at H
    have c5b0:=decide_eq_false c5
    clear c5
    obtain rfl:=Option.some.inj H
    go_enter Tryz.func170,Tryz.ntmps170
    go_wp2_with (first | ((with_reducible refine gc_ 160 ?_);refine xgl_ (some 5) Tryz.func160 #[.int .u8 a0] ?_;(with_reducible refine (impl_isDigit.calls a0 false _ A2.out).mono ?_);rintro e w' ⟨rfl,⟨nd,rfl⟩⟩;refine ⟨_,rfl,?_⟩))
    go_ret
    exact ⟨by first | rfl | (simp;done) | (simp [*];done),by repeat (first | exact Drawn0.refl _ | apply Drawn0.step)⟩
  ·rw [if_neg c4] at H
   have c4b0 : decide (97 ≤ (Go.bits .or .u8 a0 32)) = false:=decide_eq_false c4
   clear c4
   obtain rfl:=Option.some.inj H
   go_enter Tryz.func170,Tryz.ntmps170
   go_wp2_with (first | ((with_reducible refine gc_ 160 ?_);refine xgl_ (some 5) Tryz.func160 #[.int .u8 a0] ?_;(with_reducible refine (impl_isDigit.calls a0 false _ A2.out).mono ?_);rintro e w' ⟨rfl,⟨nd,rfl⟩⟩;refine ⟨_,rfl,?_⟩))
   go_ret
   exact ⟨by first | rfl | (simp;done) | (simp [*];done),by repeat (first | exact Drawn0.refl _ | apply Drawn0.step)⟩

end Go.Proofs.YtpggepjfhgalkaaGreatDoor.PFnExactKeyOf
