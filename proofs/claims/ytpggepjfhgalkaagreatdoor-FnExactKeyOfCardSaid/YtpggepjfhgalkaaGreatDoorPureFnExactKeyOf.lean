/- The program's KeyOf returns what the reference's returns, for all arguments; it leaves its arguments as they were. No conditions. -/
import Derived.Test.YtpggepjfhgalkaaGreatDoorPFnExactKeyOfx27
set_option linter.unusedVariables false
set_option linter.unusedSimpArgs false
namespace Go.Proofs.YtpggepjfhgalkaaGreatDoor.Pure
open Go.RowKit Go.Proofs.YtpggepjfhgalkaaGreatDoor.PFnExactKeyOf Go.Proofs.YtpggepjfhgalkaaGreatDoorW.PrintWords Go.Proofs.YtpggepjfhgalkaaGreatDoorW.PrintLast
theorem w64 {x : Int} (h : -9223372036854775808 ≤ x) (h2 : x < 9223372036854775808) : wrap64 x = x:=by unfold wrap64;omega
theorem succ_cast (n : Nat) : ((n : Int) + 1) = ((n + 1 : Nat) : Int):=by omega
theorem mono_le {α : Type} (F : Nat → Option α) (h : ∀ k,LeO (F k) (F (k + 1))) (a b : Nat) (hab : a ≤ b) (r : α) (e : F a = some r) : F b = some r:=by
 obtain ⟨d,rfl⟩:=Nat.le.dest hab
 clear hab
 induction d with
 | zero => exact e
 | succ d ih => exact h (a + d) r ih
abbrev tx (l : List UInt8) : ByteArray:=⟨l.toArray⟩
theorem tx_size (l : List UInt8) : (tx l).size = l.length:=by simp [ByteArray.size]
theorem tx_data (s : ByteArray) : tx s.data.toList = s:=rfl
theorem tx_list (l : List UInt8) : (tx l).data.toList = l:=rfl
theorem tx_app (a b : List UInt8) : tx a ++ tx b = tx (a ++ b):=by
 apply ByteArray.ext
 simp [tx]
theorem tx_cut (T : List UInt8) (a b : Nat) : (tx T).extract a b = tx ((T.drop a).take (b - a)):=by
 apply ByteArray.ext
 apply Array.toList_inj.mp
 simp [tx]
theorem tx_toList (l : List UInt8) : (tx l).toList = l:=by rw [ByteArray.toList_eq]
theorem bt_tx (T : List UInt8) (i : Nat) (h : i < T.length) : bt (tx T) (i : Int) = (T[i].toNat : Int):=by
 have h1 : ((i : Int)).toNat < (tx T).size:=by rw [tx_size];omega
 unfold bt
 rw [dif_pos h1]
 simp [tx,ByteArray.getElem_eq_getElem_data]
theorem bt_at (pre rest : List UInt8) (b : UInt8) : bt (tx (pre ++ b :: rest)) (pre.length : Int) = (b.toNat : Int):=by
 rw [bt_tx _ pre.length (by simp)]
 simp
theorem index_none (c : UInt8) : ∀ l : List UInt8,c ∉ l → Lib.index l [c] = -1
 | [],_ => rfl
 | b :: l,h => by
  have hb : (c == b) = false:=beq_eq_false_iff_ne.mpr fun e => h (e ▸ List.mem_cons_self ..)
  have ih:=index_none c l fun hh => h (List.mem_cons_of_mem _ hh)
  unfold Lib.index
  rw [ih]
  simp [List.isPrefixOf,hb]
theorem index_at (c : UInt8) (r : List UInt8) : ∀ l : List UInt8,c ∉ l → Lib.index (l ++ c :: r) [c] = (l.length : Int)
 | [],_ => by simp [Lib.index,List.isPrefixOf]
 | b :: l,h => by
  have hb : (c == b) = false:=beq_eq_false_iff_ne.mpr fun e => h (e ▸ List.mem_cons_self ..)
  have ih:=index_at c r l fun hh => h (List.mem_cons_of_mem _ hh)
  show Lib.index (b :: (l ++ c :: r)) [c] = _
  unfold Lib.index
  rw [ih]
  have : ((l.length : Int) == -1) = false:=beq_eq_false_iff_ne.mpr (by omega)
  simp [List.isPrefixOf,hb,this]
theorem cut_none (c : UInt8) (l : List UInt8) (h : c ∉ l) : Lib.cut l [c] = (l,[],false):=by
 unfold Lib.cut
 rw [index_none c l h];rfl
theorem cut_at (c : UInt8) (l r : List UInt8) (h : c ∉ l) : Lib.cut (l ++ c :: r) [c] = (l,r,true):=by
 unfold Lib.cut
 rw [index_at c r l h,if_pos (by omega),Int.toNat_natCast,List.take_left]
 have : l.length + [c].length = (l ++ [c]).length:=by simp
 rw [this,show l ++ c :: r = (l ++ [c]) ++ r by simp,List.drop_left]
theorem cut_http (r : List UInt8) : Lib.cut ([104,116,116,112] ++ ([58,47,47] ++ r)) [58,47,47] = ([104,116,116,112],r,true):=by
 simp [Lib.cut,Lib.index,List.isPrefixOf]
theorem cut_https (r : List UInt8) : Lib.cut ([104,116,116,112,115] ++ ([58,47,47] ++ r)) [58,47,47] = ([104,116,116,112,115],r,true):=by
 simp [Lib.cut,Lib.index,List.isPrefixOf]
theorem decFrom_app : ∀ (l r : List UInt8) (a : Nat),Lib.decFrom a (l ++ r) = (Lib.decFrom a l).bind fun b => Lib.decFrom b r
 | [],_,_ => rfl
 | x :: l,r,a => by
  show (match Lib.digitVal x with | some d => Lib.decFrom (a * 10 + d) (l ++ r) | none => none) = (match Lib.digitVal x with | some d => Lib.decFrom (a * 10 + d) l | none => none).bind _
  cases Lib.digitVal x with
  | none => rfl
  | some d => exact decFrom_app l r _
theorem u8of (d : Nat) (h : d < 10) : (UInt8.ofNat (48 + d)).toNat = 48 + d:=by rw [UInt8.toNat_ofNat'];omega
theorem dig_val (d : Nat) (h : d < 10) : Lib.digitVal (UInt8.ofNat (48 + d)) = some d:=by
 unfold Lib.digitVal
 rw [u8of d h,if_pos (by omega)]
 congr 1;omega
theorem dec_back (u : Nat) : Lib.decFrom 0 (Lib.decDigits u) = some u:=by
 induction u using Nat.strongRecOn with
 | ind u ih =>
  unfold Lib.decDigits
  by_cases h : u < 10
  ·rw [dif_pos h]
   show (match Lib.digitVal (UInt8.ofNat (48 + u)) with | some d => Lib.decFrom (0 * 10 + d) [] | none => none) = _
   rw [dig_val u h]
   show some (0 * 10 + u) = _
   congr 1;omega
  ·rw [dif_neg h,decFrom_app,ih (u / 10) (by omega),Option.bind_some]
   show (match Lib.digitVal (UInt8.ofNat (48 + u % 10)) with | some d => Lib.decFrom (u / 10 * 10 + d) [] | none => none) = _
   rw [dig_val _ (by omega)]
   show some (u / 10 * 10 + u % 10) = _
   congr 1;omega
theorem dec_digs (u : Nat) : ∀ b ∈ Lib.decDigits u,48 ≤ b.toNat ∧ b.toNat ≤ 57:=by
 induction u using Nat.strongRecOn with
 | ind u ih =>
  intro b hb
  unfold Lib.decDigits at hb
  by_cases h : u < 10
  ·rw [dif_pos h] at hb
   rw [List.mem_singleton.mp hb,u8of u h];omega
  ·rw [dif_neg h] at hb
   rcases List.mem_append.mp hb with h1 | h1
   ·exact ih (u / 10) (by omega) b h1
   ·rw [List.mem_singleton.mp h1,u8of _ (by omega)];omega
theorem dec_len (u : Nat) : ∀ n,u < 10 ^ (n + 1) → (Lib.decDigits u).length ≤ n + 1:=by
 induction u using Nat.strongRecOn with
 | ind u ih =>
  intro n hn
  unfold Lib.decDigits
  by_cases h : u < 10
  ·rw [dif_pos h];simp
  ·rw [dif_neg h,List.length_append]
   cases n with
   | zero => omega
   | succ m =>
    have:=ih (u / 10) (by omega) m (by rw [Nat.pow_succ] at hn;omega)
    simp;omega
theorem dec_ne (u : Nat) : Lib.decDigits u ≠ []:=by
 unfold Lib.decDigits
 split <;> simp
abbrev bl (i : Nat) : List UInt8:=List.replicate i 32
theorem bl_succ (i : Nat) : bl (i + 1) = 32 :: bl i:=rfl
theorem bl_end (i : Nat) : bl (i + 1) = bl i ++ [32]:=List.replicate_succ'
def Core (c : List UInt8) : Prop:=(∀ b r,c = b :: r → b ≠ 32) ∧ (∀ r b,c = r ++ [b] → b ≠ 32)
theorem core_ex (l : List UInt8) : ∃ i c j,l = bl i ++ c ++ bl j ∧ Core c ∧ (c = [] → j = 0):=by
 have left : ∀ l : List UInt8,∃ i c,l = bl i ++ c ∧ (∀ b r,c = b :: r → b ≠ 32):=by
  intro l
  induction l with
  | nil => exact ⟨0,[],rfl,fun b r h => by cases h⟩
  | cons x l ih =>
   by_cases h : x = 32
   ·obtain ⟨i,c,h1,h2⟩:=ih
    exact ⟨i + 1,c,by rw [h,h1];rfl,h2⟩
   ·exact ⟨0,x :: l,rfl,fun b r hb => by rw [← (List.cons.inj hb).1];exact h⟩
 have right : ∀ c : List UInt8,(∀ b r,c = b :: r → b ≠ 32) → ∃ d j,c = d ++ bl j ∧ Core d ∧ (d = [] → j = 0):=by
  intro c
  have key : ∀ (n : Nat) (c : List UInt8),c.length = n → (∀ b r,c = b :: r → b ≠ 32) → ∃ d j,c = d ++ bl j ∧ Core d ∧ (d = [] → j = 0):=by
   intro n
   induction n with
   | zero =>
    intro c hc hb
    have : c = []:=List.eq_nil_of_length_eq_zero hc
    subst this
    exact ⟨[],0,rfl,⟨hb,fun r b h => by simp at h⟩,fun _ => rfl⟩
   | succ n ih =>
    intro c hc hb
    rcases List.eq_nil_or_concat c with h | ⟨L,x,h⟩
    ·rw [h] at hc;cases hc
    ·rw [List.concat_eq_append] at h
     by_cases hx : x = 32
     ·have hL : ∀ b r,L = b :: r → b ≠ 32:=fun b r hbr => hb b (r ++ [x]) (by rw [h,hbr];rfl)
      obtain ⟨d,j,h1,h2,h3⟩:=ih L (by rw [h,List.length_append,List.length_singleton] at hc;omega) hL
      by_cases hd : d = []
      ·exfalso
       have hj:=h3 hd
       rw [hd,hj] at h1
       have hc1 : c = [x]:=by rw [h,h1];rfl
       exact hb x [] hc1 hx
      ·exact ⟨d,j + 1,by rw [h,h1,hx,List.append_assoc,← bl_end],h2,fun hh => absurd hh hd⟩
     ·refine ⟨c,0,by simp,⟨hb,fun r b hr => ?_⟩,fun _ => rfl⟩
      rw [h] at hr
      have:=List.append_inj_right' hr rfl
      rw [← (List.cons.inj this).1];exact hx
  exact key c.length c rfl
 obtain ⟨i,c,h1,h2⟩:=left l
 obtain ⟨d,j,h3,h4,h5⟩:=right c h2
 exact ⟨i,d,j,by rw [h1,h3,List.append_assoc],h4,h5⟩
theorem last_bt (T : List UInt8) (b : UInt8) (h : T.length ≤ 1000000000) : bt (tx (T ++ [b])) (wrap64 (((tx (T ++ [b])).size : Int) - 1)) = (b.toNat : Int) ∧ wrap64 (((tx (T ++ [b])).size : Int) - 1) = (T.length : Int) ∧ ((tx (T ++ [b])).size : Int) = (T.length : Int) + 1:=by
 have hs : ((tx (T ++ [b])).size : Int) = (T.length : Int) + 1:=by rw [tx_size];simp
 have hw : wrap64 ((T.length : Int) + 1 - 1) = (T.length : Int):=by rw [w64 (by omega) (by omega)];omega
 rw [hs,hw]
 exact ⟨bt_at T [] b,rfl,rfl⟩
theorem cut_last (T : List UInt8) (b : UInt8) : (tx (T ++ [b])).extract 0 (T.length : Int).toNat = tx T:=by
 rw [tx_cut,List.drop_zero,Int.toNat_natCast,Nat.sub_zero,List.take_left]
theorem cut_first (b : UInt8) (T : List UInt8) : (tx (b :: T)).extract 1 (tx (b :: T)).size = tx T:=by
 rw [tx_cut,tx_size]
 show tx (T.take ((b :: T).length - 1)) = _
 rw [List.take_of_length_le (by simp)]
theorem n32 (b : UInt8) (h : b ≠ 32) : ¬ (b.toNat : Int) = 32:=fun hh => h (UInt8.toNat_inj.mp (by show b.toNat = 32;omega))
theorem trimR_I (A : List UInt8) (hA : ∀ r b,A = r ++ [b] → b ≠ 32) : ∀ (j K : Nat),(A ++ bl j).length ≤ 1000000000 → j < K → strings_trimRightByte.l0 K (tx (A ++ bl j)) 32 = some (tx A)
 | j,0,_,h => absurd h (by omega)
 | 0,K + 1,hl,h => by
  have e : A ++ bl 0 = A:=by simp
  rw [e] at hl ⊢
  unfold strings_trimRightByte.l0
  rcases List.eq_nil_or_concat A with h0 | ⟨T,b,h0⟩
  ·rw [h0,if_neg (by decide)]
  ·rw [List.concat_eq_append] at h0
   have hb:=hA T b h0
   subst h0
   have hT : T.length ≤ 1000000000:=by rw [List.length_append] at hl;omega
   obtain ⟨g1,g2,g3⟩:=last_bt T b hT
   rw [g1,g2,g3,if_pos (by omega),if_pos (by omega),if_pos (by omega),if_neg (n32 b hb)]
 | j + 1,K + 1,hl,h => by
  have e : A ++ bl (j + 1) = (A ++ bl j) ++ [32]:=by rw [bl_end,List.append_assoc]
  rw [e] at hl ⊢
  have hT : (A ++ bl j).length ≤ 1000000000:=by rw [@List.length_append _ (A ++ bl j) _] at hl;omega
  obtain ⟨g1,g2,g3⟩:=last_bt (A ++ bl j) 32 hT
  unfold strings_trimRightByte.l0
  rw [g1,g2,g3,if_pos (by omega),if_pos (by omega),if_pos (by omega),if_pos (by rfl),if_pos (by omega),cut_last]
  exact trimR_I A hA j K hT (by omega)
theorem trimL_I (A : List UInt8) (hA : ∀ b r,A = b :: r → b ≠ 32) : ∀ (i K : Nat),i < K → strings_trimLeftByte.l0 K (tx (bl i ++ A)) 32 = some (tx A)
 | i,0,h => absurd h (by omega)
 | 0,K + 1,h => by
  have e : bl 0 ++ A = A:=rfl
  rw [e]
  unfold strings_trimLeftByte.l0
  cases A with
  | nil => rw [if_neg (by decide)]
  | cons b r =>
   have e0 : bt (tx (b :: r)) 0 = (b.toNat : Int):=bt_tx (b :: r) 0 (by simp)
   have hs : ((tx (b :: r)).size : Int) = (r.length : Int) + 1:=by rw [tx_size];simp
   rw [e0,hs,if_pos (by omega),if_pos (by omega),if_neg (n32 b (hA b r rfl))]
 | i + 1,K + 1,h => by
  have e : bl (i + 1) ++ A = 32 :: (bl i ++ A):=rfl
  rw [e]
  have e0 : bt (tx (32 :: (bl i ++ A))) 0 = 32:=bt_tx (32 :: (bl i ++ A)) 0 (by simp)
  have hs : ((tx (32 :: (bl i ++ A))).size : Int) = ((bl i ++ A).length : Int) + 1:=by rw [tx_size];simp
  have hc:=cut_first 32 (bl i ++ A)
  unfold strings_trimLeftByte.l0
  rw [hc,e0,hs,if_pos (by omega),if_pos (by omega),if_pos rfl,if_pos (by omega)]
  exact trimL_I A hA i K (by omega)
theorem trim_I (i j K : Nat) (c : List UInt8) (hc : Core c) (hl : (bl i ++ c ++ bl j).length ≤ 1000000000) (hj : c = [] → j = 0) (hK : i + j + 3 ≤ K) : strings_Trim.f K (tx (bl i ++ c ++ bl j)) (⟨#[32]⟩ : ByteArray) = some (tx c):=by
 obtain ⟨m,rfl⟩ : ∃ m,K = m + 2:=⟨K - 2,by omega⟩
 have e32 : (⟨#[32]⟩ : ByteArray) = tx [32]:=rfl
 have b32 : bt (tx [32]) 0 = 32:=bt_tx [32] 0 (by simp)
 have s32 : ((tx [32]).size : Int) = 1:=rfl
 unfold strings_Trim.f
 rw [e32,tx_toList,tx_toList]
 by_cases c0 : bl i ++ c ++ bl j = []
 ·have hc0 : c = []:=by
   have:=List.append_eq_nil_iff.mp c0
   exact (List.append_eq_nil_iff.mp this.1).2
  rw [if_pos c0]
  unfold strings_Trim.j0
  dsimp only
  rw [if_pos rfl,c0,hc0]
 ·rw [if_neg c0]
  unfold strings_Trim.j0
  dsimp only
  rw [if_neg (by decide),s32,b32,if_pos rfl,if_pos (by decide)]
  unfold strings_Trim.j1 strings_trimRightByte.f strings_trimLeftByte.f
  dsimp only
  have hA : ∀ r b,bl i ++ c = r ++ [b] → c ≠ [] → b ≠ 32:=fun r b h hn => by
   rcases List.eq_nil_or_concat c with h0 | ⟨T,x,h0⟩
   ·exact absurd h0 hn
   ·rw [List.concat_eq_append] at h0
    rw [h0,← List.append_assoc] at h
    have:=List.append_inj_right' h rfl
    rw [← (List.cons.inj this).1]
    exact hc.2 T x h0
  rw [if_pos (by decide),s32,if_pos (by decide),b32]
  by_cases hn : c = []
  ·have hj0:=hj hn
   subst hn
   subst hj0
   have e0 : bl i ++ [] ++ bl 0 = [] ++ bl i:=by simp
   rw [e0]
   rw [trimR_I [] (fun r b h => by simp at h) i m (by rw [e0] at hl;exact hl) (by omega),Option.bind_some]
   have e1:=trimL_I [] (fun b r h => by cases h) 0 m (by omega)
   have e2 : bl 0 ++ [] = ([] : List UInt8):=rfl
   rw [e2] at e1
   rw [e1];rfl
  ·rw [trimR_I (bl i ++ c) (fun r b h => hA r b h hn) j m hl (by omega),Option.bind_some,trimL_I c hc.1 i m (by omega)];rfl
theorem trimS_r (c : List UInt8) (hc : Core c) : ∀ (j K : Nat),(c ++ bl j).length ≤ 1000000000 → j < K → spec_l3Trim.l1 K (tx (c ++ bl j)) = some (tx c)
 | j,0,_,h => absurd h (by omega)
 | 0,K + 1,hl,h => by
  have e : c ++ bl 0 = c:=by simp
  rw [e] at hl ⊢
  unfold spec_l3Trim.l1
  rcases List.eq_nil_or_concat c with h0 | ⟨T,b,h0⟩
  ·rw [h0,if_neg (by decide)]
  ·rw [List.concat_eq_append] at h0
   have hb:=hc.2 T b h0
   subst h0
   have hT : T.length ≤ 1000000000:=by rw [List.length_append] at hl;omega
   obtain ⟨g1,g2,g3⟩:=last_bt T b hT
   rw [g1,g2,g3,if_pos (by omega),if_pos (by omega),if_pos (by omega),if_neg (n32 b hb)]
 | j + 1,K + 1,hl,h => by
  have e : c ++ bl (j + 1) = (c ++ bl j) ++ [32]:=by rw [bl_end,List.append_assoc]
  rw [e] at hl ⊢
  have hT : (c ++ bl j).length ≤ 1000000000:=by rw [@List.length_append _ (c ++ bl j) _] at hl;omega
  obtain ⟨g1,g2,g3⟩:=last_bt (c ++ bl j) 32 hT
  unfold spec_l3Trim.l1
  rw [g1,g2,g3,if_pos (by omega),if_pos (by omega),if_pos (by omega),if_pos (by rfl),if_pos (by omega),cut_last]
  exact trimS_r c hc j K hT (by omega)
theorem trim_S (c : List UInt8) (hc : Core c) (j : Nat) (hj : c = [] → j = 0) : ∀ (i K : Nat),(bl i ++ c ++ bl j).length ≤ 1000000000 → i + j + 3 ≤ K → spec_l3Trim.l0 K (tx (bl i ++ c ++ bl j)) = some (tx c)
 | i,0,_,h => absurd h (by omega)
 | 0,K + 1,hl,h => by
  have e : bl 0 ++ c ++ bl j = c ++ bl j:=rfl
  rw [e] at hl ⊢
  obtain ⟨m,rfl⟩ : ∃ m,K = m + 1:=⟨K - 1,by omega⟩
  have fin : spec_l3Trim.j1 (m + 1) (tx (c ++ bl j)) = some (tx c):=by
   unfold spec_l3Trim.j1
   dsimp only
   exact trimS_r c hc j m hl (by omega)
  unfold spec_l3Trim.l0
  cases c with
  | nil =>
   have:=hj rfl
   subst this
   rw [if_neg (by decide)]
   exact fin
  | cons b r =>
   have e0 : bt (tx (b :: r ++ bl j)) 0 = (b.toNat : Int):=bt_tx (b :: r ++ bl j) 0 (by simp)
   have hs : ((tx (b :: r ++ bl j)).size : Int) = ((r ++ bl j).length : Int) + 1:=by rw [tx_size];simp
   rw [e0,hs,if_pos (by omega),if_pos (by omega),if_neg (n32 b (hc.1 b r rfl))]
   exact fin
 | i + 1,K + 1,hl,h => by
  have e : bl (i + 1) ++ c ++ bl j = 32 :: (bl i ++ c ++ bl j):=rfl
  rw [e] at hl ⊢
  have e0 : bt (tx (32 :: (bl i ++ c ++ bl j))) 0 = 32:=bt_tx (32 :: (bl i ++ c ++ bl j)) 0 (by simp)
  have hs : ((tx (32 :: (bl i ++ c ++ bl j))).size : Int) = ((bl i ++ c ++ bl j).length : Int) + 1:=by rw [tx_size];simp
  have hcf:=cut_first 32 (bl i ++ c ++ bl j)
  unfold spec_l3Trim.l0
  rw [hcf,e0,hs,if_pos (by omega),if_pos (by omega),if_pos rfl,if_pos (by omega)]
  exact trim_S c hc j hj i K (by rw [List.length_cons] at hl;omega) (by omega)
noncomputable def trimB (l : List UInt8) : List UInt8:=(core_ex l).choose_spec.choose
theorem trimB_form (l : List UInt8) : ∃ i j,l = bl i ++ trimB l ++ bl j ∧ Core (trimB l) ∧ (trimB l = [] → j = 0) :=
 ⟨(core_ex l).choose,(core_ex l).choose_spec.choose_spec.choose,(core_ex l).choose_spec.choose_spec.choose_spec⟩
theorem form_len (i j : Nat) (c : List UInt8) : (bl i ++ c ++ bl j).length = i + c.length + j:=by simp;omega
theorem trimI (K : Nat) (l : List UInt8) (hl : l.length ≤ 1000000000) (hK : l.length + 3 ≤ K) : strings_Trim.f K (tx l) (⟨#[32]⟩ : ByteArray) = some (tx (trimB l)):=by
 obtain ⟨i,j,h1,h2,h3⟩:=trimB_form l
 have hn : l.length = i + (trimB l).length + j:=by
  have:=form_len i j (trimB l)
  rw [← h1] at this;exact this
 have:=trim_I i j K (trimB l) h2 (by rw [← h1];exact hl) h3 (by omega)
 rw [← h1] at this
 exact this
theorem trimS (K : Nat) (l : List UInt8) (hl : l.length ≤ 1000000000) (hK : l.length + 3 ≤ K) : spec_l3Trim.f K (tx l) = some (tx (trimB l)):=by
 obtain ⟨i,j,h1,h2,h3⟩:=trimB_form l
 have hn : l.length = i + (trimB l).length + j:=by
  have:=form_len i j (trimB l)
  rw [← h1] at this;exact this
 have:=trim_S (trimB l) h2 j h3 i K (by rw [← h1];exact hl) (by omega)
 rw [← h1] at this
 exact this
theorem trimB_len (l : List UInt8) : (trimB l).length ≤ l.length:=by
 obtain ⟨i,j,h1,_,_⟩:=trimB_form l
 have:=form_len i j (trimB l)
 rw [← h1] at this;omega
noncomputable def addP (cur : List UInt8) : List (List UInt8):=if trimB cur = [] then [] else [trimB cur]
theorem lenI (A : List UInt8) (b : UInt8) : (((A ++ [b]).length : Nat) : Int) = (A.length : Int) + 1:=by simp
theorem mid_cut (pre cur M : List UInt8) : (tx (pre ++ cur ++ M)).extract (pre.length : Int).toNat ((pre ++ cur).length : Int).toNat = tx cur:=by
 rw [tx_cut,Int.toNat_natCast,Int.toNat_natCast,List.append_assoc,List.drop_left]
 have : (pre ++ cur).length - pre.length = cur.length:=by rw [List.length_append];omega
 rw [this,List.take_left]
theorem ar1 (q n : Nat) (h : q < n) : (q : Int) ≤ (n : Int) ∧ ¬ (q : Int) = (n : Int) ∧ (0 : Int) ≤ (q : Int) ∧ (q : Int) < (n : Int):=by omega
theorem ar2 (p q : Nat) (h : p ≤ q) : (0 : Int) ≤ (p : Int) ∧ (p : Int) ≤ (q : Int):=by omega
theorem ar3 (q : Nat) : ¬ (q : Int) + 1 ≤ (q : Int):=by omega
theorem ar4 (q n : Nat) (h : q ≤ n) (h2 : n ≤ 100000000) : wrap64 ((q : Int) + 1) = (q : Int) + 1:=w64 (by omega) (by omega)
theorem ar5 (a n k : Nat) (hn : n ≤ 100000000) (ha : a ≤ n) : a ≤ 1000000000:=by omega
theorem ar6 (m n a k : Nat) (h : 3 * m + n + 20 ≤ k + 3) (ha : a ≤ n) : a + 3 ≤ k + 1:=by omega
theorem mapRoom (O : List (List UInt8)) (n : Nat) (h : O.length ≤ n) (hn : n ≤ 100000000) : (O.map tx).length < 8796093022208:=by rw [List.length_map];omega
theorem leA (A B : List UInt8) : A.length ≤ (A ++ B).length ∧ B.length ≤ (A ++ B).length:=by rw [List.length_append];omega
theorem ltA (A : List UInt8) (b : UInt8) (M : List UInt8) : A.length < (A ++ b :: M).length:=by rw [List.length_append,List.length_cons];omega
theorem nbv (b v : UInt8) (h : b ≠ v) : ¬ (b.toNat : Int) = (v.toNat : Int):=fun hh => h (UInt8.toNat_inj.mp (by omega))
def nx (q : Nat) (b : UInt8) : Nat:=if q = 0 then (if b = 34 then 1 else 0) else if q = 1 then (if b = 34 then 0 else if b = 92 then 2 else 1) else 1
def pr : Nat → List UInt8 → Option Nat
 | q,[] => some q
 | q,b :: T => if q = 0 ∧ b = 44 then none else pr (nx q b) T
noncomputable def lq (cur : List UInt8) (q : Nat) : List UInt8 → Option (List (List UInt8))
 | [] => if q = 0 then some (addP cur) else none
 | b :: M => if q = 0 ∧ b = 44 then (lq [] 0 M).map (addP cur ++ ·) else lq (cur ++ [b]) (nx q b) M
theorem lq_nil (cur : List UInt8) (q : Nat) : lq cur q [] = (if q = 0 then some (addP cur) else none):=by unfold lq;rfl
theorem lq_cons (cur : List UInt8) (q : Nat) (b : UInt8) (M : List UInt8) : lq cur q (b :: M) = (if q = 0 ∧ b = 44 then (lq [] 0 M).map (addP cur ++ ·) else lq (cur ++ [b]) (nx q b) M):=by rw [lq]
theorem pr_cons (q : Nat) (b : UInt8) (T : List UInt8) : pr q (b :: T) = (if q = 0 ∧ b = 44 then none else pr (nx q b) T):=rfl
theorem pr_app : ∀ (A B : List UInt8) (q : Nat),pr q (A ++ B) = (pr q A).bind (fun q2 => pr q2 B)
 | [],B,q => rfl
 | b :: A,B,q => by
  rw [List.cons_append,pr_cons,pr_cons]
  split
  ·rfl
  ·exact pr_app A B (nx q b)
theorem pr_bl0 : ∀ i : Nat,pr 0 (bl i) = some 0
 | 0 => rfl
 | i + 1 => by
  rw [bl_succ,pr_cons,if_neg (by decide)]
  exact pr_bl0 i
theorem pr_bl1 : ∀ i : Nat,pr 1 (bl i) = some 1
 | 0 => rfl
 | i + 1 => by
  rw [bl_succ,pr_cons,if_neg (by decide)]
  exact pr_bl1 i
theorem pr_bl (q j : Nat) (h : pr q (bl j) = some 0) : q = 0:=by
 match j with
 | 0 => exact Option.some.inj h
 | j + 1 =>
  by_cases c : q = 0
  ·exact c
  ·have e : nx q 32 = 1:=by unfold nx;rw [if_neg c];split <;> rfl
   rw [bl_succ,pr_cons,if_neg (fun hh => c hh.1),e,pr_bl1] at h
   cases h
theorem pr_trim (cur : List UInt8) (h : pr 0 cur = some 0) : pr 0 (trimB cur) = some 0:=by
 obtain ⟨i,j,e,_,_⟩:=trimB_form cur
 rw [e,pr_app,pr_app,pr_bl0,Option.bind_some] at h
 cases h2 : pr 0 (trimB cur) with
 | none => rw [h2] at h;cases h
 | some q =>
  rw [h2,Option.bind_some] at h
  rw [pr_bl q j h]
theorem core_trim (c : List UInt8) (h : Core c) : trimB c = c:=by
 obtain ⟨i,j,e,_,h3⟩:=trimB_form c
 cases i with
 | succ i => exact absurd rfl (h.1 32 (bl i ++ trimB c ++ bl j) e)
 | zero =>
  cases j with
  | succ j => exact absurd rfl (h.2 (trimB c ++ bl j) 32 (e.trans (by rw [bl_end];simp)))
  | zero => exact (e.trans (by simp)).symm
def Pt (T : List UInt8) : Prop:=pr 0 T = some 0 ∧ T ≠ [] ∧ Core T
theorem addP_pt (cur : List UInt8) (h : pr 0 cur = some 0) : ∀ T ∈ addP cur,Pt T:=by
 intro T hT
 unfold addP at hT
 split at hT
 ·cases hT
 ·rename_i c
  rw [List.mem_singleton.mp hT]
  obtain ⟨i,j,_,hc,_⟩:=trimB_form cur
  exact ⟨pr_trim cur h,c,hc⟩
theorem lq_parts : ∀ (M cur : List UInt8) (q : Nat) (L : List (List UInt8)),pr 0 cur = some q → lq cur q M = some L → ∀ T ∈ L,Pt T
 | [],cur,q,L,hq,h => by
  rw [lq_nil] at h
  by_cases c : q = 0
  ·rw [if_pos c] at h
   cases h
   exact addP_pt cur (c ▸ hq)
  ·rw [if_neg c] at h;cases h
 | b :: M,cur,q,L,hq,h => by
  rw [lq_cons] at h
  by_cases c : q = 0 ∧ b = 44
  ·rw [if_pos c] at h
   obtain ⟨L2,h2,e⟩:=Option.map_eq_some_iff.mp h
   have ih:=lq_parts M [] 0 L2 rfl h2
   have ha:=addP_pt cur (c.1 ▸ hq)
   intro T hT
   rw [← e] at hT
   rcases List.mem_append.mp hT with hT | hT
   ·exact ha T hT
   ·exact ih T hT
  ·rw [if_neg c] at h
   refine lq_parts M (cur ++ [b]) (nx q b) L ?_ h
   rw [pr_app,hq,Option.bind_some,pr_cons,if_neg c];rfl
def lenS (L : List (List UInt8)) : Nat:=(L.map (fun T => T.length + 1)).foldr (· + ·) 0
theorem lenS_cons (T : List UInt8) (L : List (List UInt8)) : lenS (T :: L) = T.length + 1 + lenS L:=rfl
theorem lenS_app : ∀ (A B : List (List UInt8)),lenS (A ++ B) = lenS A + lenS B
 | [],B => by show lenS B = 0 + lenS B;omega
 | T :: A,B => by rw [List.cons_append,lenS_cons,lenS_cons,lenS_app A B];omega
theorem lenS_addP (cur : List UInt8) : lenS (addP cur) ≤ cur.length + 1:=by
 unfold addP
 split
 ·exact Nat.zero_le _
 ·show (trimB cur).length + 1 + 0 ≤ _
  have:=trimB_len cur
  omega
theorem lq_len : ∀ (M cur : List UInt8) (q : Nat) (L : List (List UInt8)),lq cur q M = some L → lenS L ≤ cur.length + M.length + 1
 | [],cur,q,L,h => by
  rw [lq_nil] at h
  split at h
  ·cases h
   exact lenS_addP cur
  ·cases h
 | b :: M,cur,q,L,h => by
  rw [lq_cons] at h
  by_cases c : q = 0 ∧ b = 44
  ·rw [if_pos c] at h
   obtain ⟨L2,h2,e⟩:=Option.map_eq_some_iff.mp h
   have ih:=lq_len M [] 0 L2 h2
   have ha:=lenS_addP cur
   rw [List.length_nil] at ih
   rw [← e,lenS_app,List.length_cons]
   omega
  ·rw [if_neg c] at h
   have ih:=lq_len M (cur ++ [b]) (nx q b) L h
   rw [List.length_append,List.length_singleton] at ih
   rw [List.length_cons]
   omega
def Res (O : List (List UInt8)) (r : Option (List (List UInt8))) (v : Option (List ByteArray × Bool)) : Prop :=
 match r with
 | some L => v = some ((O ++ L).map tx,true)
 | none => ∃ X,v = some (X,false)
theorem res_add (O A : List (List UInt8)) (r : Option (List (List UInt8))) (v : Option (List ByteArray × Bool)) (h : Res (O ++ A) r v) : Res O (r.map (A ++ ·)) v:=by
 cases r with
 | none => exact h
 | some L =>
  have h2 : v = some ((O ++ A ++ L).map tx,true):=h
  show v = some ((O ++ (A ++ L)).map tx,true)
  rw [h2,List.append_assoc]
theorem br7 (m n k : Nat) (h : 4 * (m + 1) + n + 20 ≤ k + 4) : 4 * m + n + 20 ≤ k + 2 ∧ 4 * m + n + 20 ≤ k ∧ 4 * m + n + 20 ≤ k + 1:=by omega
theorem len2' (A : List UInt8) (b c : UInt8) : (((A ++ [b,c]).length : Nat) : Int) = (A.length : Int) + 1 + 1:=by rw [List.length_append,List.length_cons,List.length_cons,List.length_nil];omega
theorem ar4' (q n : Nat) (h : q ≤ n) (h2 : n ≤ 100000000) : wrap64 (wrap64 ((q : Int) + 1) + 1) = (q : Int) + 1 + 1:=by rw [w64 (x:=(q : Int) + 1) (by omega) (by omega),w64 (by omega) (by omega)]
theorem ltA2 (A : List UInt8) (b c : UInt8) (M : List UInt8) : A.length + 1 < (A ++ b :: c :: M).length:=by rw [List.length_append,List.length_cons,List.length_cons];omega
theorem ne_end (q n : Nat) (h : q + 1 < n) : ¬ (q : Int) + 1 = (n : Int):=by omega
theorem nx_other (q : Nat) (b : UInt8) (hq : q = 0 ∨ q = 1) (h34 : b ≠ 34) (h92 : b = 92 → q = 0) : nx q b = q:=by
 unfold nx
 rcases hq with rfl | rfl
 ·rw [if_pos rfl,if_neg h34]
 ·rw [if_neg (by decide),if_pos rfl,if_neg h34,if_neg (fun h => absurd (h92 h) (by decide))]
theorem lqI (T : List UInt8) (hT : T.length ≤ 100000000) : ∀ (M cur pre : List UInt8) (O : List (List UInt8)) (q K : Nat),T = pre ++ cur ++ M → (q = 0 ∨ q = 1) → O.length ≤ pre.length → 4 * M.length + T.length + 20 ≤ K →
  Res O (lq cur q M) (impl_listOf.l0 K (tx T) (O.map tx) (pre.length : Int) (q == 1) ((pre ++ cur).length : Int))
 | M,cur,pre,O,q,0,_,_,_,h => absurd h (by omega)
 | M,cur,pre,O,q,1,_,_,_,h => absurd h (by omega)
 | M,cur,pre,O,q,2,_,_,_,h => absurd h (by omega)
 | M,cur,pre,O,q,3,_,_,_,h => absurd h (by omega)
 | [],cur,pre,O,q,m + 4,hx,hq,hO,hK => by
  have hpc : T.length = (pre ++ cur).length:=by rw [hx,List.append_nil]
  have hcut:=mid_cut pre cur []
  rw [← hx] at hcut
  have hw:=ar4 (pre ++ cur).length T.length (by rw [hpc];exact Nat.le_refl _) hT
  have hroom:=mapRoom O T.length (Nat.le_trans hO (by rw [hpc];exact (leA pre cur).1)) hT
  have htr:=trimI (m + 2) cur (ar5 _ _ 0 hT (by rw [hpc];exact (leA pre cur).2)) (ar6 0 T.length cur.length (m + 1) (by rw [List.length_nil] at hK;omega) (by rw [hpc];exact (leA pre cur).2))
  have hp:=ar2 pre.length (pre ++ cur).length (leA pre cur).1
  have fin : ∀ X : List ByteArray,impl_listOf.l0 (m + 2) (tx T) X (((pre ++ cur).length : Int) + 1) (q == 1) (((pre ++ cur).length : Int) + 1) = some (X,!(q == 1)):=fun X => by
   unfold impl_listOf.l0
   rw [tx_size,hpc,if_neg (ar3 _)]
  have hr : ∀ X : List ByteArray,X = (O ++ addP cur).map tx → Res O (lq cur q []) (some (X,!(q == 1))):=fun X hX => by
   rw [lq_nil]
   rcases hq with rfl | rfl
   ·rw [if_pos rfl,hX];rfl
   ·rw [if_neg (by decide)];exact ⟨X,rfl⟩
  clear hx hK hT hO
  unfold impl_listOf.l0
  rw [tx_size,hpc,if_pos (Int.le_refl _),if_pos rfl]
  unfold impl_listOf.j1
  rw [if_pos rfl,if_pos hp.1,if_pos hp.2,tx_size,hpc,if_pos (Int.le_refl _),hcut,htr,Option.bind_some,tx_toList,hw]
  by_cases c : trimB cur = []
  ·rw [if_pos c,fin]
   refine hr _ ?_
   unfold addP
   rw [if_pos c,List.append_nil]
  ·rw [if_neg c,if_pos hroom,fin]
   refine hr _ ?_
   unfold addP
   rw [if_neg c];simp
 | b :: M,cur,pre,O,q,m + 4,hx,hq,hO,hK => by
  have hlt : (pre ++ cur).length < T.length:=by rw [hx];exact ltA (pre ++ cur) b M
  have hbt : bt (tx T) ((pre ++ cur).length : Int) = (b.toNat : Int):=by rw [hx];exact bt_at (pre ++ cur) M b
  have hcut:=mid_cut pre cur (b :: M)
  rw [← hx] at hcut
  have hw:=ar4 (pre ++ cur).length T.length (Nat.le_of_lt hlt) hT
  have hroom:=mapRoom O T.length (Nat.le_trans hO (Nat.le_trans (leA pre cur).1 (Nat.le_of_lt hlt))) hT
  have hcl:=Nat.le_trans (leA pre cur).2 (Nat.le_of_lt hlt)
  have htr:=trimI (m + 2) cur (ar5 _ _ 0 hT hcl) (ar6 0 T.length cur.length (m + 1) (by rw [List.length_cons] at hK;omega) hcl)
  have hp:=ar2 pre.length (pre ++ cur).length (leA pre cur).1
  have hqq:=ar1 (pre ++ cur).length T.length hlt
  rw [List.length_cons] at hK
  have hf:=br7 _ _ _ hK
  have step : ∀ (q2 : Nat),(q2 = 0 ∨ q2 = 1) → nx q b = q2 → ¬ (q = 0 ∧ b = 44) → ∀ k,4 * M.length + T.length + 20 ≤ k → Res O (lq cur q (b :: M)) (impl_listOf.l0 k (tx T) (O.map tx) (pre.length : Int) (q2 == 1) (((pre ++ cur).length : Int) + 1)):=fun q2 hq2 hn hc k hk => by
   have e2 : T = pre ++ (cur ++ [b]) ++ M:=by rw [hx];simp
   have e1 : (((pre ++ (cur ++ [b])).length : Nat) : Int) = ((pre ++ cur).length : Int) + 1:=by rw [← List.append_assoc];exact lenI (pre ++ cur) b
   have ih:=lqI T hT M (cur ++ [b]) pre O q2 k e2 hq2 hO hk
   rw [e1] at ih
   rw [lq_cons,if_neg hc,hn]
   exact ih
  unfold impl_listOf.l0
  rw [tx_size,if_pos hqq.1,if_neg hqq.2.1,if_pos hqq.2.2.1,if_pos hqq.2.2.2,hbt]
  by_cases c : q = 0 ∧ b = 44
  ·have e1 : (((pre ++ cur ++ [44]).length : Nat) : Int) = ((pre ++ cur).length : Int) + 1:=lenI (pre ++ cur) 44
   have e2 : T = (pre ++ cur ++ [44]) ++ [] ++ M:=by rw [hx,c.2];simp
   have e3 : (pre ++ cur ++ [44]) ++ [] = pre ++ cur ++ [44]:=List.append_nil _
   have hO1 : O.length + 1 ≤ (pre ++ cur ++ [44]).length:=by
    rw [List.length_append,List.length_singleton]
    exact Nat.succ_le_succ (Nat.le_trans hO (leA pre cur).1)
   have ih:=fun (O' : List (List UInt8)) (hO' : O'.length ≤ (pre ++ cur ++ [44]).length) => lqI T hT M [] (pre ++ cur ++ [44]) O' 0 (m + 2) e2 (Or.inl rfl) hO' hf.1
   rw [e3] at ih
   simp only [e1] at ih
   rw [if_pos (show (b.toNat : Int) = 44 by rw [c.2];rfl),c.1]
   unfold impl_listOf.j1
   rw [if_pos (by rfl),if_pos hp.1,if_pos hp.2,tx_size,if_pos hqq.1,hcut,htr,Option.bind_some,tx_toList,hw,lq_cons,if_pos ⟨rfl,c.2⟩]
   refine res_add O (addP cur) _ _ ?_
   unfold addP
   by_cases c2 : trimB cur = []
   ·rw [if_pos c2,if_pos c2,List.append_nil]
    exact ih O (Nat.le_of_succ_le hO1)
   ·have em : O.map tx ++ [tx (trimB cur)] = (O ++ [trimB cur]).map tx:=by simp
    rw [if_neg c2,if_neg c2,if_pos hroom,em]
    exact ih (O ++ [trimB cur]) (by rw [List.length_append,List.length_singleton];exact hO1)
  ·have rest : Res O (lq cur q (b :: M)) (impl_listOf.j1 (m + 3) (tx T) (O.map tx) (pre.length : Int) (q == 1) ((pre ++ cur).length : Int) false):=by
    unfold impl_listOf.j1
    rw [if_neg (show ¬ false = true by decide),if_pos hqq.2.2.1,tx_size,if_pos hqq.2.2.2,hbt]
    by_cases c34 : b = 34
    ·rw [if_pos (show (b.toNat : Int) = 34 by rw [c34];rfl),hw]
     rcases hq with rfl | rfl
     ·exact step 1 (Or.inr rfl) (by rw [c34];rfl) c (m + 2) hf.1
     ·exact step 0 (Or.inl rfl) (by rw [c34];rfl) c (m + 2) hf.1
    ·rw [if_neg (show ¬ (b.toNat : Int) = 34 from nbv b 34 c34)]
     by_cases c92 : b = 92
     ·rw [if_pos (show (b.toNat : Int) = 92 by rw [c92];rfl)]
      rcases hq with rfl | rfl
      ·unfold impl_listOf.j2
       rw [if_neg (show ¬ ((0 : Nat) == 1) = true by decide),hw]
       exact step 0 (Or.inl rfl) (nx_other 0 b (Or.inl rfl) c34 (fun _ => rfl)) c (m + 1) hf.2.2
      ·unfold impl_listOf.j2
       rw [if_pos (show ((1 : Nat) == 1) = true from rfl),tx_size]
       have n2 : nx 1 b = 2:=by rw [c92];rfl
       cases M with
       | nil =>
        have hend : T.length = (pre ++ cur).length + 1:=by rw [hx,List.length_append,List.length_singleton]
        rw [hw,if_pos (by rw [hend];omega),lq_cons,if_neg c,n2,lq_nil,if_neg (by decide)]
        exact ⟨[],rfl⟩
       | cons d M =>
        have hl2:=ltA2 (pre ++ cur) b d M
        rw [← hx] at hl2
        have e2 : T = pre ++ (cur ++ [b,d]) ++ M:=by rw [hx];simp
        have e1 : (((pre ++ (cur ++ [b,d])).length : Nat) : Int) = ((pre ++ cur).length : Int) + 1 + 1:=by rw [← List.append_assoc];exact len2' (pre ++ cur) b d
        have ih:=lqI T hT M (cur ++ [b,d]) pre O 1 (m + 1) e2 (Or.inr rfl) hO (by rw [List.length_cons] at hK;omega)
        rw [e1] at ih
        have n3 : nx 2 d = 1:=rfl
        have e3 : cur ++ [b] ++ [d] = cur ++ [b,d]:=by simp
        rw [ar4' _ _ (Nat.le_of_lt hlt) hT,hw,if_neg (ne_end _ _ hl2),lq_cons,if_neg c,n2,lq_cons,if_neg (fun h => absurd h.1 (by decide)),n3,e3]
        exact ih
     ·rw [if_neg (show ¬ (b.toNat : Int) = 92 from nbv b 92 c92)]
      unfold impl_listOf.j2
      rw [if_neg (show ¬ false = true by decide),hw]
      exact step q hq (nx_other q b hq c34 (fun h => absurd h c92)) c (m + 1) hf.2.2
   by_cases c44 : b = 44
   ·have q1 : q = 1:=hq.resolve_left (fun h => c ⟨h,c44⟩)
    rw [if_pos (show (b.toNat : Int) = 44 by rw [c44];rfl)]
    have e : (!(q == 1)) = false:=by rw [q1];rfl
    rw [e]
    exact rest
   ·rw [if_neg (show ¬ (b.toNat : Int) = 44 from nbv b 44 c44)]
    exact rest
 termination_by M => M.length
theorem lqS (T : List UInt8) (hT : T.length ≤ 100000000) : ∀ (M cur pre : List UInt8) (O : List (List UInt8)) (q K : Nat),T = pre ++ cur ++ M → (q = 0 ∨ q = 1) → O.length ≤ pre.length → 4 * M.length + T.length + 20 ≤ K →
  Res O (lq cur q M) (spec_l3List.l0 K (tx T) (O.map tx) (pre.length : Int) (q == 1) ((pre ++ cur).length : Int))
 | M,cur,pre,O,q,0,_,_,_,h => absurd h (by omega)
 | M,cur,pre,O,q,1,_,_,_,h => absurd h (by omega)
 | M,cur,pre,O,q,2,_,_,_,h => absurd h (by omega)
 | M,cur,pre,O,q,3,_,_,_,h => absurd h (by omega)
 | [],cur,pre,O,q,m + 4,hx,hq,hO,hK => by
  have hpc : T.length = (pre ++ cur).length:=by rw [hx,List.append_nil]
  have hcut:=mid_cut pre cur []
  rw [← hx] at hcut
  have hw:=ar4 (pre ++ cur).length T.length (by rw [hpc];exact Nat.le_refl _) hT
  have hroom:=mapRoom O T.length (Nat.le_trans hO (by rw [hpc];exact (leA pre cur).1)) hT
  have htr:=trimS (m + 2) cur (ar5 _ _ 0 hT (by rw [hpc];exact (leA pre cur).2)) (ar6 0 T.length cur.length (m + 1) (by rw [List.length_nil] at hK;omega) (by rw [hpc];exact (leA pre cur).2))
  have hp:=ar2 pre.length (pre ++ cur).length (leA pre cur).1
  have fin : ∀ X : List ByteArray,spec_l3List.l0 (m + 2) (tx T) X (((pre ++ cur).length : Int) + 1) (q == 1) (((pre ++ cur).length : Int) + 1) = some (X,!(q == 1)):=fun X => by
   unfold spec_l3List.l0
   rw [tx_size,hpc,if_neg (ar3 _)]
  have hr : ∀ X : List ByteArray,X = (O ++ addP cur).map tx → Res O (lq cur q []) (some (X,!(q == 1))):=fun X hX => by
   rw [lq_nil]
   rcases hq with rfl | rfl
   ·rw [if_pos rfl,hX];rfl
   ·rw [if_neg (by decide)];exact ⟨X,rfl⟩
  clear hx hK hT hO
  unfold spec_l3List.l0
  rw [tx_size,hpc,if_pos (Int.le_refl _),if_pos rfl]
  unfold spec_l3List.j1
  rw [if_pos rfl,if_pos hp.1,if_pos hp.2,tx_size,hpc,if_pos (Int.le_refl _),hcut,htr,Option.bind_some,tx_toList,hw]
  by_cases c : trimB cur = []
  ·rw [if_pos c,fin]
   refine hr _ ?_
   unfold addP
   rw [if_pos c,List.append_nil]
  ·rw [if_neg c,if_pos hroom,fin]
   refine hr _ ?_
   unfold addP
   rw [if_neg c];simp
 | b :: M,cur,pre,O,q,m + 4,hx,hq,hO,hK => by
  have hlt : (pre ++ cur).length < T.length:=by rw [hx];exact ltA (pre ++ cur) b M
  have hbt : bt (tx T) ((pre ++ cur).length : Int) = (b.toNat : Int):=by rw [hx];exact bt_at (pre ++ cur) M b
  have hcut:=mid_cut pre cur (b :: M)
  rw [← hx] at hcut
  have hw:=ar4 (pre ++ cur).length T.length (Nat.le_of_lt hlt) hT
  have hroom:=mapRoom O T.length (Nat.le_trans hO (Nat.le_trans (leA pre cur).1 (Nat.le_of_lt hlt))) hT
  have hcl:=Nat.le_trans (leA pre cur).2 (Nat.le_of_lt hlt)
  have htr:=trimS (m + 2) cur (ar5 _ _ 0 hT hcl) (ar6 0 T.length cur.length (m + 1) (by rw [List.length_cons] at hK;omega) hcl)
  have hp:=ar2 pre.length (pre ++ cur).length (leA pre cur).1
  have hqq:=ar1 (pre ++ cur).length T.length hlt
  rw [List.length_cons] at hK
  have hf:=br7 _ _ _ hK
  have step : ∀ (q2 : Nat),(q2 = 0 ∨ q2 = 1) → nx q b = q2 → ¬ (q = 0 ∧ b = 44) → ∀ k,4 * M.length + T.length + 20 ≤ k → Res O (lq cur q (b :: M)) (spec_l3List.l0 k (tx T) (O.map tx) (pre.length : Int) (q2 == 1) (((pre ++ cur).length : Int) + 1)):=fun q2 hq2 hn hc k hk => by
   have e2 : T = pre ++ (cur ++ [b]) ++ M:=by rw [hx];simp
   have e1 : (((pre ++ (cur ++ [b])).length : Nat) : Int) = ((pre ++ cur).length : Int) + 1:=by rw [← List.append_assoc];exact lenI (pre ++ cur) b
   have ih:=lqS T hT M (cur ++ [b]) pre O q2 k e2 hq2 hO hk
   rw [e1] at ih
   rw [lq_cons,if_neg hc,hn]
   exact ih
  unfold spec_l3List.l0
  rw [tx_size,if_pos hqq.1,if_neg hqq.2.1,if_pos hqq.2.2.1,if_pos hqq.2.2.2,hbt]
  by_cases c : q = 0 ∧ b = 44
  ·have e1 : (((pre ++ cur ++ [44]).length : Nat) : Int) = ((pre ++ cur).length : Int) + 1:=lenI (pre ++ cur) 44
   have e2 : T = (pre ++ cur ++ [44]) ++ [] ++ M:=by rw [hx,c.2];simp
   have e3 : (pre ++ cur ++ [44]) ++ [] = pre ++ cur ++ [44]:=List.append_nil _
   have hO1 : O.length + 1 ≤ (pre ++ cur ++ [44]).length:=by
    rw [List.length_append,List.length_singleton]
    exact Nat.succ_le_succ (Nat.le_trans hO (leA pre cur).1)
   have ih:=fun (O' : List (List UInt8)) (hO' : O'.length ≤ (pre ++ cur ++ [44]).length) => lqS T hT M [] (pre ++ cur ++ [44]) O' 0 (m + 2) e2 (Or.inl rfl) hO' hf.1
   rw [e3] at ih
   simp only [e1] at ih
   rw [if_pos (show (b.toNat : Int) = 44 by rw [c.2];rfl),c.1]
   unfold spec_l3List.j1
   rw [if_pos (by rfl),if_pos hp.1,if_pos hp.2,tx_size,if_pos hqq.1,hcut,htr,Option.bind_some,tx_toList,hw,lq_cons,if_pos ⟨rfl,c.2⟩]
   refine res_add O (addP cur) _ _ ?_
   unfold addP
   by_cases c2 : trimB cur = []
   ·rw [if_pos c2,if_pos c2,List.append_nil]
    exact ih O (Nat.le_of_succ_le hO1)
   ·have em : O.map tx ++ [tx (trimB cur)] = (O ++ [trimB cur]).map tx:=by simp
    rw [if_neg c2,if_neg c2,if_pos hroom,em]
    exact ih (O ++ [trimB cur]) (by rw [List.length_append,List.length_singleton];exact hO1)
  ·have rest : Res O (lq cur q (b :: M)) (spec_l3List.j1 (m + 3) (tx T) (O.map tx) (pre.length : Int) (q == 1) ((pre ++ cur).length : Int) false):=by
    unfold spec_l3List.j1
    rw [if_neg (show ¬ false = true by decide),if_pos hqq.2.2.1,tx_size,if_pos hqq.2.2.2,hbt]
    by_cases c34 : b = 34
    ·have h92 : ¬ (b.toNat : Int) = 92:=by rw [c34];decide
     rw [if_pos (show (b.toNat : Int) = 34 by rw [c34];rfl)]
     unfold spec_l3List.j2
     rw [if_pos hqq.2.2.1,tx_size,if_pos hqq.2.2.2,hbt,if_neg h92]
     unfold spec_l3List.j3
     rw [if_neg (show ¬ false = true by decide),hw]
     rcases hq with rfl | rfl
     ·exact step 1 (Or.inr rfl) (by rw [c34];rfl) c m hf.2.1
     ·exact step 0 (Or.inl rfl) (by rw [c34];rfl) c m hf.2.1
    ·rw [if_neg (show ¬ (b.toNat : Int) = 34 from nbv b 34 c34)]
     unfold spec_l3List.j2
     rw [if_pos hqq.2.2.1,tx_size,if_pos hqq.2.2.2,hbt]
     by_cases c92 : b = 92
     ·rw [if_pos (show (b.toNat : Int) = 92 by rw [c92];rfl)]
      rcases hq with rfl | rfl
      ·unfold spec_l3List.j3
       rw [if_neg (show ¬ ((0 : Nat) == 1) = true by decide),hw]
       exact step 0 (Or.inl rfl) (nx_other 0 b (Or.inl rfl) c34 (fun _ => rfl)) c m hf.2.1
      ·unfold spec_l3List.j3
       rw [if_pos (show ((1 : Nat) == 1) = true from rfl),tx_size]
       have n2 : nx 1 b = 2:=by rw [c92];rfl
       cases M with
       | nil =>
        have hend : T.length = (pre ++ cur).length + 1:=by rw [hx,List.length_append,List.length_singleton]
        rw [hw,if_pos (by rw [hend];omega),lq_cons,if_neg c,n2,lq_nil,if_neg (by decide)]
        exact ⟨[],rfl⟩
       | cons d M =>
        have hl2:=ltA2 (pre ++ cur) b d M
        rw [← hx] at hl2
        have e2 : T = pre ++ (cur ++ [b,d]) ++ M:=by rw [hx];simp
        have e1 : (((pre ++ (cur ++ [b,d])).length : Nat) : Int) = ((pre ++ cur).length : Int) + 1 + 1:=by rw [← List.append_assoc];exact len2' (pre ++ cur) b d
        have ih:=lqS T hT M (cur ++ [b,d]) pre O 1 m e2 (Or.inr rfl) hO (by rw [List.length_cons] at hK;omega)
        rw [e1] at ih
        have n3 : nx 2 d = 1:=rfl
        have e3 : cur ++ [b] ++ [d] = cur ++ [b,d]:=by simp
        rw [ar4' _ _ (Nat.le_of_lt hlt) hT,hw,if_neg (ne_end _ _ hl2),lq_cons,if_neg c,n2,lq_cons,if_neg (fun h => absurd h.1 (by decide)),n3,e3]
        exact ih
     ·rw [if_neg (show ¬ (b.toNat : Int) = 92 from nbv b 92 c92)]
      unfold spec_l3List.j3
      rw [if_neg (show ¬ false = true by decide),hw]
      exact step q hq (nx_other q b hq c34 (fun h => absurd h c92)) c m hf.2.1
   by_cases c44 : b = 44
   ·have q1 : q = 1:=hq.resolve_left (fun h => c ⟨h,c44⟩)
    rw [if_pos (show (b.toNat : Int) = 44 by rw [c44];rfl)]
    have e : (!(q == 1)) = false:=by rw [q1];rfl
    rw [e]
    exact rest
   ·rw [if_neg (show ¬ (b.toNat : Int) = 44 from nbv b 44 c44)]
    exact rest
 termination_by M => M.length
theorem rdS_nat (l : List ByteArray) (n : Nat) (h : n < l.length) : rdOf ByteArray.empty l (n : Int) = l[n]:=by
 unfold rdOf;simp [List.getD_eq_getElem?_getD,h]
def isDB (b : UInt8) : Bool:=48 ≤ b.toNat && b.toNat ≤ 57
def digP (b : UInt8) : Bool:=decide (impl_isDigit.f (b.toNat : Int) = some (isDB b)) && decide (spec_l1Digit.f (b.toNat : Int) = some (isDB b)) && decide (Lib.digitVal b = (if isDB b = true then some (b.toNat - 48) else none))
theorem byte_all (p : UInt8 → Bool) (h : ((List.range 256).all fun n => p (UInt8.ofNat n)) = true) (b : UInt8) : p b = true:=by
 have:=List.all_eq_true.mp h b.toNat (List.mem_range.mpr b.toNat_lt)
 rwa [UInt8.ofNat_toNat] at this
theorem dig_all : ((List.range 256).all fun n => digP (UInt8.ofNat n)) = true:=by decide +kernel
theorem dig_b (b : UInt8) : impl_isDigit.f (b.toNat : Int) = some (isDB b) ∧ spec_l1Digit.f (b.toNat : Int) = some (isDB b) ∧ Lib.digitVal b = (if isDB b = true then some (b.toNat - 48) else none):=by
 have g:=byte_all digP dig_all b
 unfold digP at g
 simp only [Bool.and_eq_true,decide_eq_true_eq] at g
 exact ⟨g.1.1,g.1.2,g.2⟩
theorem dec_cons (a : Nat) (b : UInt8) (r : List UInt8) : Lib.decFrom a (b :: r) = (if isDB b = true then Lib.decFrom (a * 10 + (b.toNat - 48)) r else none):=by
 show (match Lib.digitVal b with | some d => Lib.decFrom (a * 10 + d) r | none => none) = _
 rw [(dig_b b).2.2]
 by_cases h : isDB b = true
 ·rw [if_pos h,if_pos h]
 ·rw [if_neg h,if_neg h]
theorem dec_some : ∀ (l : List UInt8) (a : Nat),l.all isDB = true → ∃ v,Lib.decFrom a l = some v ∧ v < (a + 1) * 10 ^ l.length
 | [],a,_ => ⟨a,rfl,by simp⟩
 | b :: r,a,h => by
  rw [List.all_cons,Bool.and_eq_true] at h
  obtain ⟨v,h1,h2⟩:=dec_some r (a * 10 + (b.toNat - 48)) h.2
  have hb : b.toNat ≤ 57:=by have:=h.1;unfold isDB at this;simp at this;exact this.2
  refine ⟨v,by rw [dec_cons,if_pos h.1,h1],Nat.lt_of_lt_of_le h2 ?_⟩
  have e : (a + 1) * 10 ^ (b :: r).length = ((a + 1) * 10) * 10 ^ r.length:=by
   rw [List.length_cons,Nat.pow_succ,Nat.mul_comm (10 ^ r.length) 10,← Nat.mul_assoc]
  rw [e]
  exact Nat.mul_le_mul_right _ (by omega)
theorem dec_none : ∀ (l : List UInt8) (a : Nat),l.all isDB = false → Lib.decFrom a l = none
 | [],a,h => by cases h
 | b :: r,a,h => by
  rw [dec_cons]
  by_cases c : isDB b = true
  ·rw [List.all_cons,c,Bool.true_and] at h
   rw [if_pos c,dec_none r _ h]
  ·rw [if_neg c]
theorem bytes_tx (l : List UInt8) : bytesOf (tx l) = l.map fun b => (b.toNat : Int):=rfl
theorem idxO_mem {α : Type} (p : α → Option Bool) (q : α → Bool) (l : List α) (h : ∀ x ∈ l,p x = some (!q x)) : ∀ (n : Int),0 ≤ n → ∃ i,idxO p l n = some i ∧ (!decide (i ≥ 0)) = l.all q:=by
 induction l with
 | nil => intro n hn;exact ⟨-1,rfl,rfl⟩
 | cons x xs ih =>
  intro n hn
  unfold idxO
  rw [h x List.mem_cons_self,Option.bind_some]
  cases hq : q x with
  | true =>
   obtain ⟨i,h1,h2⟩:=ih (fun y hy => h y (List.mem_cons_of_mem _ hy)) (n + 1) (by omega)
   exact ⟨i,h1,by rw [h2,List.all_cons,hq,Bool.true_and]⟩
  | false => exact ⟨n,rfl,by rw [List.all_cons,hq,Bool.false_and,decide_eq_true (show n ≥ 0 from hn)];rfl⟩
theorem lenC (A : List UInt8) (b : UInt8) (M : List UInt8) : (((A ++ b :: M).length : Nat) : Int) = (A.length : Int) + ((M.length : Int) + 1):=by rw [List.length_append,List.length_cons];omega
theorem digits_I (l : List UInt8) (h : l.length < 100000000) : xBytes_impl_isDigit.f (tx l) = some (l.all isDB):=by
 unfold xBytes_impl_isDigit.f xAll_u8_impl_isDigit.f
 rw [tx_size,if_pos (by omega),bytes_tx,if_pos (by rw [List.length_map];omega)]
 obtain ⟨i,e,g⟩:=idxO_mem xAll_u8_impl_isDigit.z (fun x => isDB (UInt8.ofNat x.toNat)) (l.map fun b => (b.toNat : Int)) (fun x hx => by
  obtain ⟨b,_,rfl⟩:=List.mem_map.mp hx
  unfold xAll_u8_impl_isDigit.z
  rw [(dig_b b).1,Option.bind_some,Int.toNat_natCast,UInt8.ofNat_toNat]) 0 (by decide)
 rw [e,Option.bind_some,g,List.all_map]
 have e2 : ((fun x : Int => isDB (UInt8.ofNat x.toNat)) ∘ fun b : UInt8 => (b.toNat : Int)) = isDB:=by
  funext b
  show isDB (UInt8.ofNat ((b.toNat : Int)).toNat) = isDB b
  rw [Int.toNat_natCast,UInt8.ofNat_toNat]
 rw [e2]
theorem withinR (x a b : Int) : impl_within.f x a b = some (decide (a ≤ x) && decide (x ≤ b)):=by
 unfold impl_within.f
 by_cases c : a ≤ x
 ·rw [if_pos c,decide_eq_true c,Bool.true_and]
 ·rw [if_neg c,decide_eq_false c,Bool.false_and]
theorem inR (x a b : Int) : spec_l1In.f x a b = some (decide (a ≤ x) && decide (x ≤ b)):=by
 unfold spec_l1In.f
 by_cases c : a ≤ x
 ·rw [if_pos c,decide_eq_true c,Bool.true_and]
 ·rw [if_neg c,decide_eq_false c,Bool.false_and]
def prB (b : UInt8) : Bool:=32 ≤ b.toNat && b.toNat ≤ 126
theorem printed_b (b : UInt8) : impl_isPrinted_1.f (b.toNat : Int) = some (prB b):=by
 unfold impl_isPrinted_1.f prB
 by_cases c : 32 ≤ b.toNat
 ·rw [if_pos (by omega),decide_eq_true c,Bool.true_and]
  congr 1
  by_cases d : b.toNat ≤ 126
  ·rw [decide_eq_true d,decide_eq_true (by omega)]
  ·rw [decide_eq_false d,decide_eq_false (by omega)]
 ·rw [if_neg (by omega),decide_eq_false c,Bool.false_and]
theorem printed_I (l : List UInt8) (h : l.length < 100000000) : xBytes_impl_isPrinted_1.f (tx l) = some (l.all prB):=by
 unfold xBytes_impl_isPrinted_1.f xAll_u8_impl_isPrinted_1.f
 rw [tx_size,if_pos (by omega),bytes_tx,if_pos (by rw [List.length_map];omega)]
 obtain ⟨i,e,g⟩:=idxO_mem xAll_u8_impl_isPrinted_1.z (fun x => prB (UInt8.ofNat x.toNat)) (l.map fun b => (b.toNat : Int)) (fun x hx => by
  obtain ⟨b,_,rfl⟩:=List.mem_map.mp hx
  unfold xAll_u8_impl_isPrinted_1.z
  rw [printed_b b,Option.bind_some,Int.toNat_natCast,UInt8.ofNat_toNat]) 0 (by decide)
 rw [e,Option.bind_some,g,List.all_map]
 have e2 : ((fun x : Int => prB (UInt8.ofNat x.toNat)) ∘ fun b : UInt8 => (b.toNat : Int)) = prB:=by
  funext b
  show prB (UInt8.ofNat ((b.toNat : Int)).toNat) = prB b
  rw [Int.toNat_natCast,UInt8.ofNat_toNat]
 rw [e2]
theorem pb_pos (p m : Nat) (h : p + (m + 1) ≤ 100000000) : (p : Int) < (p : Int) + ((m : Int) + 1) ∧ (0 : Int) ≤ (p : Int) ∧ wrap64 ((p : Int) + 1) = (p : Int) + 1:=⟨by omega,by omega,w64 (by omega) (by omega)⟩
theorem printed_l : ∀ (M pre : List UInt8) (K : Nat),(pre ++ M).length ≤ 100000000 → M.length < K → spec_l3Printed.l0 K (tx (pre ++ M)) (pre.length : Int) = some (M.all prB)
 | M,pre,0,_,h => absurd h (Nat.not_lt_zero _)
 | [],pre,K + 1,_,_ => by
  unfold spec_l3Printed.l0
  rw [tx_size,List.append_nil,if_neg (Int.lt_irrefl _)];rfl
 | b :: M,pre,K + 1,hl,hK => by
  have hl2 : pre.length + (M.length + 1) ≤ 100000000:=by rw [List.length_append,List.length_cons] at hl;exact hl
  obtain ⟨q1,q2,q3⟩:=pb_pos pre.length M.length hl2
  have hlen:=lenC pre b M
  have hbt:=bt_at pre M b
  have e1 : pre ++ [b] ++ M = pre ++ b :: M:=by simp
  have e2 : (((pre ++ [b]).length : Nat) : Int) = (pre.length : Int) + 1:=by simp
  have ih:=printed_l M (pre ++ [b]) K (by rw [e1];exact hl) (Nat.lt_of_succ_lt_succ hK)
  rw [e1,e2] at ih
  unfold spec_l3Printed.l0
  rw [tx_size,hlen,if_pos q1,if_pos q2,hbt,q3,List.all_cons]
  unfold prB
  by_cases c : 32 ≤ b.toNat
  ·rw [if_neg (by omega),decide_eq_true c,Bool.true_and]
   by_cases d : b.toNat ≤ 126
   ·rw [if_neg (by omega),decide_eq_true d,Bool.true_and]
    exact ih
   ·rw [if_pos (by omega),decide_eq_false d,Bool.false_and]
  ·rw [if_pos (by omega),decide_eq_false c,Bool.false_and,Bool.false_and]
def isT : Option Bool → Bool
 | some true => true
 | _ => false
def tokB (b : UInt8) : Bool:=isT (impl_isToken_1.f (b.toNat : Int))
def tokP (b : UInt8) : Bool:=decide (impl_isToken_1.f (b.toNat : Int) = some (tokB b)) && decide (spec_l3TokenByte.f 40 (b.toNat : Int) = some (tokB b))
theorem tok_all : ((List.range 256).all fun n => tokP (UInt8.ofNat n)) = true:=by decide +kernel
theorem tok_b (b : UInt8) : impl_isToken_1.f (b.toNat : Int) = some (tokB b) ∧ ∀ K,40 ≤ K → spec_l3TokenByte.f K (b.toNat : Int) = some (tokB b):=by
 have g:=byte_all tokP tok_all b
 unfold tokP at g
 simp only [Bool.and_eq_true,decide_eq_true_eq] at g
 exact ⟨g.1,fun K hK => mono_le (fun k => spec_l3TokenByte.f k (b.toNat : Int)) (fun k => spec_l3TokenByte.mono _ k) 40 K hK _ g.2⟩
def tokL (l : List UInt8) : Bool:=(decide ((1 : Int) ≤ (l.length : Int)) && decide ((l.length : Int) ≤ 60)) && l.all tokB
theorem tokb_I (l : List UInt8) (h : l.length < 100000000) : xBytes_impl_isToken_1.f (tx l) = some (l.all tokB):=by
 unfold xBytes_impl_isToken_1.f xAll_u8_impl_isToken_1.f
 rw [tx_size,if_pos (by omega),bytes_tx,if_pos (by rw [List.length_map];omega)]
 obtain ⟨i,e,g⟩:=idxO_mem xAll_u8_impl_isToken_1.z (fun x => tokB (UInt8.ofNat x.toNat)) (l.map fun b => (b.toNat : Int)) (fun x hx => by
  obtain ⟨b,_,rfl⟩:=List.mem_map.mp hx
  unfold xAll_u8_impl_isToken_1.z
  rw [(tok_b b).1,Option.bind_some,Int.toNat_natCast,UInt8.ofNat_toNat]) 0 (by decide)
 rw [e,Option.bind_some,g,List.all_map]
 have e2 : ((fun x : Int => tokB (UInt8.ofNat x.toNat)) ∘ fun b : UInt8 => (b.toNat : Int)) = tokB:=by
  funext b
  show tokB (UInt8.ofNat ((b.toNat : Int)).toNat) = tokB b
  rw [Int.toNat_natCast,UInt8.ofNat_toNat]
 rw [e2]
theorem token_l : ∀ (M pre : List UInt8) (K : Nat),(pre ++ M).length ≤ 100000000 → M.length + 50 ≤ K → spec_l3Token.l0 K (tx (pre ++ M)) (pre.length : Int) = some (M.all tokB && (decide ((1 : Int) ≤ ((pre ++ M).length : Int)) && decide (((pre ++ M).length : Int) ≤ 60)))
 | M,pre,0,_,h => absurd h (by omega)
 | [],pre,K + 1,_,_ => by
  unfold spec_l3Token.l0
  rw [tx_size,List.append_nil,if_neg (Int.lt_irrefl _),inR,Option.bind_some];rfl
 | b :: M,pre,K + 1,hl,hK => by
  have hl2 : pre.length + (M.length + 1) ≤ 100000000:=by rw [List.length_append,List.length_cons] at hl;exact hl
  obtain ⟨q1,q2,q3⟩:=pb_pos pre.length M.length hl2
  have hlen:=lenC pre b M
  have hbt:=bt_at pre M b
  have e1 : pre ++ [b] ++ M = pre ++ b :: M:=by simp
  have e2 : (((pre ++ [b]).length : Nat) : Int) = (pre.length : Int) + 1:=by simp
  have ih:=token_l M (pre ++ [b]) K (by rw [e1];exact hl) (by rw [List.length_cons] at hK;omega)
  rw [e1,e2] at ih
  have ht:=(tok_b b).2 K (by omega)
  unfold spec_l3Token.l0
  rw [tx_size,if_pos (by rw [hlen];exact q1),if_pos q2,hbt,ht,Option.bind_some,List.all_cons,q3]
  cases hb : tokB b with
  | true => rw [if_pos rfl,Bool.true_and];exact ih
  | false => rw [if_neg (by decide),Bool.false_and,Bool.false_and]
def toE (p : S97) : S105:=⟨p.f0,p.f1⟩
theorem rdP_nat (l : List S105) (n : Nat) (h : n < l.length) : rd_T105 l (n : Int) = l[n]:=by
 unfold rd_T105;simp [List.getD_eq_getElem?_getD,h]
theorem rdQ_nat (l : List S97) (n : Nat) (h : n < l.length) : rd_T97 l (n : Int) = l[n]:=by
 unfold rd_T97;simp [List.getD_eq_getElem?_getD,h]
theorem toFields_loop (xs : List S97) (hb : xs.length < 4611686018427387904) (d : Nat) : ∀ (k n : Nat) (ys : List S105),ys.length = xs.length → n + d = xs.length → d < k →
  laws_toFieldS.l0 k xs ys (n : Int) = some (ys.take n ++ (xs.drop n).map toE):=by
 induction d with
 | zero =>
  intro k n ys hl hn hk
  obtain ⟨k,rfl⟩ : ∃ m,k = m + 1:=⟨k - 1,by omega⟩
  have c : ¬ (n : Int) < (xs.length : Int):=by omega
  simp only [laws_toFieldS.l0];rw [if_neg c,List.take_of_length_le (by omega),List.drop_of_length_le (by omega),List.map_nil,List.append_nil]
 | succ d ih =>
  intro k n ys hl hn hk
  obtain ⟨k,rfl⟩ : ∃ m,k = m + 1:=⟨k - 1,by omega⟩
  have h1 : n < xs.length:=by omega
  have h2 : n < ys.length:=by omega
  have c1 : (n : Int) < (xs.length : Int):=by omega
  have c2 : (n : Int) < (ys.length : Int):=by omega
  have c0 : (0 : Int) ≤ (n : Int):=by omega
  simp only [laws_toFieldS.l0,laws_toField.f]
  rw [if_pos c1,if_pos c0,Option.bind_some,if_pos c2,rdQ_nat xs n h1,w64 (by omega) (by omega),succ_cast,Int.toNat_natCast,ih k (n + 1) _ (by simp [hl]) (by omega) (by omega),List.drop_eq_getElem_cons h1,List.map_cons]
  congr 1
  rw [List.take_add_one,List.take_set_of_le (by omega)]
  simp [h2,toE]
theorem toFields_f (xs : List S97) (hb : xs.length ≤ 1048576) (k : Nat) (hk : xs.length < k) : laws_toFieldS.f k xs = some (xs.map toE):=by
 unfold laws_toFieldS.f
 rw [if_pos (by omega),if_pos (by omega)]
 have h:=toFields_loop xs (by omega) xs.length k 0 (List.replicate ((xs.length : Int) : Int).toNat z105) (by simp) (by omega) hk
 simpa using h
theorem eqFields_loop (xs : List S105) (hb : xs.length < 4611686018427387904) (d : Nat) : ∀ (k n : Nat),n + d = xs.length → d < k →
  laws_eqFieldS.l0 k xs xs (n : Int) = some true:=by
 induction d with
 | zero =>
  intro k n hn hk
  obtain ⟨k,rfl⟩ : ∃ m,k = m + 1:=⟨k - 1,by omega⟩
  have c : ¬ (n : Int) < (xs.length : Int):=by omega
  simp only [laws_eqFieldS.l0];rw [if_neg c]
 | succ d ih =>
  intro k n hn hk
  obtain ⟨k,rfl⟩ : ∃ m,k = m + 1:=⟨k - 1,by omega⟩
  have c1 : (n : Int) < (xs.length : Int):=by omega
  have c0 : (0 : Int) ≤ (n : Int):=by omega
  simp only [laws_eqFieldS.l0,laws_eqField.f]
  rw [if_pos c1,if_pos c0,if_pos c1]
  simp only [if_true,Option.bind_some]
  rw [w64 (by omega) (by omega),succ_cast]
  exact ih k (n + 1) (by omega) (by omega)
theorem eqFields_f (xs : List S105) (hb : xs.length ≤ 1048576) (k : Nat) (hk : xs.length < k) : laws_eqFieldS.f k xs xs = some true:=by
 unfold laws_eqFieldS.f
 rw [if_pos rfl]
 exact eqFields_loop xs (by omega) xs.length k 0 (by omega) hk
def szL : List S97 → Nat
 | [] => 0
 | x :: xs => x.f0.size + x.f1.size + szL xs
theorem szFields_loop (l : List S97) (hb : l.length < 4611686018427387904) (hw : ∀ x ∈ l,x.f0.size ≤ maxLen ∧ x.f1.size ≤ maxLen) (d : Nat) : ∀ (k n : Nat) (a : Int),n + d = l.length → d < k → 0 ≤ a → a ≤ 1048576 →
  ∃ r,laws_szFieldS.l0 k l a (n : Int) = some r ∧ (0 ≤ r → r + (szL (l.drop n) : Nat) ≤ a):=by
 induction d with
 | zero =>
  intro k n a hn hk h0 h1
  obtain ⟨k,rfl⟩ : ∃ m,k = m + 1:=⟨k - 1,by omega⟩
  have c : ¬ (n : Int) < (l.length : Int):=by omega
  exact ⟨a,by simp only [laws_szFieldS.l0];rw [if_neg c],fun _ => by rw [List.drop_of_length_le (by omega)];show a + ((0 : Nat) : Int) ≤ a;omega⟩
 | succ d ih =>
  intro k n a hn hk h0 h1
  obtain ⟨k,rfl⟩ : ∃ m,k = m + 1:=⟨k - 1,by omega⟩
  have hlt : n < l.length:=by omega
  have c1 : (n : Int) < (l.length : Int):=by omega
  have c0 : (0 : Int) ≤ (n : Int):=by omega
  obtain ⟨g0,g1⟩:=hw l[n] (List.getElem_mem hlt)
  have hmx : maxLen = 9223372036854775807:=by decide
  have hsz : szL (l.drop n) = l[n].f0.size + l[n].f1.size + szL (l.drop (n + 1)):=by rw [List.drop_eq_getElem_cons hlt];rfl
  simp only [laws_szFieldS.l0,laws_szField.f]
  rw [if_pos c1,if_pos c0,rdQ_nat l n hlt,w64 (x:=a - (l[n].f0.size : Int)) (by omega) (by omega)]
  by_cases e0 : a - (l[n].f0.size : Int) < 0
  ·rw [if_pos e0,Option.bind_some,if_pos (by omega)]
   exact ⟨-1,rfl,fun h => by omega⟩
  ·rw [if_neg e0,w64 (x:=a - (l[n].f0.size : Int) - (l[n].f1.size : Int)) (by omega) (by omega)]
   by_cases e1 : a - (l[n].f0.size : Int) - (l[n].f1.size : Int) < 0
   ·rw [if_pos e1,Option.bind_some,if_pos (by omega)]
    exact ⟨-1,rfl,fun h => by omega⟩
   ·rw [if_neg e1,Option.bind_some,if_neg e1,w64 (x:=(n : Int) + 1) (by omega) (by omega),succ_cast]
    obtain ⟨r,hr,hr2⟩:=ih k (n + 1) (a - (l[n].f0.size : Int) - (l[n].f1.size : Int)) (by omega) (by omega) (by omega) (by omega)
    exact ⟨r,hr,fun h => by have:=hr2 h;rw [hsz];omega⟩
theorem szFields_f (l : List S97) (hm : l.length ≤ maxLen) (hw : ∀ x ∈ l,x.f0.size ≤ maxLen ∧ x.f1.size ≤ maxLen) (a : Int) (h0 : 0 ≤ a) (h1 : a ≤ 1048576) :
  ∃ r,(∀ k,1048576 < k → laws_szFieldS.f k l a = some r) ∧ (0 ≤ r → r + (l.length : Nat) + (szL l : Nat) ≤ a):=by
 have hmx : maxLen = 9223372036854775807:=by decide
 unfold laws_szFieldS.f
 rw [w64 (x:=a - (l.length : Int)) (by omega) (by omega)]
 by_cases c : a - (l.length : Int) < 0
 ·exact ⟨-1,fun k _ => by rw [if_pos c],fun h => by omega⟩
 ·obtain ⟨r,hr,hr2⟩:=szFields_loop l (by omega) hw l.length (l.length + 1) 0 (a - (l.length : Int)) (by omega) (by omega) (by omega) (by omega)
  rw [List.drop_zero] at hr2
  refine ⟨r,fun k hk => ?_,fun h => by have:=hr2 h;omega⟩
  rw [if_neg c]
  exact at_rounds (g:=fun k => laws_szFieldS.l0 k l (a - (l.length : Int)) 0) (fun k => laws_szFieldS.mono_l k _ _ _) (k:=l.length + 1) (by omega) hr
theorem szL_mem : ∀ (l : List S97),∀ x ∈ l,x.f0.size + x.f1.size ≤ szL l
 | [],x,h => absurd h List.not_mem_nil
 | y :: ys,x,h => by
  unfold szL
  rcases List.mem_cons.mp h with rfl | h
  ·omega
  ·have:=szL_mem ys x h;omega
theorem itoa_f (n : Int) (h0 : 0 ≤ n) (h1 : n < 10000000) : strconv_Itoa.f n = some (tx (Lib.itoa n)):=by
 unfold strconv_Itoa.f
 rw [if_pos (by omega),if_pos (by omega)]
theorem itoa_len (n : Int) (h0 : 0 ≤ n) (h1 : n < 10000000) : (Lib.itoa n).length ≤ 7:=by
 obtain ⟨u,rfl⟩ : ∃ u : Nat,n = (u : Int):=⟨n.toNat,by omega⟩
 rw [Lib.itoa_nonneg]
 exact dec_len u 6 (by omega)
theorem num_u : ∀ (k u : Nat),u < 10 ^ (k + 1) → u < 10000000 → spec_l1Num.f (k + 1) (u : Int) = some (tx (Lib.decDigits u))
 | k,u,h,h2 => by
  unfold spec_l1Num.f Lib.decDigits
  by_cases c : u < 10
  ·rw [if_pos (by omega),dif_pos c,w64 (by omega) (by omega)]
   have : ((48 + (u : Int)) % 256).toNat = 48 + u:=by omega
   show some (tx [UInt8.ofNat ((48 + (u : Int)) % 256).toNat]) = _
   rw [this]
  ·rw [if_neg (by omega),dif_neg c]
   have e1 : Int.tdiv (u : Int) 10 = ((u / 10 : Nat) : Int):=by rw [Int.tdiv_eq_ediv_of_nonneg (by omega)];omega
   have e2 : Int.tmod (u : Int) 10 = ((u % 10 : Nat) : Int):=by rw [Int.tmod_eq_emod_of_nonneg (by omega)];omega
   rw [e1,e2,w64 (by omega) (by omega),w64 (by omega) (by omega)]
   match k,h with
   | 0,h => exact absurd h (by omega)
   | k + 1,h =>
    rw [num_u k (u / 10) (by rw [Nat.pow_succ] at h;omega) (by omega),Option.bind_some,Option.bind_some]
    have : ((48 + ((u % 10 : Nat) : Int)) % 256).toNat = 48 + u % 10:=by omega
    have e3 : strOfNums [(48 + ((u % 10 : Nat) : Int)) % 256] = tx [UInt8.ofNat (48 + u % 10)]:=by
     show tx [UInt8.ofNat ((48 + ((u % 10 : Nat) : Int)) % 256).toNat] = _
     rw [this]
    have hl:=dec_len (u / 10) 6 (by omega)
    rw [e3,tx_size,tx_size,if_pos (by simp;omega),tx_app]
theorem num_f (k : Nat) (n : Int) (hk : 7 ≤ k) (h0 : 0 ≤ n) (h1 : n < 10000000) : spec_l1Num.f k n = some (tx (Lib.itoa n)):=by
 obtain ⟨u,rfl⟩ : ∃ u : Nat,n = (u : Int):=⟨n.toNat,by omega⟩
 obtain ⟨m,rfl⟩ : ∃ m,k = m + 1:=⟨k - 1,by omega⟩
 rw [Lib.itoa_nonneg]
 exact num_u m u (Nat.lt_of_lt_of_le (show u < 10 ^ 7 by omega) (Nat.pow_le_pow_right (by decide) (by omega))) (by omega)
theorem token_I (l : List UInt8) : impl_isToken.f (tx l) = some (tokL l):=by
 unfold impl_isToken.f tokL
 rw [tx_size,withinR,Option.bind_some]
 cases hw : (decide ((1 : Int) ≤ (l.length : Int)) && decide ((l.length : Int) ≤ 60)) with
 | true =>
  have h2 : l.length ≤ 60:=by
   rw [Bool.and_eq_true] at hw
   have:=of_decide_eq_true hw.2
   omega
  rw [if_pos rfl,tokb_I l (by omega),Option.bind_some,Bool.true_and]
 | false => rw [if_neg (by decide),Bool.false_and]
theorem token_S (l : List UInt8) (h : l.length ≤ 100000000) (K : Nat) (hK : l.length + 50 ≤ K) : spec_l3Token.f K (tx l) = some (tokL l):=by
 have:=token_l l [] K h hK
 unfold tokL
 rw [Bool.and_comm]
 exact this
theorem tokL_len (l : List UInt8) (h : tokL l = true) : l.length ≤ 60:=by
 unfold tokL at h
 rw [Bool.and_eq_true,Bool.and_eq_true] at h
 have:=of_decide_eq_true h.1.2
 omega
theorem isPrinted_I (l : List UInt8) (n : Nat) (hn : n ≤ 100000) : impl_isPrinted.f (tx l) (n : Int) = some (decide (l.length ≤ n) && l.all prB):=by
 unfold impl_isPrinted.f
 rw [tx_size]
 by_cases c : l.length ≤ n
 ·rw [if_pos (by omega),printed_I l (by omega),decide_eq_true c,Bool.true_and];rfl
 ·rw [if_neg (by omega),decide_eq_false c,Bool.false_and]
noncomputable def gdL (n v : List UInt8) : Bool:=tokL n && (v.all prB && (decide (v.length ≤ 300) && decide (trimB v = v)))
theorem beq_tx (a b : List UInt8) : ((tx a).toList == (tx b).toList) = decide (a = b):=by
 rw [tx_toList,tx_toList,Bool.eq_iff_iff,beq_iff_eq,decide_eq_true_iff]
theorem good_I (n v : List UInt8) (K : Nat) (hK : 400 ≤ K) : impl_GoodField.f K (tx n) (tx v) = some (gdL n v):=by
 unfold impl_GoodField.f gdL
 rw [token_I,Option.bind_some]
 cases tokL n with
 | false => rfl
 | true =>
  have e:=isPrinted_I v 300 (by decide)
  rw [if_pos rfl,show (300 : Int) = ((300 : Nat) : Int) from rfl,e,Option.bind_some,Bool.true_and]
  by_cases c : v.length ≤ 300
  ·rw [decide_eq_true c,Bool.true_and,Bool.true_and]
   cases v.all prB with
   | false => rfl
   | true =>
    rw [if_pos rfl,trimI K v (by omega) (by omega),Option.bind_some,beq_tx,Bool.true_and]
  ·rw [decide_eq_false c,Bool.false_and,Bool.false_and,Bool.and_false];rfl
theorem ends_core (v : List UInt8) (hl : v.length ≤ 100000000) : (if ((tx v).size : Int) = 0 then (some true) else (if 0 < ((tx v).size : Int) then (if (bt (tx v) 0) = 32 then (some false) else (if 0 ≤ (wrap64 (((tx v).size : Int) - 1)) then (if (wrap64 (((tx v).size : Int) - 1)) < ((tx v).size : Int) then (some ((bt (tx v) (wrap64 (((tx v).size : Int) - 1))) != 32)) else (none)) else (none))) else (none))) = some (decide (trimB v = v)):=by
 rw [tx_size]
 cases v with
 | nil =>
  have : trimB [] = []:=by
   obtain ⟨i,j,e,hc,hz⟩:=trimB_form []
   have:=(List.append_eq_nil_iff.mp e.symm).1
   exact (List.append_eq_nil_iff.mp this).2
  rw [this];rfl
 | cons b r =>
  have h1 : ¬ (((b :: r).length : Nat) : Int) = 0:=by rw [List.length_cons];omega
  have h2 : (0 : Int) < (((b :: r).length : Nat) : Int):=by rw [List.length_cons];omega
  have hb : bt (tx (b :: r)) 0 = (b.toNat : Int):=bt_tx (b :: r) 0 (by simp)
  rw [if_neg h1,if_pos h2,hb]
  by_cases c : b = 32
  ·subst c
   rw [if_pos (by decide),decide_eq_false]
   intro he
   obtain ⟨i,j,e,hc,hz⟩:=trimB_form ((32 : UInt8) :: r)
   rw [he] at hc
   exact hc.1 32 r rfl rfl
  ·rw [if_neg (fun hh => c (UInt8.toNat_inj.mp (by show b.toNat = 32;omega)))]
   obtain ⟨T,d,hT⟩ : ∃ T d,b :: r = T ++ [d]:=⟨(b :: r).dropLast,(b :: r).getLast (by simp),(List.dropLast_concat_getLast (by simp)).symm⟩
   have hlen : (b :: r).length = T.length + 1:=by rw [hT];simp
   have hw : wrap64 ((((b :: r).length : Nat) : Int) - 1) = (T.length : Int):=by rw [w64 (by omega) (by omega)];omega
   have hd : bt (tx (b :: r)) (T.length : Int) = (d.toNat : Int):=by rw [hT];exact bt_at T [] d
   rw [hw,if_pos (by omega),if_pos (by omega),hd]
   congr 1
   rw [Bool.eq_iff_iff,bne_iff_ne,decide_eq_true_iff]
   constructor
   ·intro h
    apply core_trim
    refine ⟨fun b' r' e => ?_,fun r' b' e => ?_⟩
    ·injection e with e1 e2
     rw [← e1];exact c
    ·rw [hT] at e
     have:=(List.append_inj' e rfl).2
     injection this with e1 e2
     rw [← e1]
     intro h3;apply h;rw [h3];rfl
   ·intro he h
    obtain ⟨i,j,e,hc,hz⟩:=trimB_form (b :: r)
    rw [he] at hc
    exact hc.2 T d hT (UInt8.toNat_inj.mp (by show d.toNat = 32;omega))
theorem goodF_S (n v : List UInt8) (hn : n.length ≤ 100000000) (hv : v.length ≤ 100000000) (K : Nat) (hK : n.length + v.length + 60 ≤ K) : spec_GoodField.f K (tx n) (tx v) = some (gdL n v):=by
 unfold spec_GoodField.f gdL
 rw [token_S n hn K (by omega),Option.bind_some]
 cases tokL n with
 | false => rfl
 | true =>
  have e : spec_l3Printed.f K (tx v) = some (v.all prB):=printed_l v [] K hv (by omega)
  rw [if_pos rfl,e,Option.bind_some,Bool.true_and]
  cases v.all prB with
  | false => rfl
  | true =>
   rw [if_pos rfl,Bool.true_and,ends_core v hv,tx_size]
   by_cases c : v.length ≤ 300
   ·rw [if_pos (by omega),decide_eq_true c,Bool.true_and]
   ·rw [if_neg (by omega),decide_eq_false c,Bool.false_and]
noncomputable def gd (x : S105) : Bool:=gdL x.f0.data.toList x.f1.data.toList
noncomputable def gdAll (l : List S105) : Bool:=decide (l.length ≤ 40) && l.all gd
def Fits (l : List S105) : Prop:=∀ x ∈ l,x.f0.data.toList.length ≤ 100000000 ∧ x.f1.data.toList.length ≤ 100000000
theorem rd_at (l : List S105) (i : Nat) (h : i < l.length) : rd_T105 l (i : Int) = l[i]:=rdP_nat l i h
theorem c_lt (i n : Nat) (h : i < n) : (i : Int) < (n : Int):=Int.ofNat_lt.mpr h
theorem w_i (i n : Nat) (h : i < n) (h2 : n ≤ 1000000000000) : wrap64 ((i : Int) + 1) = ((i + 1 : Nat) : Int):=by rw [w64 (by omega) (by omega)];omega
theorem areF_I (l : List S105) (K : Nat) (hK : 400 ≤ K) : impl_areFields.f K l = some (gdAll l):=by
 unfold impl_areFields.f gdAll
 by_cases c : (l.length : Int) ≤ 40
 ·rw [if_pos c,decide_eq_true (show l.length ≤ 40 by omega),Bool.true_and]
  unfold xAll_T105_impl_GoodField.f
  rw [if_pos (by omega)]
  obtain ⟨i,e,g⟩:=idxO_mem (xAll_T105_impl_GoodField.z K) gd l (fun x hx => by
   unfold xAll_T105_impl_GoodField.z gd
   have:=good_I x.f0.data.toList x.f1.data.toList K hK
   rw [tx_data,tx_data] at this
   rw [this];rfl) 0 (by decide)
  rw [e,Option.bind_some,Option.bind_some,g]
 ·rw [if_neg c,decide_eq_false (show ¬ l.length ≤ 40 by omega),Bool.false_and]
theorem areF_Sl (l : List S105) (hb : l.length ≤ 1000000000000) (hf : Fits l) : ∀ (m K i : Nat),i + m = l.length → m + 200000100 < K → spec_l3Fields.l0 K l l (l.length : Int) (i : Int) = some ((l.drop i).all gd && decide (l.length ≤ 40))
 | m,0,i,_,hK => absurd hK (Nat.not_lt_zero _)
 | 0,K + 1,i,hi,hK => by
  have e : i = l.length:=hi
  subst e
  unfold spec_l3Fields.l0
  rw [if_neg (Int.lt_irrefl _),List.drop_length]
  by_cases c : l.length ≤ 40
  ·rw [decide_eq_true c,decide_eq_true (by omega)];rfl
  ·rw [decide_eq_false c,decide_eq_false (by omega)];rfl
 | m + 1,K + 1,i,hi,hK => by
  have hlt : i < l.length:=by omega
  have hx:=hf _ (List.getElem_mem hlt)
  have hg:=goodF_S l[i].f0.data.toList l[i].f1.data.toList hx.1 hx.2 K (by omega)
  rw [tx_data,tx_data] at hg
  unfold spec_l3Fields.l0
  rw [if_pos (c_lt _ _ hlt),if_pos (Int.natCast_nonneg i),if_pos (c_lt _ _ hlt),rd_at l i hlt,hg,Option.bind_some,List.drop_eq_getElem_cons hlt,List.all_cons]
  have hgd : gdL l[i].f0.data.toList l[i].f1.data.toList = gd l[i]:=rfl
  rw [hgd]
  cases gd l[i] with
  | true => rw [if_pos rfl,w_i i _ hlt hb,areF_Sl l hb hf m K (i + 1) (by omega) (by omega),Bool.true_and]
  | false => rw [if_neg (show ¬ false = true by decide)];rfl
theorem areF_S (l : List S105) (hb : l.length ≤ 100000000) (hf : Fits l) (K : Nat) (hK : 400000000 ≤ K) : spec_l3Fields.f K l = some (gdAll l):=by
 unfold spec_l3Fields.f gdAll
 rw [Bool.and_comm]
 exact areF_Sl l (by omega) hf l.length K 0 (Nat.zero_add _) (by omega)
def low (s : ByteArray) : ByteArray:=⟨s.data.map lowB⟩
def eqn (a b : ByteArray) : Bool:=(low a).toList == (low b).toList
theorem eqn_iff (a b : ByteArray) : eqn a b = true ↔ (low a).toList = (low b).toList:=by unfold eqn;exact beq_iff_eq
def valsL (n : ByteArray) : List S105 → List ByteArray
 | [] => []
 | x :: xs => if eqn x.f0 n then x.f1 :: valsL n xs else valsL n xs
def Names (l : List S105) : Prop:=∀ x ∈ l,x.f0.size < 100000000
theorem smallI (n : ByteArray) (h : n.size < 100000000) : impl_small.f n = some (low n):=by
 unfold impl_small.f
 rw [if_pos h];rfl
theorem lowS (n : ByteArray) (h : n.size < 100000000) : spec_l1Lower.f n = some (low n):=by
 unfold spec_l1Lower.f
 rw [if_pos h];rfl
theorem isS (a b n : ByteArray) (ha : a.size < 100000000) (hn : n.size < 100000000) : spec_l3Is.f a b n = some (eqn a n):=by
 unfold spec_l3Is.f
 rw [lowS a ha,Option.bind_some,lowS n hn];rfl
theorem valsI_l (l : List S105) (n : ByteArray) (h : Names l) (hn : n.size < 100000000) (hl : l.length ≤ 100000000) : ∀ (m K i : Nat) (acc : List ByteArray),i + m = l.length → m < K → acc.length ≤ i → impl_valuesOf.l0 K n acc l (l.length : Int) (i : Int) = some (acc ++ valsL n (l.drop i))
 | m,0,i,acc,_,hK,_ => absurd hK (Nat.not_lt_zero _)
 | 0,K + 1,i,acc,hi,hK,ha => by
  have e : i = l.length:=hi
  subst e
  unfold impl_valuesOf.l0
  rw [if_neg (Int.lt_irrefl _),List.drop_length]
  show _ = some (acc ++ [])
  rw [List.append_nil]
 | m + 1,K + 1,i,acc,hi,hK,ha => by
  have hlt : i < l.length:=by omega
  have hx:=h _ (List.getElem_mem hlt)
  have hla : acc.length < 8796093022208:=by omega
  have e2 : valsL n (l[i] :: l.drop (i + 1)) = if eqn l[i].f0 n then l[i].f1 :: valsL n (l.drop (i + 1)) else valsL n (l.drop (i + 1)):=rfl
  unfold impl_valuesOf.l0
  rw [if_pos (c_lt _ _ hlt),if_pos (Int.natCast_nonneg i),if_pos (c_lt _ _ hlt),rd_at l i hlt,smallI _ hx,Option.bind_some,smallI n hn,Option.bind_some,w_i i _ hlt (by omega),List.drop_eq_getElem_cons hlt,e2]
  by_cases c : (low l[i].f0).toList = (low n).toList
  ·rw [if_pos c,if_pos ((eqn_iff _ _).mpr c),if_pos hla,valsI_l l n h hn hl m K (i + 1) _ (by omega) (by omega) (by simp;omega),List.append_assoc];rfl
  ·rw [if_neg c,if_neg (fun z => c ((eqn_iff _ _).mp z))]
   exact valsI_l l n h hn hl m K (i + 1) acc (by omega) (by omega) (by omega)
theorem valsS_l (l : List S105) (n : ByteArray) (h : Names l) (hn : n.size < 100000000) (hl : l.length ≤ 100000000) : ∀ (m K i : Nat) (acc : List ByteArray),i + m = l.length → m < K → acc.length ≤ i → spec_l3Values.l0 K n acc l (l.length : Int) (i : Int) = some (acc ++ valsL n (l.drop i))
 | m,0,i,acc,_,hK,_ => absurd hK (Nat.not_lt_zero _)
 | 0,K + 1,i,acc,hi,hK,ha => by
  have e : i = l.length:=hi
  subst e
  unfold spec_l3Values.l0
  rw [if_neg (Int.lt_irrefl _),List.drop_length]
  show _ = some (acc ++ [])
  rw [List.append_nil]
 | m + 1,K + 1,i,acc,hi,hK,ha => by
  have hlt : i < l.length:=by omega
  have hx:=h _ (List.getElem_mem hlt)
  have hla : acc.length < 8796093022208:=by omega
  have e2 : valsL n (l[i] :: l.drop (i + 1)) = if eqn l[i].f0 n then l[i].f1 :: valsL n (l.drop (i + 1)) else valsL n (l.drop (i + 1)):=rfl
  unfold spec_l3Values.l0
  rw [if_pos (c_lt _ _ hlt),if_pos (Int.natCast_nonneg i),if_pos (c_lt _ _ hlt),rd_at l i hlt,isS _ _ n hx hn,Option.bind_some,w_i i _ hlt (by omega),List.drop_eq_getElem_cons hlt,e2]
  cases eqn l[i].f0 n with
  | true => rw [if_pos rfl,if_pos rfl,if_pos hla,valsS_l l n h hn hl m K (i + 1) _ (by omega) (by omega) (by simp;omega),List.append_assoc];rfl
  | false =>
   rw [if_neg (show ¬ false = true by decide),if_neg (show ¬ false = true by decide)]
   exact valsS_l l n h hn hl m K (i + 1) acc (by omega) (by omega) (by omega)
theorem valsI (l : List S105) (n : ByteArray) (h : Names l) (hn : n.size < 100000000) (hl : l.length ≤ 100000000) (K : Nat) (hK : l.length < K) : impl_valuesOf.f K l n = some (valsL n l):=by
 have e:=valsI_l l n h hn hl l.length K 0 [] (Nat.zero_add _) hK (Nat.le_refl _)
 exact e
theorem valsS (l : List S105) (n : ByteArray) (h : Names l) (hn : n.size < 100000000) (hl : l.length ≤ 100000000) (K : Nat) (hK : l.length < K) : spec_l3Values.f K l n = some (valsL n l):=by
 have e:=valsS_l l n h hn hl l.length K 0 [] (Nat.zero_add _) hK (Nat.le_refl _)
 exact e
theorem vals_mem (n : ByteArray) : ∀ (l : List S105),∀ v ∈ valsL n l,∃ x ∈ l,x.f1 = v
 | [],v,h => absurd h (List.not_mem_nil)
 | x :: xs,v,h => by
  unfold valsL at h
  split at h
  ·rcases List.mem_cons.mp h with h | h
   ·exact ⟨x,List.mem_cons_self,h.symm⟩
   ·obtain ⟨y,h1,h2⟩:=vals_mem n xs v h
    exact ⟨y,List.mem_cons_of_mem _ h1,h2⟩
  ·obtain ⟨y,h1,h2⟩:=vals_mem n xs v h
   exact ⟨y,List.mem_cons_of_mem _ h1,h2⟩
theorem vals_len (n : ByteArray) : ∀ l : List S105,(valsL n l).length ≤ l.length
 | [] => Nat.le_refl _
 | x :: xs => by
  have ih:=vals_len n xs
  unfold valsL
  rw [List.length_cons]
  split
  ·rw [List.length_cons];omega
  ·omega
theorem gdAll_fit (l : List S105) (h : gdAll l = true) : l.length ≤ 40 ∧ ∀ x ∈ l,x.f0.size ≤ 60 ∧ x.f1.size ≤ 300:=by
 unfold gdAll at h
 rw [Bool.and_eq_true] at h
 refine ⟨of_decide_eq_true h.1,fun x hx => ?_⟩
 have hg:=List.all_eq_true.mp h.2 x hx
 unfold gd gdL at hg
 rw [Bool.and_eq_true,Bool.and_eq_true,Bool.and_eq_true] at hg
 exact ⟨by have:=tokL_len _ hg.1;rw [Array.length_toList] at this;exact this,by have:=of_decide_eq_true hg.2.2.1;rw [Array.length_toList] at this;exact this⟩
theorem numstep (a n : Nat) (ha : a < 1000000000) (h1 : 48 ≤ n) (h2 : n ≤ 57) : wrap64 (wrap64 (10 * (a : Int)) + (((n : Int) - 48) % 256)) = ((a * 10 + (n - 48) : Nat) : Int):=by
 rw [w64 (x:=10 * (a : Int)) (by omega) (by omega),w64 (by omega) (by omega)];omega
theorem powstep (a n x : Nat) (ha : a < x) (h2 : n ≤ 57) : a * 10 + (n - 48) < x * 10:=by omega
theorem p9 (p a : Nat) (h : a < 10 ^ p) (hp : p ≤ 9) : a < 1000000000:=Nat.lt_of_lt_of_le h (Nat.pow_le_pow_right (n:=10) (by decide) hp)
theorem pos9 (p m : Nat) (h : p + (m + 1) ≤ 9) : (p : Int) < (p : Int) + ((m : Int) + 1) ∧ (0 : Int) ≤ (p : Int) ∧ wrap64 (0 + ((p : Int) + ((m : Int) + 1))) = (p : Int) + ((m : Int) + 1) ∧ wrap64 ((p : Int) + 1) = (p : Int) + 1 ∧ p ≤ 9:=by
 refine ⟨by omega,by omega,?_,w64 (by omega) (by omega),by omega⟩
 rw [w64 (by omega) (by omega)];omega
theorem pos0 (p : Nat) (h : p ≤ 9) : wrap64 (0 + (p : Int)) = (p : Int):=by rw [w64 (by omega) (by omega)];omega
theorem number_l : ∀ (M pre : List UInt8) (K a : Nat),(pre ++ M).length ≤ 9 → a < 10 ^ pre.length → M.length < K → spec_l2Number.l0 K (tx (pre ++ M)) 0 (((pre ++ M).length : Nat) : Int) (a : Int) (pre.length : Int) = some (match Lib.decFrom a M with | some v => (v : Int) | none => -1)
 | M,pre,0,a,_,_,h => absurd h (Nat.not_lt_zero _)
 | [],pre,K + 1,a,hl,ha,h => by
  rw [List.append_nil] at hl ⊢
  unfold spec_l2Number.l0
  rw [pos0 _ hl,if_neg (Int.lt_irrefl _)];rfl
 | b :: M,pre,K + 1,a,hl,ha,h => by
  have hl2 : pre.length + (M.length + 1) ≤ 9:=by rw [List.length_append,List.length_cons] at hl;exact hl
  obtain ⟨q1,q2,q3,q4,q5⟩:=pos9 pre.length M.length hl2
  have hlen:=lenC pre b M
  have hs : ((tx (pre ++ b :: M)).size : Int) = (pre.length : Int) + ((M.length : Int) + 1):=by rw [tx_size];exact hlen
  have hbt:=bt_at pre M b
  have hp9:=p9 _ _ ha q5
  have e1 : pre ++ [b] ++ M = pre ++ b :: M:=by simp
  have e2:=lenI pre b
  unfold spec_l2Number.l0
  rw [hlen,q3,hs,hbt,if_pos q1,if_pos q2,if_pos q1,(dig_b b).2.1,Option.bind_some,dec_cons,q4]
  by_cases hb : isDB b = true
  ·have hb2 : 48 ≤ b.toNat ∧ b.toNat ≤ 57:=by unfold isDB at hb;simpa using hb
   have ih:=number_l M (pre ++ [b]) K (a * 10 + (b.toNat - 48)) (by rw [e1];exact hl) (by rw [List.length_append,List.length_singleton,Nat.pow_succ];exact powstep _ _ _ ha hb2.2) (Nat.lt_of_succ_lt_succ h)
   rw [e1,e2,hlen] at ih
   rw [if_pos hb,if_pos hb,numstep a b.toNat hp9 hb2.1 hb2.2,ih]
  ·rw [if_neg hb,if_neg hb]
def crlf : ByteArray:=⟨#[13,10]⟩
def lineH (x : S105) : ByteArray:=((x.f0 ++ (⟨#[58,32]⟩ : ByteArray)) ++ x.f1) ++ (⟨#[13,10]⟩ : ByteArray)
def headL (a : ByteArray) (l : List S105) : ByteArray:=(l.foldl (fun s x => s ++ lineH x) (a ++ crlf)) ++ crlf
theorem line_size (x : S105) : (lineH x).size = x.f0.size + 2 + x.f1.size + 2:=by
 unfold lineH
 rw [ByteArray.size_append,ByteArray.size_append,ByteArray.size_append];rfl
theorem three_fit (a b : ByteArray) (s : Nat) (ha : a.size ≤ 60) (hb : b.size ≤ 300) (hs : s ≤ 2000000000) : a.size + 2 ≤ 9223372036854775807 ∧ (a ++ (⟨#[58,32]⟩ : ByteArray)).size + b.size ≤ 9223372036854775807 ∧ ((a ++ (⟨#[58,32]⟩ : ByteArray)) ++ b).size + 2 ≤ 9223372036854775807 ∧ s + (((a ++ (⟨#[58,32]⟩ : ByteArray)) ++ b) ++ (⟨#[13,10]⟩ : ByteArray)).size ≤ 9223372036854775807:=by
 simp only [ByteArray.size_append]
 have h2 : (⟨#[58,32]⟩ : ByteArray).size = 2:=rfl
 have h3 : (⟨#[13,10]⟩ : ByteArray).size = 2:=rfl
 rw [h2,h3]
 generalize a.size = x at *
 generalize b.size = y at *
 omega
theorem acc_fit (a : ByteArray) (x : S105) (m : Nat) (h0 : x.f0.size ≤ 60) (h1 : x.f1.size ≤ 300) (h : a.size + 364 * (m + 1) ≤ 1000000000) : (a ++ lineH x).size + 364 * m ≤ 1000000000:=by
 rw [ByteArray.size_append,line_size]
 generalize a.size = n at *
 generalize x.f0.size = y at *
 generalize x.f1.size = z at *
 omega
theorem headI_l (l : List S105) (hx : ∀ x ∈ l,x.f0.size ≤ 60 ∧ x.f1.size ≤ 300) (hl : l.length ≤ 40) : ∀ (m K i : Nat) (acc : ByteArray),i + m = l.length → m < K → acc.size + 364 * m ≤ 1000000000 → impl_headText.l0 K acc l (l.length : Int) (i : Int) = some ((l.drop i).foldl (fun s x => s ++ lineH x) acc ++ crlf)
 | m,0,i,acc,_,hK,_ => absurd hK (Nat.not_lt_zero _)
 | 0,K + 1,i,acc,hi,hK,ha => by
  have e : i = l.length:=hi
  subst e
  unfold impl_headText.l0
  rw [if_neg (Int.lt_irrefl _),List.drop_length,if_pos (by omega)];rfl
 | m + 1,K + 1,i,acc,hi,hK,ha => by
  have hlt : i < l.length:=by omega
  have hz:=hx _ (List.getElem_mem hlt)
  obtain ⟨q1,q2,q3,q4⟩:=three_fit l[i].f0 l[i].f1 acc.size hz.1 hz.2 (by omega)
  have ih:=headI_l l hx hl m K (i + 1) (acc ++ lineH l[i]) (by omega) (by omega) (acc_fit acc l[i] m hz.1 hz.2 ha)
  unfold impl_headText.l0
  rw [if_pos (c_lt _ _ hlt),if_pos (Int.natCast_nonneg i),if_pos (c_lt _ _ hlt),rd_at l i hlt,if_pos q1,if_pos q2,if_pos q3,if_pos q4,w_i i _ hlt (by omega),List.drop_eq_getElem_cons hlt,List.foldl_cons]
  exact ih
theorem headS_l (l : List S105) (hx : ∀ x ∈ l,x.f0.size ≤ 60 ∧ x.f1.size ≤ 300) (hl : l.length ≤ 40) : ∀ (m K i : Nat) (acc : ByteArray),i + m = l.length → m < K → acc.size + 364 * m ≤ 1000000000 → spec_l4Head.l0 K acc l (l.length : Int) (i : Int) = some ((l.drop i).foldl (fun s x => s ++ lineH x) acc ++ crlf)
 | m,0,i,acc,_,hK,_ => absurd hK (Nat.not_lt_zero _)
 | 0,K + 1,i,acc,hi,hK,ha => by
  have e : i = l.length:=hi
  subst e
  unfold spec_l4Head.l0
  rw [if_neg (Int.lt_irrefl _),List.drop_length,if_pos (by omega)];rfl
 | m + 1,K + 1,i,acc,hi,hK,ha => by
  have hlt : i < l.length:=by omega
  have hz:=hx _ (List.getElem_mem hlt)
  obtain ⟨q1,q2,q3,q4⟩:=three_fit l[i].f0 l[i].f1 acc.size hz.1 hz.2 (by omega)
  have ih:=headS_l l hx hl m K (i + 1) (acc ++ lineH l[i]) (by omega) (by omega) (acc_fit acc l[i] m hz.1 hz.2 ha)
  unfold spec_l4Head.l0
  rw [if_pos (c_lt _ _ hlt),if_pos (Int.natCast_nonneg i),if_pos (c_lt _ _ hlt),rd_at l i hlt,if_pos q1,if_pos q2,if_pos q3,if_pos q4,w_i i _ hlt (by omega),List.drop_eq_getElem_cons hlt,List.foldl_cons]
  exact ih
theorem head_I (a : ByteArray) (l : List S105) (ha : a.size ≤ 500000000) (hx : ∀ x ∈ l,x.f0.size ≤ 60 ∧ x.f1.size ≤ 300) (hl : l.length ≤ 40) (K : Nat) (hK : 50 ≤ K) : impl_headText.f K a l = some (headL a l):=by
 unfold impl_headText.f
 rw [if_pos (by omega)]
 have hs : (a ++ crlf).size = a.size + 2:=by rw [ByteArray.size_append];rfl
 exact headI_l l hx hl l.length K 0 (a ++ crlf) (Nat.zero_add _) (by omega) (by rw [hs];omega)
theorem head_S (a : ByteArray) (l : List S105) (ha : a.size ≤ 500000000) (hx : ∀ x ∈ l,x.f0.size ≤ 60 ∧ x.f1.size ≤ 300) (hl : l.length ≤ 40) (K : Nat) (hK : 50 ≤ K) : spec_l4Head.f K a l = some (headL a l):=by
 unfold spec_l4Head.f
 rw [if_pos (by omega)]
 have hs : (a ++ crlf).size = a.size + 2:=by rw [ByteArray.size_append];rfl
 exact headS_l l hx hl l.length K 0 (a ++ crlf) (Nat.zero_add _) (by omega) (by rw [hs];omega)
def numP (p : List UInt8) : Option Nat:=if p.length ≤ 9 ∧ p.all isDB = true ∧ p ≠ [] then Lib.decFrom 0 p else none
theorem parse_ok : ∀ (l : List UInt8) (a v : Nat),l.all isDB = true → Lib.decFrom a l = some v → (a + 1) * 10 ^ l.length ≤ 10000000000 → Lib.parseUint10 a l = .ok v
 | [],a,v,_,h,_ => by
  have : a = v:=Option.some.inj h
  rw [this];rfl
 | b :: r,a,v,hd,h,hb => by
  rw [List.all_cons,Bool.and_eq_true] at hd
  have h2 : 48 ≤ b.toNat ∧ b.toNat ≤ 57:=by have:=hd.1;unfold isDB at this;simpa using this
  rw [dec_cons,if_pos hd.1] at h
  have hle : (a * 10 + (b.toNat - 48) + 1) * 10 ^ r.length ≤ 10000000000:=by
   refine Nat.le_trans ?_ hb
   have e : (a + 1) * 10 ^ (b :: r).length = ((a + 1) * 10) * 10 ^ r.length:=by
    rw [List.length_cons,Nat.pow_succ,Nat.mul_comm (10 ^ r.length) 10,← Nat.mul_assoc]
   rw [e]
   exact Nat.mul_le_mul_right _ (by omega)
  have hpos : 0 < 10 ^ r.length:=Nat.pow_pos (by decide)
  have hsm : a * 10 + (b.toNat - 48) + 1 ≤ 10000000000:=Nat.le_trans (Nat.le_mul_of_pos_right _ hpos) hle
  unfold Lib.parseUint10
  rw [if_pos h2,if_neg (by omega),if_neg (by omega)]
  exact parse_ok r _ v hd.2 h hle
theorem atoi_dig (p : List UInt8) (v : Nat) (h : numP p = some v) : strconv_Atoi.f (tx p) = some ((v : Int),none) ∧ v < 1000000000:=by
 unfold numP at h
 split at h
 ·rename_i hc
  obtain ⟨h1,h2,h3⟩:=hc
  obtain ⟨v',e,hv⟩:=dec_some p 0 h2
  rw [h] at e
  obtain rfl:=Option.some.inj e
  have hpw : 10 ^ p.length ≤ 10 ^ 9:=Nat.pow_le_pow_right (by decide) h1
  have hv2 : v < 1000000000:=by omega
  refine ⟨?_,hv2⟩
  cases p with
  | nil => exact absurd rfl h3
  | cons c r =>
   have hd:=h2
   rw [List.all_cons,Bool.and_eq_true] at hd
   have hc2 : 48 ≤ c.toNat ∧ c.toNat ≤ 57:=by have:=hd.1;unfold isDB at this;simpa using this
   have hp:=parse_ok (c :: r) 0 v h2 h (by omega)
   unfold strconv_Atoi.f
   rw [tx_size,if_pos (by omega),tx_list]
   unfold Lib.atoiAll Lib.parseMag
   simp only []
   have hn : ¬ (c.toNat = 43 ∨ c.toNat = 45):=by omega
   have hn2 : ¬ c.toNat = 45:=by omega
   rw [if_neg hn,if_neg (by simp),hp]
   simp only []
   rw [if_neg (fun hh => by omega),if_neg (fun hh => hn2 hh.1),if_neg hn2]
 ·cases h
theorem atoi_some (p : List UInt8) (hl : p.length ≤ 100000000) : ∃ a b,strconv_Atoi.f (tx p) = some (a,b):=by
 unfold strconv_Atoi.f
 rw [tx_size,if_pos (by omega)]
 cases Lib.atoiAll (tx p).data.toList with
 | ok v => exact ⟨_,_,rfl⟩
 | «syntax» => exact ⟨_,_,rfl⟩
 | range => exact ⟨_,_,rfl⟩
theorem bigpos (p m : Nat) (h : p + (m + 1) ≤ 100000000) : (p : Int) < (p : Int) + ((m : Int) + 1) ∧ (0 : Int) ≤ (p : Int) ∧ wrap64 (0 + ((p : Int) + ((m : Int) + 1))) = (p : Int) + ((m : Int) + 1) ∧ wrap64 ((p : Int) + 1) = (p : Int) + 1:=by
 refine ⟨by omega,by omega,?_,w64 (by omega) (by omega)⟩
 rw [w64 (by omega) (by omega)];omega
theorem number_any : ∀ (M pre : List UInt8) (K : Nat) (a : Int),(pre ++ M).length ≤ 100000000 → M.length < K → ∃ t,spec_l2Number.l0 K (tx (pre ++ M)) 0 (((pre ++ M).length : Nat) : Int) a (pre.length : Int) = some t
 | M,pre,0,a,_,h => absurd h (Nat.not_lt_zero _)
 | [],pre,K + 1,a,hl,h => by
  rw [List.append_nil] at hl ⊢
  unfold spec_l2Number.l0
  rw [show wrap64 (0 + (pre.length : Int)) = (pre.length : Int) by rw [w64 (by omega) (by omega)];omega,if_neg (Int.lt_irrefl _)]
  exact ⟨_,rfl⟩
 | b :: M,pre,K + 1,a,hl,h => by
  have hl2 : pre.length + (M.length + 1) ≤ 100000000:=by rw [List.length_append,List.length_cons] at hl;exact hl
  obtain ⟨q1,q2,q3,q4⟩:=bigpos pre.length M.length hl2
  have hlen:=lenC pre b M
  have hs : ((tx (pre ++ b :: M)).size : Int) = (pre.length : Int) + ((M.length : Int) + 1):=by rw [tx_size];exact hlen
  have hbt:=bt_at pre M b
  have e1 : pre ++ [b] ++ M = pre ++ b :: M:=by simp
  have e2:=lenI pre b
  unfold spec_l2Number.l0
  rw [hlen,q3,hs,hbt,if_pos q1,if_pos q2,if_pos q1,(dig_b b).2.1,Option.bind_some,q4]
  by_cases hb : isDB b = true
  ·obtain ⟨t,ih⟩:=number_any M (pre ++ [b]) K (wrap64 (wrap64 (10 * a) + (((b.toNat : Int) - 48) % 256))) (by rw [e1];exact hl) (Nat.lt_of_succ_lt_succ h)
   rw [e1,e2,hlen] at ih
   rw [if_pos hb]
   exact ⟨t,ih⟩
  ·rw [if_neg hb]
   exact ⟨_,rfl⟩
theorem number_P (p : List UInt8) (hl : p.length ≤ 100000000) (hne : p ≠ []) (K : Nat) (hK : p.length < K) : ∃ t,spec_l2Number.f K (tx p) 0 ((tx p).size : Int) = some t ∧ (∀ v,numP p = some v → t = (v : Int)) ∧ (numP p = none → t < 0 ∨ p.length > 9):=by
 have hw : wrap64 (0 + (((tx p).size : Nat) : Int)) = (((tx p).size : Nat) : Int):=by rw [tx_size,w64 (by omega) (by omega)];omega
 unfold spec_l2Number.f
 rw [hw,if_neg (Int.lt_irrefl _),tx_size]
 by_cases c : p.length ≤ 9
 ·have h:=number_l p [] K 0 c (by simp) hK
  refine ⟨_,h,fun v hv => ?_,fun hn => ?_⟩
  ·unfold numP at hv
   split at hv
   ·rw [hv]
   ·cases hv
  ·left
   have hd : p.all isDB = false:=by
    cases hq : p.all isDB with
    | false => rfl
    | true =>
     obtain ⟨v,e,_⟩:=dec_some p 0 hq
     unfold numP at hn
     rw [if_pos ⟨c,hq,hne⟩,e] at hn
     cases hn
   rw [dec_none p 0 hd]
   decide
 ·obtain ⟨t,h⟩:=number_any p [] K 0 hl hK
  refine ⟨t,h,fun v hv => ?_,fun _ => .inr (by omega)⟩
  unfold numP at hv
  rw [if_neg (fun hh => c hh.1)] at hv
  cases hv
def lenParts : Option Nat → List (List UInt8) → Option (Option Nat)
 | st,[] => some st
 | st,p :: ps => match numP p with
  | none => none
  | some v => if st = none ∨ st = some v then lenParts (some v) ps else none
noncomputable def lenVals : Option Nat → List (List UInt8) → Option (Option Nat)
 | st,[] => some st
 | st,v :: vs => match lq [] 0 v with
  | none => none
  | some [] => none
  | some (p :: ps) => match lenParts st (p :: ps) with
   | none => none
   | some st2 => lenVals st2 vs
def stV : Option Nat → Int
 | none => 0
 | some v => (v : Int)
def stN : Option Nat → Int
 | none => -1
 | some v => (v : Int)
def ansI : Option (Option Nat) → Int × Bool × Bool
 | none => (0,false,false)
 | some st => (stV st,st.isSome,true)
def ansS : Option (Option Nat) → Int
 | none => -2
 | some st => stN st
theorem rdT (P : List (List UInt8)) (j : Nat) (h : j < P.length) : rdOf ByteArray.empty (P.map tx) (j : Int) = tx P[j]:=by
 rw [rdS_nat (P.map tx) j (by rw [List.length_map];exact h)]
 simp
theorem numP_some (p : List UInt8) (v : Nat) (h : numP p = some v) : p.length ≤ 9 ∧ p.all isDB = true:=by
 unfold numP at h
 split at h
 ·rename_i hc;exact ⟨hc.1,hc.2.1⟩
 ·cases h
theorem numP_none (p : List UInt8) (hne : p ≠ []) (h : numP p = none) (hl : p.length ≤ 9) : p.all isDB = false:=by
 cases hq : p.all isDB with
 | false => rfl
 | true =>
  obtain ⟨v,e,_⟩:=dec_some p 0 hq
  unfold numP at h
  rw [if_pos ⟨hl,hq,hne⟩,e] at h
  cases h
def PartsOk (P : List (List UInt8)) : Prop:=(∀ p ∈ P,p ≠ [] ∧ p.length ≤ 100000000) ∧ P.length ≤ 100000000
theorem lenI_in (vs : List ByteArray) (i : Nat) (hi : i < 100000000) (R : Option Nat → Int × Bool × Bool) (Hout : ∀ st,Ev (fun K => impl_lengthOf.l0 K (stV st) st.isSome vs (vs.length : Int) ((i + 1 : Nat) : Int)) (R st)) (P : List (List UInt8)) (hP : PartsOk P) : ∀ (m j : Nat) (st : Option Nat),j + m = P.length →
  Ev (fun K => impl_lengthOf.l1 K (stV st) st.isSome vs (vs.length : Int) (i : Int) (P.map tx) ((P.map tx).length : Int) (j : Int)) (match lenParts st (P.drop j) with | none => (0,false,false) | some st2 => R st2)
 | 0,j,st,hj => by
  obtain ⟨N,hN⟩:=Hout st
  refine ⟨N + 1,fun K hK => ?_⟩
  obtain ⟨k,rfl⟩ : ∃ k,K = k + 1:=⟨K - 1,by omega⟩
  dsimp only
  have e : j = P.length:=hj
  subst e
  have hw : wrap64 ((i : Int) + 1) = ((i + 1 : Nat) : Int):=by rw [w64 (by omega) (by omega)];omega
  unfold impl_lengthOf.l1
  rw [List.length_map,if_neg (Int.lt_irrefl _),hw,List.drop_length]
  exact hN k (by omega)
 | m + 1,j,st,hj => by
  have hlt : j < P.length:=by omega
  have hp:=hP.1 _ (List.getElem_mem hlt)
  have hL:=hP.2
  have e0 : ((P.map tx).length : Int) = (P.length : Int):=by rw [List.length_map]
  have hs : ((tx P[j]).size : Int) = (P[j].length : Int):=by rw [tx_size]
  have e2 : lenParts st (P[j] :: P.drop (j + 1)) = (match numP P[j] with
   | none => none
   | some v => if st = none ∨ st = some v then lenParts (some v) (P.drop (j + 1)) else none):=by rw [lenParts]
  rw [List.drop_eq_getElem_cons hlt,e2,e0]
  cases hn : numP P[j] with
  | none =>
   obtain ⟨a,b,hab⟩:=atoi_some P[j] hp.2
   refine ⟨1,fun K hK => ?_⟩
   obtain ⟨k,rfl⟩ : ∃ k,K = k + 1:=⟨K - 1,by omega⟩
   dsimp only
   unfold impl_lengthOf.l1
   rw [if_pos (c_lt _ _ hlt),if_pos (Int.natCast_nonneg j),e0,if_pos (c_lt _ _ hlt),rdT P j hlt,hab,Option.bind_some]
   cases b with
   | some q => rfl
   | none =>
    rw [if_pos (show (a,(none : Option Int)).2.isNone = true from rfl),hs]
    by_cases c : P[j].length ≤ 9
    ·rw [if_neg (by omega),digits_I _ (by omega),Option.bind_some,numP_none _ hp.1 hn c];rfl
    ·rw [if_pos (by omega)]
  | some v =>
   obtain ⟨ha,hv⟩:=atoi_dig _ _ hn
   obtain ⟨h9,hd⟩:=numP_some _ _ hn
   have ih:=lenI_in vs i hi R Hout P hP m (j + 1) (some v) (by omega)
   obtain ⟨N,hN⟩:=ih
   refine ⟨N + 1,fun K hK => ?_⟩
   obtain ⟨k,rfl⟩ : ∃ k,K = k + 1:=⟨K - 1,by omega⟩
   dsimp only
   have hk:=hN k (by omega)
   dsimp only at hk
   rw [e0] at hk
   unfold impl_lengthOf.l1
   rw [if_pos (c_lt _ _ hlt),if_pos (Int.natCast_nonneg j),e0,if_pos (c_lt _ _ hlt),rdT P j hlt,ha,Option.bind_some,if_pos (show ((v : Int),(none : Option Int)).2.isNone = true from rfl),hs,if_neg (by omega),digits_I _ (by omega),Option.bind_some,hd,if_pos rfl,w_i j _ hlt (by omega)]
   cases st with
   | none =>
    rw [if_neg (by decide),if_pos (.inl rfl)]
    exact hk
   | some u =>
    have hsu : (some u : Option Nat).isSome = true:=rfl
    rw [hsu,if_pos rfl]
    by_cases c : u = v
    ·subst c
     rw [if_pos (show ((u : Int) = stV (some u)) from rfl),if_pos (.inr rfl)]
     exact hk
    ·rw [if_neg (show ¬ ((v : Int) = stV (some u)) from fun hh => c (by have : (v : Int) = (u : Int):=hh;omega)),if_neg (fun hh => by rcases hh with hh | hh;cases hh;exact c (Option.some.inj hh))]
theorem parts_ok (T : List UInt8) (hT : T.length ≤ 50000000) (L : List (List UInt8)) (h : lq [] 0 T = some L) : PartsOk L:=by
 have h1:=lq_parts T [] 0 L rfl h
 have h2:=lq_len T [] 0 L h
 have h3 : ∀ (L : List (List UInt8)),L.length ≤ lenS L ∧ ∀ p ∈ L,p.length ≤ lenS L:=by
  intro L
  induction L with
  | nil => exact ⟨Nat.zero_le _,fun p hp => absurd hp List.not_mem_nil⟩
  | cons x xs ih =>
   rw [lenS_cons,List.length_cons]
   refine ⟨by have:=ih.1;omega,fun p hp => ?_⟩
   rcases List.mem_cons.mp hp with rfl | hp
   ·omega
   ·have:=ih.2 p hp;omega
 have h4:=h3 L
 rw [List.length_nil] at h2
 exact ⟨fun p hp => ⟨(h1 p hp).2.1,by have:=h4.2 p hp;omega⟩,by have:=h4.1;omega⟩
theorem plI (T : List UInt8) (hT : T.length ≤ 50000000) (K : Nat) (hK : 5 * T.length + 20 ≤ K) : Res [] (lq [] 0 T) (impl_listOf.f K (tx T)) :=
 lqI T (by omega) T [] [] [] 0 K rfl (.inl rfl) (Nat.le_refl _) (by omega)
theorem plS (T : List UInt8) (hT : T.length ≤ 50000000) (K : Nat) (hK : 5 * T.length + 20 ≤ K) : Res [] (lq [] 0 T) (spec_l3List.f K (tx T)) :=
 lqS T (by omega) T [] [] [] 0 K rfl (.inl rfl) (Nat.le_refl _) (by omega)
theorem lenI_out (V : List (List UInt8)) (hV : ∀ v ∈ V,v.length ≤ 50000000) (hl : V.length ≤ 10000000) : ∀ (m i : Nat) (st : Option Nat),i + m = V.length →
  Ev (fun K => impl_lengthOf.l0 K (stV st) st.isSome (V.map tx) ((V.map tx).length : Int) (i : Int)) (ansI (lenVals st (V.drop i)))
 | 0,i,st,hi => by
  refine ⟨1,fun K hK => ?_⟩
  obtain ⟨k,rfl⟩ : ∃ k,K = k + 1:=⟨K - 1,by omega⟩
  dsimp only
  have e : i = V.length:=hi
  subst e
  unfold impl_lengthOf.l0
  rw [List.length_map,if_neg (Int.lt_irrefl _),List.drop_length];rfl
 | m + 1,i,st,hi => by
  have hlt : i < V.length:=by omega
  have hv:=hV _ (List.getElem_mem hlt)
  have e0 : ((V.map tx).length : Int) = (V.length : Int):=by rw [List.length_map]
  have e2 : lenVals st (V[i] :: V.drop (i + 1)) = (match lq [] 0 V[i] with
   | none => none
   | some [] => none
   | some (p :: ps) => match lenParts st (p :: ps) with
    | none => none
    | some st2 => lenVals st2 (V.drop (i + 1))):=by rw [lenVals]
  rw [List.drop_eq_getElem_cons hlt,e2]
  cases hq : lq [] 0 V[i] with
  | none =>
   refine ⟨5 * V[i].length + 30,fun K hK => ?_⟩
   obtain ⟨k,rfl⟩ : ∃ k,K = k + 2:=⟨K - 2,by omega⟩
   dsimp only
   have hr:=plI V[i] hv (k + 1) (by omega)
   rw [hq] at hr
   obtain ⟨X,hX⟩:=hr
   unfold impl_lengthOf.l0
   rw [e0,if_pos (c_lt _ _ hlt),if_pos (Int.natCast_nonneg i),if_pos (c_lt _ _ hlt),rdT V i hlt,hX,Option.bind_some,if_neg (show ¬ ((X,false).2 = true) from Bool.false_ne_true)]
   unfold impl_lengthOf.j1
   rfl
  | some L =>
   have hpo:=parts_ok V[i] hv L hq
   have hin:=lenI_in (V.map tx) i (by omega) (fun st2 => ansI (lenVals st2 (V.drop (i + 1)))) (fun st2 => lenI_out V hV hl m (i + 1) st2 (by omega)) L hpo L.length 0 st (Nat.zero_add _)
   obtain ⟨N,hN⟩:=hin
   refine ⟨N + 5 * V[i].length + 30,fun K hK => ?_⟩
   obtain ⟨k,rfl⟩ : ∃ k,K = k + 2:=⟨K - 2,by omega⟩
   dsimp only
   have hr:=plI V[i] hv (k + 1) (by omega)
   rw [hq] at hr
   have hX : impl_listOf.f (k + 1) (tx V[i]) = some (([] ++ L).map tx,true):=hr
   rw [List.nil_append] at hX
   have hk:=hN k (by omega)
   dsimp only at hk
   unfold impl_lengthOf.l0
   rw [e0,if_pos (c_lt _ _ hlt),if_pos (Int.natCast_nonneg i),if_pos (c_lt _ _ hlt),rdT V i hlt,hX,Option.bind_some,if_pos rfl]
   cases L with
   | nil =>
    unfold impl_lengthOf.j1
    rfl
   | cons p ps =>
    unfold impl_lengthOf.j1
    rw [if_neg (by rw [beq_iff_eq,List.length_map,List.length_cons];omega)]
    rw [e0] at hk
    have e3 : ((0 : Nat) : Int) = 0:=rfl
    rw [e3,List.drop_zero] at hk
    rw [hk]
    dsimp only
    cases lenParts st (p :: ps) with
    | none => rfl
    | some st2 => rfl
theorem lenS_in (vs : List ByteArray) (i : Nat) (hi : i < 100000000) (R : Option Nat → Int) (Hout : ∀ st,Ev (fun K => spec_l4Length.l0 K (stN st) vs (vs.length : Int) ((i + 1 : Nat) : Int)) (R st)) (P : List (List UInt8)) (hP : PartsOk P) : ∀ (m j : Nat) (st : Option Nat),j + m = P.length →
  Ev (fun K => spec_l4Length.l1 K (stN st) vs (vs.length : Int) (i : Int) (P.map tx) ((P.map tx).length : Int) (j : Int)) (match lenParts st (P.drop j) with | none => -2 | some st2 => R st2)
 | 0,j,st,hj => by
  obtain ⟨N,hN⟩:=Hout st
  refine ⟨N + 1,fun K hK => ?_⟩
  obtain ⟨k,rfl⟩ : ∃ k,K = k + 1:=⟨K - 1,by omega⟩
  dsimp only
  have e : j = P.length:=hj
  subst e
  have hw : wrap64 ((i : Int) + 1) = ((i + 1 : Nat) : Int):=by rw [w64 (by omega) (by omega)];omega
  unfold spec_l4Length.l1
  rw [List.length_map,if_neg (Int.lt_irrefl _),hw,List.drop_length]
  exact hN k (by omega)
 | m + 1,j,st,hj => by
  have hlt : j < P.length:=by omega
  have hp:=hP.1 _ (List.getElem_mem hlt)
  have hL:=hP.2
  have e0 : ((P.map tx).length : Int) = (P.length : Int):=by rw [List.length_map]
  have hs : ((tx P[j]).size : Int) = (P[j].length : Int):=by rw [tx_size]
  have e2 : lenParts st (P[j] :: P.drop (j + 1)) = (match numP P[j] with
   | none => none
   | some v => if st = none ∨ st = some v then lenParts (some v) (P.drop (j + 1)) else none):=by rw [lenParts]
  rw [List.drop_eq_getElem_cons hlt,e2,e0]
  cases hn : numP P[j] with
  | none =>
   refine ⟨P[j].length + 2,fun K hK => ?_⟩
   obtain ⟨k,rfl⟩ : ∃ k,K = k + 1:=⟨K - 1,by omega⟩
   obtain ⟨t,ht,_,h2⟩:=number_P P[j] hp.2 hp.1 k (by omega)
   dsimp only
   unfold spec_l4Length.l1
   rw [if_pos (c_lt _ _ hlt),if_pos (Int.natCast_nonneg j),e0,if_pos (c_lt _ _ hlt),rdT P j hlt,ht,Option.bind_some,hs]
   by_cases c : t < 0
   ·rw [if_pos c]
   ·rw [if_neg c,if_pos (by rcases h2 hn with h | h;exact absurd h c;omega)]
  | some v =>
   obtain ⟨_,hv⟩:=atoi_dig _ _ hn
   obtain ⟨h9,hd⟩:=numP_some _ _ hn
   have ih:=lenS_in vs i hi R Hout P hP m (j + 1) (some v) (by omega)
   obtain ⟨N,hN⟩:=ih
   refine ⟨N + P[j].length + 2,fun K hK => ?_⟩
   obtain ⟨k,rfl⟩ : ∃ k,K = k + 1:=⟨K - 1,by omega⟩
   obtain ⟨t,ht,h1,_⟩:=number_P P[j] hp.2 hp.1 k (by omega)
   obtain rfl:=h1 v hn
   dsimp only
   have hk:=hN k (by omega)
   dsimp only at hk
   rw [e0] at hk
   unfold spec_l4Length.l1
   rw [if_pos (c_lt _ _ hlt),if_pos (Int.natCast_nonneg j),e0,if_pos (c_lt _ _ hlt),rdT P j hlt,ht,Option.bind_some,hs,if_neg (by omega),if_neg (by omega),tx_toList,if_neg hp.1,w_i j _ hlt (by omega)]
   cases st with
   | none =>
    rw [if_neg (show ¬ (stN none ≥ 0) from by decide),if_pos (.inl rfl)]
    exact hk
   | some u =>
    rw [if_pos (show stN (some u) ≥ 0 from Int.natCast_nonneg u)]
    by_cases c : u = v
    ·subst c
     rw [if_pos (show (stN (some u) = (u : Int)) from rfl),if_pos (.inr rfl)]
     exact hk
    ·rw [if_neg (show ¬ (stN (some u) = (v : Int)) from fun hh => c (by have : (u : Int) = (v : Int):=hh;omega)),if_neg (fun hh => by rcases hh with hh | hh;cases hh;exact c (Option.some.inj hh))]
theorem lenS_out (V : List (List UInt8)) (hV : ∀ v ∈ V,v.length ≤ 50000000) (hl : V.length ≤ 10000000) : ∀ (m i : Nat) (st : Option Nat),i + m = V.length →
  Ev (fun K => spec_l4Length.l0 K (stN st) (V.map tx) ((V.map tx).length : Int) (i : Int)) (ansS (lenVals st (V.drop i)))
 | 0,i,st,hi => by
  refine ⟨1,fun K hK => ?_⟩
  obtain ⟨k,rfl⟩ : ∃ k,K = k + 1:=⟨K - 1,by omega⟩
  dsimp only
  have e : i = V.length:=hi
  subst e
  unfold spec_l4Length.l0
  rw [List.length_map,if_neg (Int.lt_irrefl _),List.drop_length];rfl
 | m + 1,i,st,hi => by
  have hlt : i < V.length:=by omega
  have hv:=hV _ (List.getElem_mem hlt)
  have e0 : ((V.map tx).length : Int) = (V.length : Int):=by rw [List.length_map]
  have e2 : lenVals st (V[i] :: V.drop (i + 1)) = (match lq [] 0 V[i] with
   | none => none
   | some [] => none
   | some (p :: ps) => match lenParts st (p :: ps) with
    | none => none
    | some st2 => lenVals st2 (V.drop (i + 1))):=by rw [lenVals]
  rw [List.drop_eq_getElem_cons hlt,e2]
  cases hq : lq [] 0 V[i] with
  | none =>
   refine ⟨5 * V[i].length + 30,fun K hK => ?_⟩
   obtain ⟨k,rfl⟩ : ∃ k,K = k + 2:=⟨K - 2,by omega⟩
   dsimp only
   have hr:=plS V[i] hv (k + 1) (by omega)
   rw [hq] at hr
   obtain ⟨X,hX⟩:=hr
   unfold spec_l4Length.l0
   rw [e0,if_pos (c_lt _ _ hlt),if_pos (Int.natCast_nonneg i),if_pos (c_lt _ _ hlt),rdT V i hlt,hX,Option.bind_some,if_neg (show ¬ ((X,false).2 = true) from Bool.false_ne_true)]
   unfold spec_l4Length.j1
   rfl
  | some L =>
   have hpo:=parts_ok V[i] hv L hq
   have hin:=lenS_in (V.map tx) i (by omega) (fun st2 => ansS (lenVals st2 (V.drop (i + 1)))) (fun st2 => lenS_out V hV hl m (i + 1) st2 (by omega)) L hpo L.length 0 st (Nat.zero_add _)
   obtain ⟨N,hN⟩:=hin
   refine ⟨N + 5 * V[i].length + 30,fun K hK => ?_⟩
   obtain ⟨k,rfl⟩ : ∃ k,K = k + 2:=⟨K - 2,by omega⟩
   dsimp only
   have hr:=plS V[i] hv (k + 1) (by omega)
   rw [hq] at hr
   have hX : spec_l3List.f (k + 1) (tx V[i]) = some (([] ++ L).map tx,true):=hr
   rw [List.nil_append] at hX
   have hk:=hN k (by omega)
   dsimp only at hk
   unfold spec_l4Length.l0
   rw [e0,if_pos (c_lt _ _ hlt),if_pos (Int.natCast_nonneg i),if_pos (c_lt _ _ hlt),rdT V i hlt,hX,Option.bind_some,if_pos rfl]
   cases L with
   | nil =>
    unfold spec_l4Length.j1
    rfl
   | cons p ps =>
    unfold spec_l4Length.j1
    rw [if_neg (by rw [beq_iff_eq,List.length_map,List.length_cons];omega)]
    rw [e0] at hk
    have e3 : ((0 : Nat) : Int) = 0:=rfl
    rw [e3,List.drop_zero] at hk
    rw [hk]
    dsimp only
    cases lenParts st (p :: ps) with
    | none => rfl
    | some st2 => rfl
def nmCL : ByteArray:=⟨#[99,111,110,116,101,110,116,45,108,101,110,103,116,104]⟩
def nmTE : ByteArray:=⟨#[116,114,97,110,115,102,101,114,45,101,110,99,111,100,105,110,103]⟩
def asL (vs : List ByteArray) : List (List UInt8):=vs.map fun s => s.data.toList
theorem asL_back (vs : List ByteArray) : (asL vs).map tx = vs:=by
 unfold asL
 rw [List.map_map]
 exact List.map_id'' (fun s => rfl) vs
noncomputable def lenB (l : List S105) : Option (Option Nat):=lenVals none (asL (valsL nmCL l))
noncomputable def framedB (l : List S105) (body : ByteArray) : Bool:=(match lenB l with | none => false | some none => decide (body.size = 0) | some (some v) => decide (v = body.size)) && decide ((valsL nmTE l).length = 0)
noncomputable def goodMsg (line : ByteArray) (l : List S105) (body : ByteArray) : Bool:=gdAll l && (decide (body.size ≤ 300) && (framedB l body && decide ((headL line l).size ≤ 2000)))
structure GoodL (l : List S105) : Prop where
 len : l.length ≤ 40
 fit : ∀ x ∈ l,x.f0.size ≤ 60 ∧ x.f1.size ≤ 300
theorem GoodL.names {l : List S105} (h : GoodL l) : Names l:=fun x hx => by have:=(h.fit x hx).1;omega
theorem gdAll_L (l : List S105) (h : gdAll l = true) : GoodL l:=⟨(gdAll_fit l h).1,(gdAll_fit l h).2⟩
theorem asL_fit (l : List S105) (h : GoodL l) (n : ByteArray) : (∀ v ∈ asL (valsL n l),v.length ≤ 50000000) ∧ (asL (valsL n l)).length ≤ 10000000:=by
 have h1:=vals_len n l
 have h2:=h.len
 refine ⟨fun v hv => ?_,by unfold asL;rw [List.length_map];omega⟩
 unfold asL at hv
 obtain ⟨s,hs,rfl⟩:=List.mem_map.mp hv
 obtain ⟨x,hx,rfl⟩:=vals_mem n l s hs
 have:=(h.fit x hx).2
 rw [Array.length_toList]
 exact Nat.le_trans this (by decide)
theorem length_I (l : List S105) (h : GoodL l) : Ev (fun K => impl_lengthOf.f K l) (ansI (lenB l)):=by
 have hv:=fun K (hK : 50 ≤ K) => valsI l nmCL h.names (by decide) (by have:=h.len;omega) K (by have:=h.len;omega)
 obtain ⟨f1,f2⟩:=asL_fit l h nmCL
 have ho:=lenI_out (asL (valsL nmCL l)) f1 f2 _ 0 none (Nat.zero_add _)
 rw [asL_back,List.drop_zero] at ho
 refine Ev.bind (a:=valsL nmCL l) ⟨50,hv⟩ ?_
 exact ho
theorem length_S (l : List S105) (h : GoodL l) : Ev (fun K => spec_l4Length.f K l) (ansS (lenB l)):=by
 have hv:=fun K (hK : 50 ≤ K) => valsS l nmCL h.names (by decide) (by have:=h.len;omega) K (by have:=h.len;omega)
 obtain ⟨f1,f2⟩:=asL_fit l h nmCL
 have ho:=lenS_out (asL (valsL nmCL l)) f1 f2 _ 0 none (Nat.zero_add _)
 rw [asL_back,List.drop_zero] at ho
 refine Ev.bind (a:=valsL nmCL l) ⟨50,hv⟩ ?_
 exact ho
theorem len_dec (n : Nat) : decide ((n : Int) ≤ 2000) = decide (n ≤ 2000):=by
 by_cases c : n ≤ 2000
 ·rw [decide_eq_true c,decide_eq_true (by omega)]
 ·rw [decide_eq_false c,decide_eq_false (by omega)]
theorem empty_b (s : ByteArray) : (s.toList == ([] : List UInt8)) = decide (s.size = 0):=by
 rw [Bool.eq_iff_iff,beq_iff_eq,decide_eq_true_iff,ByteArray.toList_eq]
 constructor
 ·intro h
  have:=congrArg List.length h
  rw [Array.length_toList] at this
  exact this
 ·intro h
  exact List.eq_nil_of_length_eq_zero (by rw [Array.length_toList];exact h)
theorem framed_I (l : List S105) (body : ByteArray) (h : GoodL l) : Ev (fun K => impl_isFramed.f K l body) (framedB l body):=by
 have hv:=fun K (hK : 50 ≤ K) => valsI l nmTE h.names (by decide) (by have:=h.len;omega) K (by have:=h.len;omega)
 have hl:=length_I l h
 unfold framedB
 cases hq : lenB l with
 | none =>
  rw [hq] at hl
  have hl' : Ev (fun K => impl_lengthOf.f K l) ((0 : Int),false,false):=hl
  exact Ev.bind hl' ⟨0,fun K _ => rfl⟩
 | some st =>
  rw [hq] at hl
  have he : ∀ (r : Int) (b : Bool) (x : Bool),(if b = true then (if r = (body.size : Int) then (some true) else (some false)) else (some (body.toList == ([] : List UInt8)))) = some x → Ev (fun K => impl_lengthOf.f K l) (r,b,true) → Ev (fun K => impl_isFramed.f K l body) (x && decide ((valsL nmTE l).length = 0)):=by
   intro r b x hx hl'
   refine Ev.bind hl' ?_
   simp only [if_true]
   refine Ev.bind (a:=valsL nmTE l) ⟨50,hv⟩ ?_
   by_cases c : (valsL nmTE l).length = 0
   ·simp only [if_pos (show ((valsL nmTE l).length : Int) = 0 by omega),decide_eq_true c,Bool.and_true]
    exact ⟨0,fun K _ => hx⟩
   ·simp only [if_neg (show ¬ ((valsL nmTE l).length : Int) = 0 by omega),decide_eq_false c,Bool.and_false]
    exact ⟨0,fun K _ => rfl⟩
  cases st with
  | none => exact he 0 false (decide (body.size = 0)) (by rw [if_neg (by decide),empty_b]) hl
  | some v =>
   refine he (v : Int) true (decide (v = body.size)) ?_ hl
   rw [if_pos rfl]
   by_cases c2 : v = body.size
   ·rw [if_pos (by omega),decide_eq_true c2]
   ·rw [if_neg (by omega),decide_eq_false c2]
theorem framed_S (l : List S105) (body : ByteArray) (h : GoodL l) : Ev (fun K => spec_l4Framed.f K l body) (decide (body.size ≤ 300) && framedB l body):=by
 have hv:=fun K (hK : 50 ≤ K) => valsS l nmTE h.names (by decide) (by have:=h.len;omega) K (by have:=h.len;omega)
 have hz : ((((valsL nmTE l).length : Nat) : Int) == 0) = decide ((valsL nmTE l).length = 0):=by
  rw [Bool.eq_iff_iff,beq_iff_eq,decide_eq_true_iff];omega
 have hl:=length_S l h
 unfold framedB
 cases hq : lenB l with
 | none =>
  rw [hq] at hl
  have hl' : Ev (fun K => spec_l4Length.f K l) (-2 : Int):=hl
  refine Ev.bind hl' ?_
  simp only [if_neg (show ¬ ((-2 : Int) = -1) by decide),if_neg (show ¬ ((-2 : Int) = (body.size : Int)) by omega),Bool.false_and,Bool.and_false]
  exact ⟨0,fun K _ => rfl⟩
 | some st =>
  rw [hq] at hl
  cases st with
  | none =>
   have hl' : Ev (fun K => spec_l4Length.f K l) (-1 : Int):=hl
   refine Ev.bind hl' ?_
   simp only [if_true]
   by_cases c : body.size = 0
   ·simp only [if_pos (show (0 : Int) = (body.size : Int) by omega),if_pos (show (body.size : Int) ≤ 300 by omega),decide_eq_true c,decide_eq_true (show body.size ≤ 300 by omega),Bool.true_and]
    exact Ev.bind (a:=valsL nmTE l) ⟨50,hv⟩ ⟨0,fun K _ => by rw [hz]⟩
   ·simp only [if_neg (show ¬ (0 : Int) = (body.size : Int) by omega),decide_eq_false c,Bool.false_and,Bool.and_false]
    exact ⟨0,fun K _ => rfl⟩
  | some v =>
   have hl' : Ev (fun K => spec_l4Length.f K l) (v : Int):=hl
   refine Ev.bind hl' ?_
   simp only [if_neg (show ¬ ((v : Int) = -1) by omega)]
   by_cases c : v = body.size
   ·subst c
    by_cases c2 : body.size ≤ 300
    ·simp only [if_true,if_pos (show (body.size : Int) ≤ 300 by omega),decide_eq_true c2,decide_true,Bool.true_and]
     exact Ev.bind (a:=valsL nmTE l) ⟨50,hv⟩ ⟨0,fun K _ => by rw [hz]⟩
    ·simp only [if_true,if_neg (show ¬ (body.size : Int) ≤ 300 by omega),decide_eq_false c2,Bool.false_and]
     exact ⟨0,fun K _ => rfl⟩
   ·simp only [if_neg (show ¬ (v : Int) = (body.size : Int) by omega),decide_eq_false c,Bool.false_and,Bool.and_false]
    exact ⟨0,fun K _ => rfl⟩
theorem message_I (line : ByteArray) (l : List S105) (body : ByteArray) (hs : line.size ≤ 500000000) : Ev (fun K => impl_isMessage.f K line l body) (goodMsg line l body):=by
 refine Ev.bind (a:=gdAll l) ⟨400,fun K hK => areF_I l K hK⟩ ?_
 unfold goodMsg
 cases hg : gdAll l with
 | false => exact ⟨0,fun K _ => rfl⟩
 | true =>
  have hL:=gdAll_L l hg
  simp only [if_true,Bool.true_and]
  by_cases c : body.size ≤ 300
  ·simp only [if_pos (show (body.size : Int) ≤ 300 by omega),decide_eq_true c,Bool.true_and]
   refine Ev.bind (a:=headL line l) ⟨50,fun K hK => head_I line l hs hL.fit hL.len K hK⟩ ?_
   by_cases c2 : (headL line l).size ≤ 2000
   ·simp only [if_pos (show ((headL line l).size : Int) ≤ 2000 by omega),decide_eq_true c2,Bool.and_true]
    exact Ev.bind (framed_I l body hL) ⟨0,fun K _ => rfl⟩
   ·simp only [if_neg (show ¬ ((headL line l).size : Int) ≤ 2000 by omega),decide_eq_false c2,Bool.and_false]
    exact ⟨0,fun K _ => rfl⟩
  ·simp only [if_neg (show ¬ (body.size : Int) ≤ 300 by omega),decide_eq_false c,Bool.false_and]
   exact ⟨0,fun K _ => rfl⟩
theorem message_S (line : ByteArray) (l : List S105) (body : ByteArray) (hs : line.size ≤ 500000000) (hb : l.length ≤ 100000000) (hf : Fits l) (L : Nat → Option ByteArray) (hL : Ev L line) :
  Ev (fun K => (spec_l3Fields.f K l).bind fun t => (if t = true then ((spec_l4Framed.f K l body).bind fun t2 => (if t2 = true then ((L K).bind fun t3 => ((spec_l4Head.f K t3 l).bind fun t4 => (some (decide ((t4.size : Int) ≤ 2000))))) else (some false))) else (some false))) (goodMsg line l body):=by
 refine Ev.bind (a:=gdAll l) ⟨400000000,fun K hK => areF_S l hb hf K hK⟩ ?_
 unfold goodMsg
 cases hg : gdAll l with
 | false => exact ⟨0,fun K _ => rfl⟩
 | true =>
  have hG:=gdAll_L l hg
  simp only [if_true,Bool.true_and]
  refine Ev.bind (framed_S l body hG) ?_
  rw [← Bool.and_assoc]
  cases (decide (body.size ≤ 300) && framedB l body) with
  | false => exact ⟨0,fun K _ => rfl⟩
  | true =>
   simp only [if_true,Bool.true_and]
   refine Ev.bind hL ?_
   refine Ev.bind (a:=headL line l) ⟨50,fun K hK => head_S line l hs hG.fit hG.len K hK⟩ ⟨0,fun K _ => congrArg some (len_dec _)⟩
def tgB (b : UInt8) : Bool:=33 ≤ b.toNat && b.toNat ≤ 126
theorem target_b (b : UInt8) : impl_isTarget_1.f (b.toNat : Int) = some (tgB b):=by
 unfold impl_isTarget_1.f tgB
 by_cases c : 33 ≤ b.toNat
 ·rw [if_pos (by omega),decide_eq_true c,Bool.true_and]
  congr 1
  by_cases d : b.toNat ≤ 126
  ·rw [decide_eq_true d,decide_eq_true (by omega)]
  ·rw [decide_eq_false d,decide_eq_false (by omega)]
 ·rw [if_neg (by omega),decide_eq_false c,Bool.false_and]
theorem targetb_I (l : List UInt8) (h : l.length < 100000000) : xBytes_impl_isTarget_1.f (tx l) = some (l.all tgB):=by
 unfold xBytes_impl_isTarget_1.f xAll_u8_impl_isTarget_1.f
 rw [tx_size,if_pos (by omega),bytes_tx,if_pos (by rw [List.length_map];omega)]
 obtain ⟨i,e,g⟩:=idxO_mem xAll_u8_impl_isTarget_1.z (fun x => tgB (UInt8.ofNat x.toNat)) (l.map fun b => (b.toNat : Int)) (fun x hx => by
  obtain ⟨b,_,rfl⟩:=List.mem_map.mp hx
  unfold xAll_u8_impl_isTarget_1.z
  rw [target_b b,Option.bind_some,Int.toNat_natCast,UInt8.ofNat_toNat]) 0 (by decide)
 rw [e,Option.bind_some,g,List.all_map]
 have e2 : ((fun x : Int => tgB (UInt8.ofNat x.toNat)) ∘ fun b : UInt8 => (b.toNat : Int)) = tgB:=by
  funext b
  show tgB (UInt8.ofNat ((b.toNat : Int)).toNat) = tgB b
  rw [Int.toNat_natCast,UInt8.ofNat_toNat]
 rw [e2]
def tgL (l : List UInt8) : Bool:=(decide ((1 : Int) ≤ (l.length : Int)) && decide ((l.length : Int) ≤ 200)) && l.all tgB
theorem target_I (l : List UInt8) : impl_isTarget.f (tx l) = some (tgL l):=by
 unfold impl_isTarget.f tgL
 rw [tx_size,withinR,Option.bind_some]
 cases hw : (decide ((1 : Int) ≤ (l.length : Int)) && decide ((l.length : Int) ≤ 200)) with
 | true =>
  have h2 : l.length ≤ 200:=by
   rw [Bool.and_eq_true] at hw
   have:=of_decide_eq_true hw.2
   omega
  rw [if_pos rfl,targetb_I l (by omega),Option.bind_some,Bool.true_and]
 | false => rw [if_neg (by decide),Bool.false_and]
theorem target_l : ∀ (M pre : List UInt8) (K : Nat),(pre ++ M).length ≤ 100000000 → M.length < K → spec_l4Target.l0 K (tx (pre ++ M)) (pre.length : Int) = some (M.all tgB && (decide ((1 : Int) ≤ ((pre ++ M).length : Int)) && decide (((pre ++ M).length : Int) ≤ 200)))
 | M,pre,0,_,h => absurd h (Nat.not_lt_zero _)
 | [],pre,K + 1,_,_ => by
  unfold spec_l4Target.l0
  rw [tx_size,List.append_nil,if_neg (Int.lt_irrefl _),inR,Option.bind_some];rfl
 | b :: M,pre,K + 1,hl,hK => by
  have hl2 : pre.length + (M.length + 1) ≤ 100000000:=by rw [List.length_append,List.length_cons] at hl;exact hl
  obtain ⟨q1,q2,q3⟩:=pb_pos pre.length M.length hl2
  have hlen:=lenC pre b M
  have hbt:=bt_at pre M b
  have e1 : pre ++ [b] ++ M = pre ++ b :: M:=by simp
  have e2 : (((pre ++ [b]).length : Nat) : Int) = (pre.length : Int) + 1:=by simp
  have ih:=target_l M (pre ++ [b]) K (by rw [e1];exact hl) (Nat.lt_of_succ_lt_succ hK)
  rw [e1,e2] at ih
  unfold spec_l4Target.l0
  rw [tx_size,if_pos (by rw [hlen];exact q1),if_pos q2,hbt,q3,List.all_cons]
  unfold tgB
  by_cases c : 33 ≤ b.toNat
  ·rw [if_neg (by omega),decide_eq_true c,Bool.true_and]
   by_cases d : b.toNat ≤ 126
   ·rw [if_neg (by omega),decide_eq_true d,Bool.true_and]
    exact ih
   ·rw [if_pos (by omega),decide_eq_false d,Bool.false_and,Bool.false_and]
  ·rw [if_pos (by omega),decide_eq_false c,Bool.false_and,Bool.false_and,Bool.false_and]
theorem target_S (l : List UInt8) (h : l.length ≤ 100000000) (K : Nat) (hK : l.length < K) : spec_l4Target.f K (tx l) = some (tgL l):=by
 have:=target_l l [] K h hK
 unfold tgL
 rw [Bool.and_comm]
 exact this
def reqLine (m t : ByteArray) : ByteArray:=((m ++ (⟨#[32]⟩ : ByteArray)) ++ t) ++ (⟨#[32,72,84,84,80,47,49,46,49]⟩ : ByteArray)
noncomputable def goodReq (m t : ByteArray) (l : List S105) (b : ByteArray) : Bool:=(tokL m.data.toList && decide (m.size ≤ 10)) && (tgL t.data.toList && goodMsg (reqLine m t) l b)
theorem tgL_len (l : List UInt8) (h : tgL l = true) : l.length ≤ 200:=by
 unfold tgL at h
 rw [Bool.and_eq_true,Bool.and_eq_true] at h
 have:=of_decide_eq_true h.1.2
 omega
theorem req_fit (m t : ByteArray) (hm : m.size ≤ 10) (ht : t.size ≤ 200) : m.size + 1 ≤ 9223372036854775807 ∧ (m ++ (⟨#[32]⟩ : ByteArray)).size + t.size ≤ 9223372036854775807 ∧ ((m ++ (⟨#[32]⟩ : ByteArray)) ++ t).size + 9 ≤ 9223372036854775807 ∧ (reqLine m t).size ≤ 500000000:=by
 unfold reqLine
 simp only [ByteArray.size_append]
 have h3 : (⟨#[32,72,84,84,80,47,49,46,49]⟩ : ByteArray).size = 9:=rfl
 have h4 : (⟨#[32]⟩ : ByteArray).size = 1:=rfl
 rw [h3,h4]
 generalize m.size = x at *
 generalize t.size = y at *
 omega
theorem reqLine_I (m t : ByteArray) (hm : m.size ≤ 10) (ht : t.size ≤ 200) (l : List S105) (b : ByteArray) : impl_requestLine.f m t l b = some (reqLine m t):=by
 obtain ⟨q1,q2,q3,_⟩:=req_fit m t hm ht
 unfold impl_requestLine.f
 rw [if_pos q1,if_pos q2,if_pos q3];rfl
theorem reqLine_S (m t : ByteArray) (hm : m.size ≤ 10) (ht : t.size ≤ 200) (l : List S105) (b : ByteArray) : spec_l4First.f m t l b = some (reqLine m t):=by
 obtain ⟨q1,q2,q3,_⟩:=req_fit m t hm ht
 unfold spec_l4First.f
 rw [if_pos q1,if_pos q2,if_pos q3];rfl
theorem size_dec (m : ByteArray) (n : Nat) : decide ((m.size : Int) ≤ (n : Int)) = decide (m.size ≤ n):=by
 by_cases c : m.size ≤ n
 ·rw [decide_eq_true c,decide_eq_true (by omega)]
 ·rw [decide_eq_false c,decide_eq_false (by omega)]
theorem req_I (m t : ByteArray) (l : List S105) (b : ByteArray) : Ev (fun K => impl_GoodRequest.f K m t l b) (goodReq m t l b):=by
 have htk:=token_I m.data.toList
 rw [tx_data] at htk
 have htg:=target_I t.data.toList
 rw [tx_data] at htg
 have hl : impl_isRequestLine.f m t l b = some ((tokL m.data.toList && decide (m.size ≤ 10)) && tgL t.data.toList):=by
  unfold impl_isRequestLine.f
  rw [htk,Option.bind_some]
  cases tokL m.data.toList with
  | false => rfl
  | true =>
   rw [if_pos rfl,Bool.true_and]
   by_cases c : m.size ≤ 10
   ·rw [if_pos (by omega),decide_eq_true c,Bool.true_and,htg];rfl
   ·rw [if_neg (by omega),decide_eq_false c,Bool.false_and]
 refine Ev.bind (a:=_) ⟨0,fun K _ => hl⟩ ?_
 unfold goodReq
 rw [← Bool.and_assoc]
 cases hq : ((tokL m.data.toList && decide (m.size ≤ 10)) && tgL t.data.toList) with
 | false => exact ⟨0,fun K _ => rfl⟩
 | true =>
  simp only [if_true,Bool.true_and]
  rw [Bool.and_eq_true,Bool.and_eq_true] at hq
  have hm:=of_decide_eq_true hq.1.2
  have ht:=tgL_len _ hq.2
  rw [Array.length_toList] at ht
  refine Ev.bind (a:=reqLine m t) ⟨0,fun K _ => reqLine_I m t hm ht l b⟩ ?_
  exact Ev.bind (message_I (reqLine m t) l b (req_fit m t hm ht).2.2.2) ⟨0,fun K _ => rfl⟩
theorem req_S (m t : ByteArray) (l : List S105) (b : ByteArray) (hm : m.size ≤ 100000000) (ht : t.size ≤ 100000000) (hb : l.length ≤ 100000000) (hf : Fits l) : Ev (fun K => spec_GoodRequest.f K m t l b) (goodReq m t l b):=by
 have hp : Ev (fun K => spec_l4Method.f K m) (tokL m.data.toList && decide (m.size ≤ 10)):=by
  refine Ev.bind (a:=tokL m.data.toList) ⟨m.data.toList.length + 50,fun K hK => ?_⟩ ?_
  ·have:=token_S m.data.toList (by rw [Array.length_toList];exact hm) K hK
   rw [tx_data] at this
   exact this
  ·cases tokL m.data.toList with
   | false => exact ⟨0,fun K _ => rfl⟩
   | true => exact ⟨0,fun K _ => congrArg some (size_dec m 10)⟩
 refine Ev.bind hp ?_
 unfold goodReq
 cases hq : (tokL m.data.toList && decide (m.size ≤ 10)) with
 | false => exact ⟨0,fun K _ => rfl⟩
 | true =>
  simp only [if_true,Bool.true_and]
  rw [Bool.and_eq_true] at hq
  have hm:=of_decide_eq_true hq.2
  refine Ev.bind (a:=tgL t.data.toList) ⟨t.data.toList.length + 1,fun K hK => ?_⟩ ?_
  ·have:=target_S t.data.toList (by rw [Array.length_toList];exact ht) K (by omega)
   rw [tx_data] at this
   exact this
  cases hg : tgL t.data.toList with
  | false => exact ⟨0,fun K _ => rfl⟩
  | true =>
   simp only [if_true,Bool.true_and]
   have ht:=tgL_len _ hg
   rw [Array.length_toList] at ht
   exact message_S (reqLine m t) l b (req_fit m t hm ht).2.2.2 hb hf _ ⟨0,fun K hK => reqLine_S m t hm ht l b⟩
theorem szReq_f (m t : ByteArray) (l : List S97) (b : ByteArray) (hm0 : m.size ≤ maxLen) (ht : t.size ≤ maxLen) (hm : l.length ≤ maxLen) (hw : ∀ x ∈ l,x.f0.size ≤ maxLen ∧ x.f1.size ≤ maxLen) (hb : b.size ≤ maxLen) (a : Int) (h0 : 0 ≤ a) (h1 : a ≤ 1048576) :
  ∃ z,(∀ k,1048576 < k → laws_szRequest.f k m t l b a = some z) ∧ (0 ≤ z → z + (m.size : Nat) + (t.size : Nat) + (l.length : Nat) + (szL l : Nat) + (b.size : Nat) ≤ a):=by
 have hmx : maxLen = 9223372036854775807:=by decide
 unfold laws_szRequest.f
 rw [w64 (x:=a - (m.size : Int)) (by omega) (by omega)]
 by_cases c : a - (m.size : Int) < 0
 ·exact ⟨-1,fun k _ => by rw [if_pos c],fun h => by omega⟩
 rw [w64 (x:=a - (m.size : Int) - (t.size : Int)) (by omega) (by omega)]
 by_cases c1 : a - (m.size : Int) - (t.size : Int) < 0
 ·exact ⟨-1,fun k _ => by rw [if_neg c,if_pos c1],fun h => by omega⟩
 obtain ⟨z,hz,hz2⟩:=szFields_f l hm hw (a - (m.size : Int) - (t.size : Int)) (by omega) (by omega)
 by_cases c2 : z < 0
 ·exact ⟨-1,fun k hk => by rw [if_neg c,if_neg c1,hz k hk,Option.bind_some,if_pos c2],fun h => by omega⟩
 ·have hz3:=hz2 (by omega)
  by_cases c3 : z - (b.size : Int) < 0
  ·exact ⟨-1,fun k hk => by rw [if_neg c,if_neg c1,hz k hk,Option.bind_some,if_neg c2,w64 (x:=z - (b.size : Int)) (by omega) (by omega),if_pos c3],fun h => by omega⟩
  ·exact ⟨z - (b.size : Int),fun k hk => by rw [if_neg c,if_neg c1,hz k hk,Option.bind_some,if_neg c2,w64 (x:=z - (b.size : Int)) (by omega) (by omega),if_neg c3],fun h => by omega⟩
theorem toReq_f (m t : ByteArray) (l : List S97) (b : ByteArray) (hl : l.length ≤ 1048576) (k : Nat) (hk : l.length < k) : laws_toRequest.f k m t l b = some (m,t,l.map toE,b):=by
 unfold laws_toRequest.f
 rw [toFields_f l hl k hk];rfl
theorem eqReq_f (m t : ByteArray) (l : List S105) (b : ByteArray) (hl : l.length ≤ 1048576) (k : Nat) (hk : l.length < k) : laws_eqRequest.f k m t l b m t l b = some true:=by
 unfold laws_eqRequest.f
 rw [if_pos rfl,if_pos rfl,eqFields_f l hl k hk,Option.bind_some,if_pos rfl,if_pos rfl]
def isLB (b : UInt8) : Bool:=(97 ≤ b.toNat && b.toNat ≤ 122) || (65 ≤ b.toNat && b.toNat ≤ 90)
def pbase : List UInt8:=[45,46,95,126,33,36,38,39,40,41,42,43,44,59,61,58,64]
def okB (o : List UInt8) (b : UInt8) : Bool:=isLB b || isDB b || pbase.contains b || o.contains b
def hostB (b : UInt8) : Bool:=isLB b || isDB b || b == 45 || b == 46
def freeB (b : UInt8) : Bool:=isLB b || isDB b || b == 45 || b == 46 || b == 95 || b == 126
def hv (b : UInt8) : Int:=match impl_hexValue.f (b.toNat : Int) with | some v => v | none => -1
def hexP (b : UInt8) : Bool:=decide (impl_hexValue.f (b.toNat : Int) = some (hv b)) && decide (spec_l1Hex.f 2 (b.toNat : Int) = some (hv b)) && decide (-1 ≤ hv b) && decide (hv b ≤ 15)
theorem hex_all : ((List.range 256).all fun n => hexP (UInt8.ofNat n)) = true:=by decide +kernel
theorem hex_b (b : UInt8) : impl_hexValue.f (b.toNat : Int) = some (hv b) ∧ (∀ k,2 ≤ k → spec_l1Hex.f k (b.toNat : Int) = some (hv b)) ∧ -1 ≤ hv b ∧ hv b ≤ 15:=by
 have g:=byte_all hexP hex_all b
 unfold hexP at g
 simp only [Bool.and_eq_true,decide_eq_true_eq] at g
 exact ⟨g.1.1.1,fun k hk => mono_le (fun k => spec_l1Hex.f k (b.toNat : Int)) (fun k => spec_l1Hex.mono _ k) 2 k hk _ g.1.1.2,g.1.2,g.2⟩
theorem or_all : ((List.range 16).all fun a => (List.range 16).all fun b => decide ((Go.bits .or .i64 (wrap64 ((a : Int) * 16)) (b : Int)) % 256 = 16 * (a : Int) + b)) = true:=by decide +kernel
theorem or_hex (a b : Int) (ha : 0 ≤ a) (ha2 : a ≤ 15) (hb : 0 ≤ b) (hb2 : b ≤ 15) : (Go.bits .or .i64 (wrap64 (a * 16)) b) % 256 = 16 * a + b:=by
 have g:=List.all_eq_true.mp (List.all_eq_true.mp or_all a.toNat (List.mem_range.mpr (by omega))) b.toNat (List.mem_range.mpr (by omega))
 simp only [decide_eq_true_eq] at g
 rwa [Int.toNat_of_nonneg ha,Int.toNat_of_nonneg hb] at g
structure Oth (o : List UInt8) : Prop where
 am : ∀ b : UInt8,impl_isAmong.f (b.toNat : Int) (tx (pbase ++ o)) = some (okB o b)
 sp : ∀ (b : UInt8) k,20 ≤ k → ∃ f h1 h2,spec_l1Free.f (b.toNat : Int) = some f ∧ spec_l1Has.f k (⟨#[33,36,38,39,40,41,42,43,44,59,61,58,64]⟩ : ByteArray) (b.toNat : Int) = some h1 ∧ spec_l1Has.f k (tx o) (b.toNat : Int) = some h2 ∧ (f || h1 || h2) = okB o b
 pr : okB o 37 = false
 sm : o.length ≤ 2
def othB (o : List UInt8) (b : UInt8) : Bool:=decide (impl_isAmong.f (b.toNat : Int) (tx (pbase ++ o)) = some (okB o b)) && decide (spec_l1Free.f (b.toNat : Int) = some (isT (spec_l1Free.f (b.toNat : Int)))) && decide (spec_l1Has.f 20 (⟨#[33,36,38,39,40,41,42,43,44,59,61,58,64]⟩ : ByteArray) (b.toNat : Int) = some (isT (spec_l1Has.f 20 (⟨#[33,36,38,39,40,41,42,43,44,59,61,58,64]⟩ : ByteArray) (b.toNat : Int)))) && decide (spec_l1Has.f 20 (tx o) (b.toNat : Int) = some (isT (spec_l1Has.f 20 (tx o) (b.toNat : Int)))) && decide ((isT (spec_l1Free.f (b.toNat : Int)) || isT (spec_l1Has.f 20 (⟨#[33,36,38,39,40,41,42,43,44,59,61,58,64]⟩ : ByteArray) (b.toNat : Int)) || isT (spec_l1Has.f 20 (tx o) (b.toNat : Int))) = okB o b)
theorem oth_of (o : List UInt8) (h : ((List.range 256).all fun n => othB o (UInt8.ofNat n)) = true) (hp : okB o 37 = false) (hs : o.length ≤ 2) : Oth o where
 am:=fun b => by
  have g:=byte_all (othB o) h b
  unfold othB at g
  simp only [Bool.and_eq_true,decide_eq_true_eq] at g
  exact g.1.1.1.1
 sp:=fun b k hk => by
  have g:=byte_all (othB o) h b
  unfold othB at g
  simp only [Bool.and_eq_true,decide_eq_true_eq] at g
  exact ⟨_,_,_,g.1.1.1.2,mono_le (fun k => spec_l1Has.f k _ (b.toNat : Int)) (fun k => spec_l1Has.mono _ _ k) 20 k hk _ g.1.1.2,mono_le (fun k => spec_l1Has.f k _ (b.toNat : Int)) (fun k => spec_l1Has.mono _ _ k) 20 k hk _ g.1.2,g.2⟩
 pr:=hp
 sm:=hs
theorem oth_path : Oth [47]:=oth_of _ (by decide +kernel) (by decide +kernel) (by decide)
theorem oth_query : Oth [47,63]:=oth_of _ (by decide +kernel) (by decide +kernel) (by decide)
def hostP (b : UInt8) : Bool:=decide (impl_GoodUrl_1.f (b.toNat : Int) = some (hostB b)) && decide (spec_l1Letter.f (b.toNat : Int) = some (isLB b)) && decide (spec_l1Digit.f (b.toNat : Int) = some (isDB b)) && decide (impl_isUnreserved.f (b.toNat : Int) = some (freeB b)) && decide (spec_l1Free.f (b.toNat : Int) = some (freeB b))
theorem host_all : ((List.range 256).all fun n => hostP (UInt8.ofNat n)) = true:=by decide +kernel
theorem host_b (b : UInt8) : impl_GoodUrl_1.f (b.toNat : Int) = some (hostB b) ∧ spec_l1Letter.f (b.toNat : Int) = some (isLB b) ∧ spec_l1Digit.f (b.toNat : Int) = some (isDB b) ∧ impl_isUnreserved.f (b.toNat : Int) = some (freeB b) ∧ spec_l1Free.f (b.toNat : Int) = some (freeB b):=by
 have g:=byte_all hostP host_all b
 unfold hostP at g
 simp only [Bool.and_eq_true,decide_eq_true_eq] at g
 exact ⟨g.1.1.1.1,g.1.1.1.2,g.1.1.2,g.1.2,g.2⟩
theorem toNat_37 (b : UInt8) : ((b.toNat : Int) = 37) = (b = 37):=propext ⟨fun h => UInt8.toNat_inj.mp (by show b.toNat = 37;omega),fun h => by subst h;rfl⟩
theorem perc_short (k : Nat) (l : List UInt8) (h : l.length < 3) : impl_percent.f (k + 1) (tx l) = some (0,false):=by
 unfold impl_percent.f impl_percent.j0
 dsimp only
 rw [tx_size,if_pos (by omega),if_pos rfl]
theorem perc_I (k : Nat) (x y : UInt8) (z : List UInt8) : impl_percent.f (k + 1) (tx (37 :: x :: y :: z)) = some (if 0 ≤ hv x ∧ 0 ≤ hv y then (16 * hv x + hv y,true) else (0,false)):=by
 have e0 : bt (tx (37 :: x :: y :: z)) 0 = 37:=bt_tx (37 :: x :: y :: z) 0 (by simp)
 have e1 : bt (tx (37 :: x :: y :: z)) 1 = (x.toNat : Int):=bt_tx (37 :: x :: y :: z) 1 (by simp)
 have e2 : bt (tx (37 :: x :: y :: z)) 2 = (y.toNat : Int):=bt_tx (37 :: x :: y :: z) 2 (by simp)
 have hs : ((tx (37 :: x :: y :: z)).size : Int) = (z.length : Int) + 3:=by rw [tx_size];simp;omega
 unfold impl_percent.f impl_percent.j0
 dsimp only
 rw [hs,e0,e1,e2,if_neg (by omega),if_pos (by omega),if_pos rfl,if_pos (by omega),(hex_b x).1,Option.bind_some]
 by_cases c : 0 ≤ hv x
 ·rw [if_neg (by omega),if_pos (by omega),(hex_b y).1,Option.bind_some]
  by_cases c2 : 0 ≤ hv y
  ·rw [decide_eq_false (show ¬ hv y < 0 by omega),if_neg (show ¬ false = true by decide),if_pos (by omega),Option.bind_some,if_pos (by omega),Option.bind_some,if_pos ⟨c,c2⟩,or_hex _ _ c (hex_b x).2.2.2 c2 (hex_b y).2.2.2]
  ·rw [decide_eq_true (show hv y < 0 by omega),if_pos rfl,if_neg (fun h => c2 h.2)]
 ·rw [if_pos (by omega),if_pos rfl,if_neg (fun h => c h.1)]
theorem tx_tail (pre M : List UInt8) : (tx (pre ++ M)).extract (pre.length : Int).toNat (tx (pre ++ M)).size = tx M:=by
 rw [tx_cut,tx_size,Int.toNat_natCast,List.drop_left,List.take_of_length_le (by simp)]
theorem byte_S (k : Nat) (pre : List UInt8) (x y : UInt8) (z : List UInt8) (hl : (pre ++ 37 :: x :: y :: z).length ≤ 90000000) : spec_l1Byte.f (k + 3) (tx (pre ++ 37 :: x :: y :: z)) (pre.length : Int) = some (if 0 ≤ hv x ∧ 0 ≤ hv y then 16 * hv x + hv y else -1):=by
 have e0 : bt (tx (pre ++ 37 :: x :: y :: z)) (pre.length : Int) = 37:=bt_at pre _ 37
 have e1 : bt (tx (pre ++ 37 :: x :: y :: z)) ((pre.length : Int) + 1) = (x.toNat : Int):=by
  have:=bt_at (pre ++ [37]) (y :: z) x
  simpa using this
 have e2 : bt (tx (pre ++ 37 :: x :: y :: z)) ((pre.length : Int) + 2) = (y.toNat : Int):=by
  have:=bt_at (pre ++ [37,x]) z y
  simpa using this
 have hs : ((tx (pre ++ 37 :: x :: y :: z)).size : Int) = (pre.length : Int) + 3 + (z.length : Int):=by rw [tx_size];simp;omega
 simp only [List.length_append,List.length_cons] at hl
 have w1 : wrap64 ((pre.length : Int) + 1) = (pre.length : Int) + 1:=w64 (by omega) (by omega)
 have w2 : wrap64 ((pre.length : Int) + 2) = (pre.length : Int) + 2:=w64 (by omega) (by omega)
 unfold spec_l1Byte.f spec_l1Byte.j0
 dsimp only
 rw [w1,w2,hs,e0,e1,e2,if_neg (by omega),if_pos (by omega),if_pos (by omega),show ((37 : Int) != 37) = false by decide,if_neg (show ¬ false = true by decide),if_pos (by omega),if_pos (by omega),(hex_b x).2.1 _ (by omega),Option.bind_some,if_pos (by omega),if_pos (by omega),(hex_b y).2.1 _ (by omega),Option.bind_some]
 by_cases c : 0 ≤ hv x
 ·rw [if_neg (by omega)]
  by_cases c2 : 0 ≤ hv y
  ·have:=(hex_b x).2.2.2
   have:=(hex_b y).2.2.2
   rw [if_neg (by omega),if_pos ⟨c,c2⟩,w64 (x:=16 * hv x) (by omega) (by omega),w64 (by omega) (by omega)]
  ·rw [if_pos (by omega),if_neg (fun h => c2 h.2)]
 ·rw [if_pos (by omega),if_neg (fun h => c h.1)]
theorem byte_short (k : Nat) (pre : List UInt8) (r : List UInt8) (b : UInt8) (hl : (pre ++ b :: r).length ≤ 90000000) (h : r.length < 2 ∨ b ≠ 37) : spec_l1Byte.f (k + 3) (tx (pre ++ b :: r)) (pre.length : Int) = some (-1):=by
 have e0 : bt (tx (pre ++ b :: r)) (pre.length : Int) = (b.toNat : Int):=bt_at pre _ b
 have hs : ((tx (pre ++ b :: r)).size : Int) = (pre.length : Int) + 1 + (r.length : Int):=by rw [tx_size];simp;omega
 simp only [List.length_append,List.length_cons] at hl
 have w2 : wrap64 ((pre.length : Int) + 2) = (pre.length : Int) + 2:=w64 (by omega) (by omega)
 unfold spec_l1Byte.f
 rw [w2,hs]
 by_cases c : r.length < 2
 ·rw [if_pos (by omega)]
  unfold spec_l1Byte.j0
  dsimp only
  rw [if_pos rfl]
 ·have hb : b ≠ 37:=h.resolve_left c
  rw [if_neg (by omega),if_pos (by omega),if_pos (by omega),e0]
  unfold spec_l1Byte.j0
  dsimp only
  rw [if_pos (bne_iff_ne.mpr (fun hh => hb ((toNat_37 b).mp hh)))]
def pch (o : List UInt8) : List UInt8 → Bool
 | [] => true
 | b :: r => if b = 37 then (match r with | x :: y :: z => decide (0 ≤ hv x) && decide (0 ≤ hv y) && pch o z | _ => false) else okB o b && pch o r
theorem pch_ne (o : List UInt8) (b : UInt8) (r : List UInt8) (c : b ≠ 37) : pch o (b :: r) = (okB o b && pch o r):=by
 conv => lhs;unfold pch
 rw [if_neg c]
theorem pch_I (o : List UInt8) (ho : Oth o) : ∀ (n : Nat) (M pre : List UInt8) (K : Nat),M.length ≤ n → (pre ++ M).length ≤ 3000000 → n + 2 ≤ K → impl_arePchars.l0 K (tx (pre ++ M)) (tx o) (pre.length : Int) = some (pch o M)
 | n,M,pre,0,_,_,h => absurd h (by omega)
 | n,[],pre,K + 1,_,_,_ => by
  unfold impl_arePchars.l0 pch
  rw [tx_size,List.append_nil,if_neg (Int.lt_irrefl _)]
 | 0,b :: r,pre,K + 1,h,_,_ => absurd h (by simp)
 | n + 1,b :: r,pre,K + 1,h,hl,hK => by
  have hs : ((tx (pre ++ b :: r)).size : Int) = (pre.length : Int) + 1 + (r.length : Int):=by rw [tx_size];simp;omega
  have e0 : bt (tx (pre ++ b :: r)) (pre.length : Int) = (b.toNat : Int):=bt_at pre _ b
  have hl2 : pre.length + (r.length + 1) ≤ 3000000:=by simpa using hl
  have hr : r.length ≤ n:=by simpa using h
  unfold impl_arePchars.l0
  rw [hs,e0,if_pos (by omega),if_pos (by omega)]
  by_cases c : b = 37
  ·subst c
   rw [if_pos (show (((37 : UInt8).toNat : Nat) : Int) = 37 from rfl),if_pos (by omega),tx_tail]
   obtain ⟨K2,rfl⟩ : ∃ K2,K = K2 + 1:=⟨K - 1,by omega⟩
   match r,h,hl,hl2,hr with
   | [],_,_,_,_ => rw [perc_short K2 _ (by simp),Option.bind_some,if_neg (by decide)];rfl
   | [x],_,_,_,_ => rw [perc_short K2 _ (by simp),Option.bind_some,if_neg (by decide)];rfl
   | x :: y :: z,_,hl,hl2,hr =>
    rw [perc_I,Option.bind_some]
    have e : pch o (37 :: x :: y :: z) = (decide (0 ≤ hv x) && decide (0 ≤ hv y) && pch o z):=rfl
    rw [e]
    by_cases c : 0 ≤ hv x ∧ 0 ≤ hv y
    ·rw [if_pos c,if_pos rfl,decide_eq_true c.1,decide_eq_true c.2,Bool.true_and,Bool.true_and]
     simp only [List.length_cons] at hl2 hr
     rw [w64 (x:=(pre.length : Int) + 2) (by omega) (by omega),w64 (by omega) (by omega)]
     have ih:=pch_I o ho n z (pre ++ [37,x,y]) (K2 + 1) (by omega) (by simp;omega) (by omega)
     have e1 : pre ++ [37,x,y] ++ z = pre ++ 37 :: x :: y :: z:=by simp
     have e2 : (((pre ++ [37,x,y]).length : Nat) : Int) = (pre.length : Int) + 2 + 1:=by simp;omega
     rw [e1,e2] at ih
     exact ih
    ·rw [if_neg c,if_neg (by decide)]
     have : (decide (0 ≤ hv x) && decide (0 ≤ hv y)) = false:=by
      rw [Bool.eq_false_iff];simp only [ne_eq,Bool.and_eq_true,decide_eq_true_eq];exact c
     rw [this,Bool.false_and]
  ·have e : pch o (b :: r) = (okB o b && pch o r):=pch_ne o b r c
   rw [if_neg (fun hh => c ((toNat_37 b).mp hh)),e,tx_size,if_pos (by have:=ho.sm;omega)]
   have ea : (⟨#[45,46,95,126,33,36,38,39,40,41,42,43,44,59,61,58,64]⟩ : ByteArray) ++ tx o = tx (pbase ++ o):=tx_app _ _
   rw [ea,ho.am b,Option.bind_some]
   cases okB o b with
   | false => rw [if_neg (by decide),Bool.false_and]
   | true =>
    rw [if_pos rfl,Bool.true_and,w64 (by omega) (by omega)]
    have ih:=pch_I o ho n r (pre ++ [b]) K hr (by simp;omega) (by omega)
    have e1 : pre ++ [b] ++ r = pre ++ b :: r:=by simp
    have e2 : (((pre ++ [b]).length : Nat) : Int) = (pre.length : Int) + 1:=by simp
    rw [e1,e2] at ih
    exact ih
theorem pch_S (o : List UInt8) (ho : Oth o) : ∀ (n : Nat) (M pre : List UInt8) (K : Nat),M.length ≤ n → (pre ++ M).length ≤ 3000000 → 2 * n + 30 ≤ K → spec_l1Chars.l0 K (tx (pre ++ M)) (tx o) (pre.length : Int) = some (pch o M)
 | n,M,pre,0,_,_,h => absurd h (by omega)
 | n,M,pre,1,_,_,h => absurd h (by omega)
 | n,[],pre,K + 2,_,_,_ => by
  unfold spec_l1Chars.l0 pch
  rw [tx_size,List.append_nil,if_neg (Int.lt_irrefl _)]
 | 0,b :: r,pre,K + 2,h,_,_ => absurd h (by simp)
 | n + 1,b :: r,pre,K + 2,h,hl,hK => by
  have hs : ((tx (pre ++ b :: r)).size : Int) = (pre.length : Int) + 1 + (r.length : Int):=by rw [tx_size];simp;omega
  have e0 : bt (tx (pre ++ b :: r)) (pre.length : Int) = (b.toNat : Int):=bt_at pre _ b
  have hl2 : pre.length + (r.length + 1) ≤ 3000000:=by simpa using hl
  have hr : r.length ≤ n:=by simpa using h
  obtain ⟨f,h1,h2,g1,g2,g3,g4⟩:=ho.sp b (K + 1) (by omega)
  have yes : okB o b = true → spec_l1Chars.j1 (K + 1) (tx (pre ++ b :: r)) (tx o) (pre.length : Int) true = some (pch o r):=fun hh => by
   unfold spec_l1Chars.j1
   rw [if_pos rfl,w64 (by omega) (by omega)]
   have ih:=pch_S o ho n r (pre ++ [b]) K hr (by simp;omega) (by omega)
   have e1 : pre ++ [b] ++ r = pre ++ b :: r:=by simp
   have e2 : (((pre ++ [b]).length : Nat) : Int) = (pre.length : Int) + 1:=by simp
   rw [e1,e2] at ih
   exact ih
  have no : okB o b = false → spec_l1Chars.j1 (K + 1) (tx (pre ++ b :: r)) (tx o) (pre.length : Int) false = some (pch o (b :: r)):=fun hh => by
   unfold spec_l1Chars.j1
   rw [if_neg (by decide)]
   obtain ⟨K3,rfl⟩ : ∃ K3,K = K3 + 3:=⟨K - 3,by omega⟩
   by_cases c : b = 37
   ·subst c
    match r,h,hl,hl2,hr with
    | [],_,hl,_,_ => rw [byte_short K3 pre _ 37 (by omega) (Or.inl (by simp)),Option.bind_some,if_pos (by decide)];rfl
    | [x],_,hl,_,_ => rw [byte_short K3 pre _ 37 (by omega) (Or.inl (by simp)),Option.bind_some,if_pos (by decide)];rfl
    | x :: y :: z,_,hl,hl2,hr =>
     rw [byte_S K3 pre x y z (by omega),Option.bind_some]
     have e : pch o (37 :: x :: y :: z) = (decide (0 ≤ hv x) && decide (0 ≤ hv y) && pch o z):=rfl
     rw [e]
     by_cases c : 0 ≤ hv x ∧ 0 ≤ hv y
     ·rw [if_pos c,if_neg (by omega),decide_eq_true c.1,decide_eq_true c.2,Bool.true_and,Bool.true_and]
      simp only [List.length_cons] at hl2 hr
      rw [w64 (x:=(pre.length : Int) + 2) (by omega) (by omega),w64 (by omega) (by omega)]
      have ih:=pch_S o ho n z (pre ++ [37,x,y]) (K3 + 3) (by omega) (by simp;omega) (by omega)
      have e1 : pre ++ [37,x,y] ++ z = pre ++ 37 :: x :: y :: z:=by simp
      have e2 : (((pre ++ [37,x,y]).length : Nat) : Int) = (pre.length : Int) + 2 + 1:=by simp;omega
      rw [e1,e2] at ih
      exact ih
     ·rw [if_neg c,if_pos (by decide)]
      have : (decide (0 ≤ hv x) && decide (0 ≤ hv y)) = false:=by
       rw [Bool.eq_false_iff];simp only [ne_eq,Bool.and_eq_true,decide_eq_true_eq];exact c
      rw [this,Bool.false_and]
   ·have e : pch o (b :: r) = (okB o b && pch o r):=pch_ne o b r c
    rw [byte_short K3 pre r b (by omega) (Or.inr c),Option.bind_some,if_pos (by decide),e,hh,Bool.false_and]
  have key : ∀ v : Bool,v = okB o b → spec_l1Chars.j1 (K + 1) (tx (pre ++ b :: r)) (tx o) (pre.length : Int) v = some (pch o (b :: r)):=fun v hv' => by
   cases v with
   | true =>
    have c : b ≠ 37:=fun hh => by subst hh;rw [ho.pr] at hv';cases hv'
    have e : pch o (b :: r) = (okB o b && pch o r):=pch_ne o b r c
    rw [yes hv'.symm,e,← hv',Bool.true_and]
   | false => exact no hv'.symm
  unfold spec_l1Chars.l0
  rw [hs,e0,if_pos (by omega),if_pos (by omega),g1,Option.bind_some]
  cases f with
  | true => rw [if_pos rfl];exact key true (by rw [← g4];simp)
  | false =>
   rw [if_neg (by decide),g2,Option.bind_some]
   cases h1 with
   | true => rw [if_pos rfl];exact key true (by rw [← g4];simp)
   | false =>
    rw [if_neg (by decide),g3,Option.bind_some]
    exact key h2 (by rw [← g4];simp)
def portL (n : Int) : List UInt8:=if n = 0 then [] else 58 :: Lib.itoa n
def askL (q : List UInt8) (a : Bool) : List UInt8:=if a = true then 63 :: q else []
def textL (S H : List UInt8) (n : Int) (P Q : List UInt8) (a : Bool) : List UInt8:=S ++ ([58,47,47] ++ (H ++ (portL n ++ (P ++ askL Q a))))
theorem text_I (S H : List UInt8) (n : Int) (P Q : List UInt8) (a : Bool) (hS : S.length ≤ 3000000) (hH : H.length ≤ 3000000) (hP : P.length ≤ 3000000) (hQ : Q.length ≤ 3000000) (h0 : 0 ≤ n) (h1 : n < 1000000) : impl_urlText.f (tx S) (tx H) n (tx P) (tx Q) a = some (tx (textL S H n P Q a)):=by
 have hl:=itoa_len n h0 (by omega)
 have e1 : (⟨#[58,47,47]⟩ : ByteArray) = tx [58,47,47]:=rfl
 have e2 : (⟨#[58]⟩ : ByteArray) = tx [58]:=rfl
 have e3 : (⟨#[63]⟩ : ByteArray) = tx [63]:=rfl
 unfold impl_urlText.f textL portL askL
 rw [e1,e2,e3,itoa_f n h0 (by omega)]
 simp only [Option.bind_some]
 generalize Lib.itoa n = I at hl ⊢
 by_cases c : n = 0
 ·rw [if_pos c,if_pos c]
  cases a <;> simp [tx_app,tx_size] <;> omega
 ·rw [if_neg c,if_neg c]
  cases a <;> simp [tx_app,tx_size] <;> omega
theorem text_S (k : Nat) (S H : List UInt8) (n : Int) (P Q : List UInt8) (a : Bool) (hS : S.length ≤ 3000000) (hH : H.length ≤ 3000000) (hP : P.length ≤ 3000000) (hQ : Q.length ≤ 3000000) (h0 : 0 ≤ n) (h1 : n < 1000000) : spec_l1Text.f (k + 7) (tx S) (tx H) n (tx P) (tx Q) a = some (tx (textL S H n P Q a)):=by
 have hl:=itoa_len n h0 (by omega)
 have e1 : (⟨#[58,47,47]⟩ : ByteArray) = tx [58,47,47]:=rfl
 have e2 : (⟨#[58]⟩ : ByteArray) = tx [58]:=rfl
 have e3 : (⟨#[63]⟩ : ByteArray) = tx [63]:=rfl
 unfold spec_l1Text.f textL portL askL
 rw [e1,e2,e3,num_f (k + 7) n (by omega) h0 (by omega)]
 simp only [Option.bind_some]
 generalize Lib.itoa n = I at hl ⊢
 by_cases c : n = 0
 ·rw [if_pos c,if_pos c]
  cases a <;> simp [tx_app,tx_size] <;> omega
 ·rw [if_neg c,if_neg c]
  cases a <;> simp [tx_app,tx_size] <;> omega
theorem host_I (H : List UInt8) (h : H.length ≤ 3000000) : xBytes_impl_GoodUrl_1.f (tx H) = some (H.all hostB):=by
 unfold xBytes_impl_GoodUrl_1.f xAll_u8_impl_GoodUrl_1.f
 rw [tx_size,if_pos (by omega),bytes_tx,if_pos (by rw [List.length_map];omega)]
 obtain ⟨i,e,g⟩:=idxO_mem xAll_u8_impl_GoodUrl_1.z (fun x => hostB (UInt8.ofNat x.toNat)) (H.map fun b => (b.toNat : Int)) (fun x hx => by
  obtain ⟨b,_,rfl⟩:=List.mem_map.mp hx
  unfold xAll_u8_impl_GoodUrl_1.z
  rw [(host_b b).1,Option.bind_some,Int.toNat_natCast,UInt8.ofNat_toNat]) 0 (by decide)
 rw [e,Option.bind_some,g,List.all_map]
 have e2 : ((fun x : Int => hostB (UInt8.ofNat x.toNat)) ∘ fun b : UInt8 => (b.toNat : Int)) = hostB:=by
  funext b
  show hostB (UInt8.ofNat ((b.toNat : Int)).toNat) = hostB b
  rw [Int.toNat_natCast,UInt8.ofNat_toNat]
 rw [e2]
theorem host_S : ∀ (M pre : List UInt8) (K : Nat),(pre ++ M).length ≤ 3000000 → M.length < K → spec_l1Host.l0 K (tx (pre ++ M)) (pre.length : Int) = some (M.all hostB && (decide (1 ≤ (((pre ++ M).length : Nat) : Int)) && decide ((((pre ++ M).length : Nat) : Int) ≤ 60)))
 | M,pre,0,_,h => absurd h (by omega)
 | [],pre,K + 1,hl,_ => by
  unfold spec_l1Host.l0
  rw [tx_size,List.append_nil,if_neg (Int.lt_irrefl _),inR,Option.bind_some]
  rfl
 | b :: r,pre,K + 1,hl,hK => by
  have hs : ((tx (pre ++ b :: r)).size : Int) = (pre.length : Int) + 1 + (r.length : Int):=by rw [tx_size];simp;omega
  have e0 : bt (tx (pre ++ b :: r)) (pre.length : Int) = (b.toNat : Int):=bt_at pre _ b
  have hl2 : pre.length + (r.length + 1) ≤ 3000000:=by simpa using hl
  have ih:=host_S r (pre ++ [b]) K (by simp;omega) (by simp at hK;omega)
  have e1 : pre ++ [b] ++ r = pre ++ b :: r:=by simp
  have e2 : (((pre ++ [b]).length : Nat) : Int) = (pre.length : Int) + 1:=by simp
  rw [e1,e2] at ih
  unfold spec_l1Host.l0
  rw [hs,e0,if_pos (by omega),if_pos (by omega),(host_b b).2.1,(host_b b).2.2.1,Option.bind_some,Option.bind_some,w64 (by omega) (by omega),ih,List.all_cons]
  have n45 : ((b.toNat : Int) = 45) = (b = 45):=propext ⟨fun h => UInt8.toNat_inj.mp (by show b.toNat = 45;omega),fun h => by subst h;rfl⟩
  have n46 : ((b.toNat : Int) = 46) = (b = 46):=propext ⟨fun h => UInt8.toNat_inj.mp (by show b.toNat = 46;omega),fun h => by subst h;rfl⟩
  simp only [n45,n46]
  unfold hostB
  cases isLB b with
  | true => rw [if_pos rfl];simp
  | false =>
   rw [if_neg (by decide)]
   cases isDB b with
   | true => rw [if_pos rfl];simp
   | false =>
    rw [if_neg (by decide)]
    by_cases c : b = 45
    ·rw [if_pos c,c];simp
    ·rw [if_neg c]
     by_cases c2 : b = 46
     ·rw [if_pos c2,c2];simp
     ·rw [if_neg c2,beq_eq_false_iff_ne.mpr c,beq_eq_false_iff_ne.mpr c2];rfl
theorem ite_and (A : Bool) (x : Option Bool) (B : Bool) (h : A = true → x = some B) : (if A = true then x else some false) = some (A && B):=by
 cases A with
 | true => rw [if_pos rfl,h rfl];rfl
 | false => rfl
def slash (P : List UInt8) : Bool:=match P with | b :: _ => b == 47 | [] => false
def tailB (S H : List UInt8) (n : Int) (P Q : List UInt8) (a : Bool) : Bool:=pch [47] P && (pch [47,63] Q && ((a || Q.isEmpty) && decide ((textL S H n P Q a).length ≤ 200)))
def schB (S : List UInt8) : Bool:=decide (S = [104,116,116,112]) || decide (S = [104,116,116,112,115])
def goodL (S H : List UInt8) (n : Int) (P Q : List UInt8) (a : Bool) : Bool:=schB S && ((decide (1 ≤ (H.length : Int)) && decide ((H.length : Int) ≤ 60)) && (H.all hostB && ((decide (0 ≤ n) && decide (n ≤ 65535)) && (slash P && tailB S H n P Q a))))
theorem prefix_f (P : List UInt8) (h : P.length ≤ 3000000) : strings_HasPrefix.f (tx P) (⟨#[47]⟩ : ByteArray) = some (slash P):=by
 unfold strings_HasPrefix.f stringslite_HasPrefix.f
 have e : (⟨#[47]⟩ : ByteArray) = tx [47]:=rfl
 rw [e,tx_size,tx_size,tx_toList [47]]
 cases P with
 | nil => rw [if_neg (by decide),Option.bind_some];rfl
 | cons b r =>
  rw [if_pos (by simp;omega),if_pos (by decide),if_pos (by simp;omega),Option.bind_some,tx_cut,tx_toList]
  have : ((b :: r).drop 0).take (((([47] : List UInt8).length : Nat) : Int).toNat - 0) = [b]:=rfl
  rw [this]
  unfold slash
  dsimp only
  by_cases c : b = 47
  ·rw [c];rfl
  ·rw [beq_eq_false_iff_ne.mpr c,beq_eq_false_iff_ne.mpr (fun hh => c (by injection hh))]
theorem good_tail (k : Nat) (S H : List UInt8) (n : Int) (P Q : List UInt8) (a : Bool) (x : Option ByteArray) (hx : x = some (tx (textL S H n P Q a))) : (if a = true then x.bind (fun t => some (decide ((t.size : Int) ≤ 200))) else if (tx Q).toList = [] then x.bind (fun t => some (decide ((t.size : Int) ≤ 200))) else some false) = some ((a || Q.isEmpty) && decide ((textL S H n P Q a).length ≤ 200)):=by
 subst hx
 rw [Option.bind_some,tx_size,tx_toList]
 have e : decide ((((textL S H n P Q a).length : Nat) : Int) ≤ 200) = decide ((textL S H n P Q a).length ≤ 200):=by congr 1;exact propext ⟨fun h => by omega,fun h => by omega⟩
 rw [e]
 cases a with
 | true => rw [if_pos rfl];rfl
 | false =>
  rw [if_neg (by decide)]
  cases Q with
  | nil => rw [if_pos rfl];rfl
  | cons b r => rw [if_neg (by simp)];rfl
theorem goodU_I (k : Nat) (S H : List UInt8) (n : Int) (P Q : List UInt8) (a : Bool) (hS : S.length ≤ 3000000) (hH : H.length ≤ 3000000) (hP : P.length ≤ 3000000) (hQ : Q.length ≤ 3000000) (hk : 3000002 ≤ k) : impl_GoodUrl.f k (tx S) (tx H) n (tx P) (tx Q) a = some (goodL S H n P Q a):=by
 have cP : impl_arePchars.f k (tx P) (⟨#[47]⟩ : ByteArray) = some (pch [47] P):=pch_I [47] oth_path P.length P [] k (Nat.le_refl _) hP (by omega)
 have cQ : impl_arePchars.f k (tx Q) (⟨#[47,63]⟩ : ByteArray) = some (pch [47,63] Q):=pch_I [47,63] oth_query Q.length Q [] k (Nat.le_refl _) hQ (by omega)
 unfold impl_GoodUrl.f goodL
 rw [tx_toList,cP,cQ,host_I H hH,prefix_f P hP,withinR,withinR,tx_size]
 simp only [Option.bind_some]
 unfold schB
 by_cases c1 : S = [104,116,116,112]
 ·rw [if_pos c1,decide_eq_true c1,Bool.true_or,Bool.true_and]
  refine ite_and _ _ _ fun _ => ite_and _ _ _ fun _ => ite_and _ _ _ fun hn => ite_and _ _ _ fun _ => ite_and _ _ _ fun _ => ite_and _ _ _ fun _ => ?_
  simp only [Bool.and_eq_true,decide_eq_true_eq] at hn
  exact good_tail k S H n P Q a _ (text_I S H n P Q a hS hH hP hQ hn.1 (by omega))
 ·rw [if_neg c1,decide_eq_false c1,Bool.false_or]
  by_cases c2 : S = [104,116,116,112,115]
  ·rw [if_pos c2,decide_eq_true c2,Bool.true_and]
   refine ite_and _ _ _ fun _ => ite_and _ _ _ fun _ => ite_and _ _ _ fun hn => ite_and _ _ _ fun _ => ite_and _ _ _ fun _ => ite_and _ _ _ fun _ => ?_
   simp only [Bool.and_eq_true,decide_eq_true_eq] at hn
   exact good_tail k S H n P Q a _ (text_I S H n P Q a hS hH hP hQ hn.1 (by omega))
  ·rw [if_neg c2,decide_eq_false c2,Bool.false_and]
theorem goodU_S (k : Nat) (S H : List UInt8) (n : Int) (P Q : List UInt8) (a : Bool) (hS : S.length ≤ 3000000) (hH : H.length ≤ 3000000) (hP : P.length ≤ 3000000) (hQ : Q.length ≤ 3000000) (hk : 9000002 ≤ k) : spec_GoodUrl.f k (tx S) (tx H) n (tx P) (tx Q) a = some (goodL S H n P Q a):=by
 obtain ⟨m,rfl⟩ : ∃ m,k = m + 1:=⟨k - 1,by omega⟩
 have cP : spec_l1Chars.f m (tx P) (⟨#[47]⟩ : ByteArray) = some (pch [47] P):=pch_S [47] oth_path P.length P [] m (Nat.le_refl _) hP (by omega)
 have cQ : spec_l1Chars.f m (tx Q) (⟨#[47,63]⟩ : ByteArray) = some (pch [47,63] Q):=pch_S [47,63] oth_query Q.length Q [] m (Nat.le_refl _) hQ (by omega)
 have cH : spec_l1Host.f (m + 1) (tx H) = some (H.all hostB && (decide (1 ≤ (H.length : Int)) && decide ((H.length : Int) ≤ 60))):=host_S H [] (m + 1) hH (by omega)
 have jt : spec_GoodUrl.j0 (m + 1) true (tx S) (tx H) n (tx P) (tx Q) a = some false:=rfl
 have jf : 0 ≤ n → n ≤ 65535 → spec_GoodUrl.j0 (m + 1) false (tx S) (tx H) n (tx P) (tx Q) a = some (tailB S H n P Q a):=fun h0 h1 => by
  unfold spec_GoodUrl.j0 tailB
  dsimp only
  rw [if_neg (by decide),cP,cQ]
  simp only [Option.bind_some]
  obtain ⟨m2,rfl⟩ : ∃ m2,m = m2 + 7:=⟨m - 7,by omega⟩
  exact ite_and _ _ _ fun _ => ite_and _ _ _ fun _ => good_tail 0 S H n P Q a _ (text_S m2 S H n P Q a hS hH hP hQ h0 (by omega))
 unfold spec_GoodUrl.f goodL
 rw [tx_toList,cH,inR]
 simp only [Option.bind_some]
 have slashV : (0 ≤ n → n ≤ 65535 → (if ((tx P).size : Int) = 0 then spec_GoodUrl.j0 (m + 1) true (tx S) (tx H) n (tx P) (tx Q) a else if 0 < ((tx P).size : Int) then spec_GoodUrl.j0 (m + 1) (bt (tx P) 0 != 47) (tx S) (tx H) n (tx P) (tx Q) a else none) = some (slash P && tailB S H n P Q a)):=fun h0 h1 => by
  cases P with
  | nil => rw [if_pos (by rfl),jt];rfl
  | cons b r =>
   have e0 : bt (tx (b :: r)) 0 = (b.toNat : Int):=bt_tx (b :: r) 0 (by simp)
   rw [tx_size,if_neg (by rw [List.length_cons];omega),if_pos (by rw [List.length_cons];omega),e0]
   unfold slash
   dsimp only
   by_cases c : b = 47
   ·subst c
    rw [show ((((47 : UInt8).toNat : Nat) : Int) != 47) = false by decide,jf h0 h1];rfl
   ·have : ((b.toNat : Int) != 47) = true:=bne_iff_ne.mpr fun hh => c (UInt8.toNat_inj.mp (by show b.toNat = 47;omega))
    rw [this,jt]
    show _ = some ((b == 47) && _)
    rw [beq_eq_false_iff_ne.mpr c,Bool.false_and]
 have main : (if (H.all hostB && (decide (1 ≤ (H.length : Int)) && decide ((H.length : Int) ≤ 60))) = true then (if (decide (0 ≤ n) && decide (n ≤ 65535)) = true then (if ((tx P).size : Int) = 0 then spec_GoodUrl.j0 (m + 1) true (tx S) (tx H) n (tx P) (tx Q) a else if 0 < ((tx P).size : Int) then spec_GoodUrl.j0 (m + 1) (bt (tx P) 0 != 47) (tx S) (tx H) n (tx P) (tx Q) a else none) else spec_GoodUrl.j0 (m + 1) true (tx S) (tx H) n (tx P) (tx Q) a) else spec_GoodUrl.j0 (m + 1) true (tx S) (tx H) n (tx P) (tx Q) a) = some ((decide (1 ≤ (H.length : Int)) && decide ((H.length : Int) ≤ 60)) && (H.all hostB && ((decide (0 ≤ n) && decide (n ≤ 65535)) && (slash P && tailB S H n P Q a)))):=by
  rw [jt] at slashV ⊢
  rw [ite_and (decide (0 ≤ n) && decide (n ≤ 65535)) _ (slash P && tailB S H n P Q a) fun hn => by
   simp only [Bool.and_eq_true,decide_eq_true_eq] at hn
   exact slashV hn.1 hn.2,ite_and _ _ _ fun _ => rfl]
  generalize H.all hostB = A
  generalize (decide (1 ≤ (H.length : Int)) && decide ((H.length : Int) ≤ 60)) = B
  cases A <;> cases B <;> rfl
 unfold schB
 by_cases c1 : S = [104,116,116,112]
 ·rw [if_pos c1,decide_eq_true c1,Bool.true_or,Bool.true_and]
  exact main
 ·rw [if_neg c1,decide_eq_false c1,Bool.false_or]
  by_cases c2 : S = [104,116,116,112,115]
  ·rw [if_pos c2,decide_eq_true c2,Bool.true_and]
   exact main
  ·rw [if_neg c2,decide_eq_false c2,Bool.false_and]
   exact jt
abbrev nums (l : List UInt8) : List Int:=l.map fun b => (b.toNat : Int)
theorem son_nums (l : List UInt8) : strOfNums (nums l) = tx l:=by
 apply ByteArray.ext
 apply Array.toList_inj.mp
 simp [strOfNums]
 exact (List.map_congr_left (g:=id) (fun b _ => by simp)).trans (List.map_id _)
def hexD (i : Nat) : UInt8:=([48,49,50,51,52,53,54,55,56,57,65,66,67,68,69,70] : List UInt8).getD i 48
def enc3 (b : UInt8) : List UInt8:=[37,hexD (b.toNat / 16),hexD (b.toNat % 16)]
def encP (b : UInt8) : Bool:=decide (impl_encoded.f (b.toNat : Int) = some (tx (enc3 b))) && decide (spec_l1Percent.f (b.toNat : Int) = some (tx (enc3 b))) && decide (0 ≤ hv (hexD (b.toNat / 16))) && decide (0 ≤ hv (hexD (b.toNat % 16))) && decide (16 * hv (hexD (b.toNat / 16)) + hv (hexD (b.toNat % 16)) = (b.toNat : Int))
theorem enc_all : ((List.range 256).all fun n => encP (UInt8.ofNat n)) = true:=by decide +kernel
theorem enc_b (b : UInt8) : impl_encoded.f (b.toNat : Int) = some (tx (enc3 b)) ∧ spec_l1Percent.f (b.toNat : Int) = some (tx (enc3 b)) ∧ (0 ≤ hv (hexD (b.toNat / 16)) ∧ 0 ≤ hv (hexD (b.toNat % 16))) ∧ 16 * hv (hexD (b.toNat / 16)) + hv (hexD (b.toNat % 16)) = (b.toNat : Int):=by
 have g:=byte_all encP enc_all b
 unfold encP at g
 simp only [Bool.and_eq_true,decide_eq_true_eq] at g
 exact ⟨g.1.1.1.1,g.1.1.1.2,⟨g.1.1.2,g.1.2⟩,g.2⟩
def npL : List UInt8 → List UInt8
 | [] => []
 | b :: r => if b = 37 then (match r with | x :: y :: z => if 0 ≤ hv x ∧ 0 ≤ hv y then (if freeB (UInt8.ofNat (16 * hv x + hv y).toNat) = true then [UInt8.ofNat (16 * hv x + hv y).toNat] else enc3 (UInt8.ofNat (16 * hv x + hv y).toNat)) ++ npL z else b :: npL (x :: y :: z) | [x] => b :: npL [x] | [] => [b]) else b :: npL r
theorem npL_ne (b : UInt8) (r : List UInt8) (c : b ≠ 37) : npL (b :: r) = b :: npL r:=by
 conv => lhs;unfold npL
 rw [if_neg c]
theorem npL_short (b : UInt8) (r : List UInt8) (c : r.length < 2) : npL (b :: r) = b :: npL r:=by
 by_cases h : b = 37
 ·subst h
  match r,c with
  | [],_ => rfl
  | [x],_ => rfl
  | _ :: _ :: _,c => exact absurd c (by simp)
 ·exact npL_ne b r h
def ptB (x y : UInt8) : UInt8:=UInt8.ofNat (16 * hv x + hv y).toNat
theorem ptB_nat (x y : UInt8) (h1 : 0 ≤ hv x) (h2 : 0 ≤ hv y) : ((ptB x y).toNat : Int) = 16 * hv x + hv y:=by
 have:=(hex_b x).2.2.2
 have:=(hex_b y).2.2.2
 unfold ptB
 rw [UInt8.toNat_ofNat']
 omega
def ptL (x y : UInt8) : List UInt8:=if freeB (ptB x y) = true then [ptB x y] else enc3 (ptB x y)
theorem ptL_len (x y : UInt8) : (ptL x y).length ≤ 3:=by unfold ptL;split <;> simp [enc3]
theorem npL_yes (x y : UInt8) (z : List UInt8) (h : 0 ≤ hv x ∧ 0 ≤ hv y) : npL (37 :: x :: y :: z) = ptL x y ++ npL z:=by
 conv => lhs;unfold npL
 rw [if_pos rfl]
 dsimp only
 rw [if_pos h];rfl
theorem npL_no (x y : UInt8) (z : List UInt8) (h : ¬ (0 ≤ hv x ∧ 0 ≤ hv y)) : npL (37 :: x :: y :: z) = 37 :: npL (x :: y :: z):=by
 conv => lhs;unfold npL
 rw [if_pos rfl]
 dsimp only
 rw [if_neg h]
theorem npL_len : ∀ (n : Nat) (l : List UInt8),l.length ≤ n → (npL l).length ≤ l.length
 | _,[],_ => by simp [npL]
 | 0,b :: r,h => absurd h (by simp)
 | n + 1,b :: r,h => by
  have hr : r.length ≤ n:=by simpa using h
  by_cases c : b = 37
  ·subst c
   match r,hr with
   | [],_ => simp [npL]
   | [x],hr => rw [npL_short _ _ (by simp)];have:=npL_len n [x] hr;simpa using this
   | x :: y :: z,hr =>
    by_cases h : 0 ≤ hv x ∧ 0 ≤ hv y
    ·rw [npL_yes x y z h,List.length_append]
     have:=npL_len n z (by simp at hr;omega)
     have:=ptL_len x y
     simp;omega
    ·rw [npL_no x y z h]
     have:=npL_len n (x :: y :: z) hr
     simp at this ⊢;omega
  ·rw [npL_ne b r c]
   have:=npL_len n r hr
   simp;omega
theorem room (a b : Nat) (ha : a < 140737488355320) (hb : b ≤ 3) : a + b < 140737488355328:=by omega
theorem room0 (a : Nat) (ha : a < 140737488355320) : a < 140737488355328:=by omega
theorem room2 (a b : Nat) (ha : a ≤ 9000000) (hb : b ≤ 3) : a + b ≤ 9223372036854775807:=by omega
theorem nums_small (A pre : List UInt8) (h : A.length ≤ 3 * pre.length) (h2 : pre.length ≤ 3000000) : (nums A).length < 140737488355320:=by rw [List.length_map];omega
theorem len1 (t : UInt8) : [t].length ≤ 3:=Nat.succ_le_succ (Nat.zero_le 2)
theorem len3 (t : UInt8) : (tx (enc3 t)).size ≤ 3:=by rw [tx_size];exact Nat.le_refl 3
theorem grow1 (A pre : List UInt8) (t x y : UInt8) (h : A.length ≤ 3 * pre.length) : (A ++ [t]).length ≤ 3 * (pre ++ [37,x,y]).length:=by
 rw [List.length_append,List.length_append]
 show A.length + 1 ≤ 3 * (pre.length + 3)
 omega
theorem grow3 (A pre : List UInt8) (t x y : UInt8) (h : A.length ≤ 3 * pre.length) : (A ++ enc3 t).length ≤ 3 * (pre ++ [37,x,y]).length:=by
 rw [List.length_append,List.length_append]
 show A.length + 3 ≤ 3 * (pre.length + 3)
 omega
theorem np_I : ∀ (n : Nat) (M pre A : List UInt8) (K : Nat),M.length ≤ n → (pre ++ M).length ≤ 3000000 → A.length ≤ 3 * pre.length → n + 2 ≤ K → impl_normalPercents.l0 K (tx (pre ++ M)) (nums A) (pre.length : Int) = some (tx (A ++ npL M))
 | n,M,pre,A,0,_,_,_,h => absurd h (by omega)
 | n,[],pre,A,K + 1,_,_,_,_ => by
  unfold impl_normalPercents.l0 npL
  rw [tx_size,List.append_nil,if_neg (Int.lt_irrefl _),son_nums,List.append_nil]
 | 0,b :: r,pre,A,K + 1,h,_,_,_ => absurd h (by simp)
 | n + 1,b :: r,pre,A,K + 1,h,hl,hA,hK => by
  have hs : ((tx (pre ++ b :: r)).size : Int) = (pre.length : Int) + 1 + (r.length : Int):=by rw [tx_size];simp;omega
  have e0 : bt (tx (pre ++ b :: r)) (pre.length : Int) = (b.toNat : Int):=bt_at pre _ b
  have hl2 : pre.length + (r.length + 1) ≤ 3000000:=by simpa using hl
  have hr : r.length ≤ n:=by simpa using h
  have hn1 : (nums A).length < 140737488355320:=nums_small A pre hA (by omega)
  obtain ⟨K2,rfl⟩ : ∃ K2,K = K2 + 1:=⟨K - 1,by omega⟩
  have plain : npL (b :: r) = b :: npL r → impl_normalPercents.l0 (K2 + 1) (tx (pre ++ b :: r)) (nums A ++ [(b.toNat : Int)]) ((pre.length : Int) + 1) = some (tx (A ++ npL (b :: r))):=fun hh => by
   have ih:=np_I n r (pre ++ [b]) (A ++ [b]) (K2 + 1) hr (by simp;omega) (by simp;omega) (by omega)
   have e1 : pre ++ [b] ++ r = pre ++ b :: r:=by simp
   have e2 : (((pre ++ [b]).length : Nat) : Int) = (pre.length : Int) + 1:=by simp
   have e3 : nums A ++ [(b.toNat : Int)] = nums (A ++ [b]):=by simp
   rw [e1,e2] at ih
   rw [e3,ih,hh,List.append_assoc];rfl
  unfold impl_normalPercents.l0
  rw [hs,e0,if_pos (by omega),if_pos (by omega),if_pos (by omega),tx_tail]
  by_cases c : b = 37
  ·subst c
   by_cases cs : r.length < 2
   ·rw [perc_short K2 _ (by simp;omega),Option.bind_some]
    dsimp only
    rw [if_neg (by decide),if_pos (room0 _ hn1),w64 (by omega) (by omega)]
    exact plain (npL_short _ _ cs)
   ·obtain ⟨x,y,z,rfl⟩ : ∃ x y z,r = x :: y :: z:=by
     match r,cs with
     | [],cs => exact absurd (by simp) cs
     | [x],cs => exact absurd (by simp) cs
     | x :: y :: z,_ => exact ⟨x,y,z,rfl⟩
    rw [perc_I,Option.bind_some]
    by_cases g : 0 ≤ hv x ∧ 0 ≤ hv y
    ·rw [if_pos g]
     dsimp only
     have e4 : 16 * hv x + hv y = ((ptB x y).toNat : Int):=(ptB_nat x y g.1 g.2).symm
     simp only [List.length_cons] at hl2 hr
     obtain ⟨t,ht⟩ : ∃ t : UInt8,t = ptB x y:=⟨_,rfl⟩
     rw [npL_yes x y z g]
     unfold ptL
     rw [← ht] at e4 ⊢
     clear ht
     rw [if_pos rfl,e4,(host_b t).2.2.2.1,(enc_b t).1,Option.bind_some,Option.bind_some]
     clear e4 g plain
     have w1 : wrap64 (wrap64 ((pre.length : Int) + 2) + 1) = (pre.length : Int) + 2 + 1:=by
      rw [w64 (x:=(pre.length : Int) + 2) (by omega) (by omega),w64 (by omega) (by omega)]
     rw [w1]
     have e1 : pre ++ [37,x,y] ++ z = pre ++ 37 :: x :: y :: z:=by simp
     have e2 : (((pre ++ [37,x,y]).length : Nat) : Int) = (pre.length : Int) + 2 + 1:=by simp;omega
     have ih:=fun A' hA' => np_I n z (pre ++ [37,x,y]) A' (K2 + 1) (by omega) (by simp;omega) hA' (by omega)
     rw [e1,e2] at ih
     cases hf : freeB t with
     | true =>
      have e3 : nums A ++ [(t.toNat : Int)] = nums (A ++ [t]):=by simp
      rw [if_pos rfl,if_pos (room0 _ hn1),e3,ih (A ++ [t]) (grow1 A pre t x y hA),if_pos rfl,List.append_assoc]
     | false =>
      have e3 : nums A ++ bytesOf (tx (enc3 t)) = nums (A ++ enc3 t):=by rw [bytes_tx];simp
      rw [if_neg (show ¬ false = true by decide),if_pos (room _ _ hn1 (len3 t)),e3,ih (A ++ enc3 t) (grow3 A pre t x y hA),if_neg (show ¬ false = true by decide),List.append_assoc]
    ·rw [if_neg g]
     dsimp only
     rw [if_neg (by decide),if_pos (room0 _ hn1),w64 (by omega) (by omega)]
     exact plain (npL_no x y z g)
  ·have hp : impl_percent.f (K2 + 1) (tx (b :: r)) = some (0,false):=by
    by_cases cs : (b :: r).length < 3
    ·exact perc_short K2 _ cs
    ·have e0' : bt (tx (b :: r)) 0 = (b.toNat : Int):=bt_tx (b :: r) 0 (by simp)
     unfold impl_percent.f impl_percent.j0
     dsimp only
     rw [tx_size,if_neg (by omega),e0',if_pos (by simp),if_neg (fun hh => c ((toNat_37 b).mp hh)),if_pos rfl]
   rw [hp,Option.bind_some]
   dsimp only
   rw [if_neg (by decide),if_pos (room0 _ hn1),w64 (by omega) (by omega)]
   exact plain (npL_ne b r c)
theorem one_tx (pre r : List UInt8) (b : UInt8) : (tx (pre ++ b :: r)).extract (pre.length : Int).toNat ((pre.length : Int) + 1).toNat = tx [b]:=by
 rw [tx_cut]
 have : ((pre.length : Int) + 1).toNat - (pre.length : Int).toNat = 1:=by omega
 rw [this,Int.toNat_natCast,List.drop_left];rfl
theorem np_S : ∀ (n : Nat) (M pre A : List UInt8) (K : Nat),M.length ≤ n → (pre ++ M).length ≤ 3000000 → A.length ≤ 3 * pre.length → n + 5 ≤ K → spec_l1Plain.l0 K (tx (pre ++ M)) (tx A) (pre.length : Int) = some (tx (A ++ npL M))
 | n,M,pre,A,0,_,_,_,h => absurd h (by omega)
 | n,[],pre,A,K + 1,_,_,_,_ => by
  unfold spec_l1Plain.l0 npL
  rw [tx_size,List.append_nil,if_neg (Int.lt_irrefl _),List.append_nil]
 | 0,b :: r,pre,A,K + 1,h,_,_,_ => absurd h (by simp)
 | n + 1,b :: r,pre,A,K + 1,h,hl,hA,hK => by
  have hs : ((tx (pre ++ b :: r)).size : Int) = (pre.length : Int) + 1 + (r.length : Int):=by rw [tx_size];simp;omega
  have hl2 : pre.length + (r.length + 1) ≤ 3000000:=by simpa using hl
  have hr : r.length ≤ n:=by simpa using h
  have hA1 : A.length ≤ 9000000:=by omega
  obtain ⟨K2,rfl⟩ : ∃ K2,K = K2 + 3:=⟨K - 3,by omega⟩
  have plain : npL (b :: r) = b :: npL r → (if (pre.length : Int) ≤ (pre.length : Int) + 1 then (if (pre.length : Int) + 1 ≤ (pre.length : Int) + 1 + (r.length : Int) then (if (tx A).size + (tx [b]).size ≤ 9223372036854775807 then spec_l1Plain.l0 (K2 + 3) (tx (pre ++ b :: r)) (tx A ++ tx [b]) ((pre.length : Int) + 1) else none) else none) else none) = some (tx (A ++ npL (b :: r))):=fun hh => by
   have ih:=np_S n r (pre ++ [b]) (A ++ [b]) (K2 + 3) hr (by simp;omega) (by simp;omega) (by omega)
   have e1 : pre ++ [b] ++ r = pre ++ b :: r:=by simp
   have e2 : (((pre ++ [b]).length : Nat) : Int) = (pre.length : Int) + 1:=by simp
   rw [e1,e2] at ih
   rw [if_pos (by omega),if_pos (by omega),tx_size,tx_size,if_pos (by simp;omega),tx_app,ih,hh,List.append_assoc];rfl
  have w1 : wrap64 ((pre.length : Int) + 1) = (pre.length : Int) + 1:=w64 (by omega) (by omega)
  have lost : spec_l1Byte.f (K2 + 3) (tx (pre ++ b :: r)) (pre.length : Int) = some (-1) → npL (b :: r) = b :: npL r → spec_l1Plain.l0 (K2 + 3 + 1) (tx (pre ++ b :: r)) (tx A) (pre.length : Int) = some (tx (A ++ npL (b :: r))):=fun h1 h2 => by
   unfold spec_l1Plain.l0
   rw [hs,if_pos (by omega),h1,Option.bind_some,if_pos (by decide),if_pos (by omega),w1,one_tx]
   exact plain h2
  by_cases c : b = 37 ∧ ¬ r.length < 2
  ·obtain ⟨rfl,cs⟩:=c
   obtain ⟨x,y,z,rfl⟩ : ∃ x y z,r = x :: y :: z:=by
    match r,cs with
    | [],cs => exact absurd (by simp) cs
    | [x],cs => exact absurd (by simp) cs
    | x :: y :: z,_ => exact ⟨x,y,z,rfl⟩
   have hb:=byte_S K2 pre x y z (by omega)
   by_cases g : 0 ≤ hv x ∧ 0 ≤ hv y
   ·rw [if_pos g] at hb
    have e4 : 16 * hv x + hv y = ((ptB x y).toNat : Int):=(ptB_nat x y g.1 g.2).symm
    simp only [List.length_cons] at hl2 hr
    rw [npL_yes x y z g]
    unfold ptL
    rw [e4] at hb
    clear e4 g lost plain
    generalize ptB x y = t at hb ⊢
    have hm : (t.toNat : Int) % 256 = (t.toNat : Int):=by have:=t.toNat_lt;omega
    unfold spec_l1Plain.l0
    rw [hs,if_pos (by omega),hb,Option.bind_some,if_neg (by omega),hm,(host_b t).2.2.2.2,(enc_b t).2.1,Option.bind_some]
    have w3 : wrap64 (wrap64 ((pre.length : Int) + 2) + 1) = (pre.length : Int) + 2 + 1:=by
     rw [w64 (x:=(pre.length : Int) + 2) (by omega) (by omega),w64 (by omega) (by omega)]
    rw [w3]
    have e1 : pre ++ [37,x,y] ++ z = pre ++ 37 :: x :: y :: z:=by simp
    have e2 : (((pre ++ [37,x,y]).length : Nat) : Int) = (pre.length : Int) + 2 + 1:=by simp;omega
    have ih:=fun A' hA' => np_S n z (pre ++ [37,x,y]) A' (K2 + 3) (by omega) (by simp;omega) hA' (by omega)
    rw [e1,e2] at ih
    cases hf : freeB t with
    | true =>
     have e3 : strOfNums [(t.toNat : Int)] = tx [t]:=son_nums [t]
     rw [if_pos rfl,Option.bind_some,e3,tx_size,tx_size,if_pos (room2 _ _ hA1 (len1 t)),tx_app,ih (A ++ [t]) (grow1 A pre t x y hA),if_pos rfl,List.append_assoc]
    | false =>
     rw [if_neg (show ¬ false = true by decide),Option.bind_some,tx_size A,if_pos (room2 _ _ hA1 (len3 t)),tx_app,ih (A ++ enc3 t) (grow3 A pre t x y hA),if_neg (show ¬ false = true by decide),List.append_assoc]
   ·rw [if_neg g] at hb
    exact lost hb (npL_no x y z g)
  ·by_cases c1 : b = 37
   ·have cs : r.length < 2:=Decidable.not_not.mp fun hh => c ⟨c1,hh⟩
    exact lost (byte_short K2 pre r b (by omega) (Or.inl cs)) (npL_short b r cs)
   ·exact lost (byte_short K2 pre r b (by omega) (Or.inr c1)) (npL_ne b r c1)
theorem percents_I (k : Nat) (l : List UInt8) (h : l.length ≤ 3000000) (hk : 3000010 ≤ k) : impl_normalPercents.f k (tx l) = some (tx (npL l)):=np_I l.length l [] [] k (Nat.le_refl _) (by simpa using h) (by simp) (by omega)
theorem percents_S (k : Nat) (l : List UInt8) (h : l.length ≤ 3000000) (hk : 3000010 ≤ k) : spec_l1Plain.f k (tx l) = some (tx (npL l)):=np_S l.length l [] [] k (Nat.le_refl _) (by simpa using h) (by simp) (by omega)
theorem cutS (c : UInt8) (ci : Int) (hc : ci = (c.toNat : Int)) (b : List UInt8) (f : Bool) : ∀ (a pre : List UInt8) (K : Nat),c ∉ a → (pre ++ a).length ≤ 90000000 → b.length ≤ 90000000 → a.length < K → spec_l1Cut.l0 K (tx (pre ++ (a ++ (if f = true then c :: b else [])))) ci (pre.length : Int) = some (tx (pre ++ a),(if f = true then tx b else (⟨#[]⟩ : ByteArray)),f)
 | a,pre,0,_,_,_,h => absurd h (by omega)
 | [],pre,K + 1,ha,hl,hb,hK => by
  unfold spec_l1Cut.l0
  cases f with
  | false =>
   rw [if_neg (show ¬ false = true by decide),if_neg (show ¬ false = true by decide),List.append_nil,List.append_nil,tx_size,if_neg (Int.lt_irrefl _)]
  | true =>
   have hpl : pre.length ≤ 90000000:=by simpa using hl
   rw [if_pos rfl,if_pos rfl,List.nil_append,List.append_nil]
   have hs : ((tx (pre ++ c :: b)).size : Int) = (pre.length : Int) + 1 + (b.length : Int):=by rw [tx_size];simp;omega
   rw [hs,bt_at,if_pos (by omega),if_pos (by omega),if_pos hc.symm,if_pos (by omega),w64 (by omega) (by omega),if_pos (by omega),if_pos (by omega),tx_cut,tx_cut]
   have t1 : ((pre ++ c :: b).drop 0).take ((pre.length : Int).toNat - 0) = pre:=by rw [List.drop_zero,Int.toNat_natCast,Nat.sub_zero,List.take_left]
   have t2 : ((pre ++ c :: b).drop ((pre.length : Int) + 1).toNat).take ((tx (pre ++ c :: b)).size - ((pre.length : Int) + 1).toNat) = b:=by
    have e1 : pre ++ c :: b = (pre ++ [c]) ++ b:=by simp
    have e2 : ((pre.length : Int) + 1).toNat = (pre ++ [c]).length:=by simp
    rw [tx_size,e1,e2,List.drop_left,List.take_of_length_le (by simp;omega)]
   rw [t1,t2]
 | x :: a,pre,K + 1,ha,hl,hb,hK => by
  have hx : x ≠ c:=fun h => ha (h ▸ List.mem_cons_self)
  have hpl : pre.length + (a.length + 1) ≤ 90000000:=by simpa using hl
  have ih:=cutS c ci hc b f a (pre ++ [x]) K (fun h => ha (List.mem_cons_of_mem _ h)) (by simp;omega) hb (by simp at hK;omega)
  have e1 : ∀ z : List UInt8,pre ++ [x] ++ z = pre ++ x :: z:=fun z => by simp
  have e2 : (((pre ++ [x]).length : Nat) : Int) = (pre.length : Int) + 1:=by simp
  rw [e1,e1,e2] at ih
  have hxa : (x :: a) ++ (if f = true then c :: b else []) = x :: (a ++ (if f = true then c :: b else [])):=rfl
  rw [hxa]
  generalize a ++ (if f = true then c :: b else []) = m at ih ⊢
  have hs : ((tx (pre ++ x :: m)).size : Int) = (pre.length : Int) + 1 + (m.length : Int):=by rw [tx_size];simp;omega
  unfold spec_l1Cut.l0
  rw [hs,bt_at,if_pos (by omega),if_pos (by omega),if_neg (fun hh => hx (UInt8.toNat_inj.mp (by omega))),w64 (by omega) (by omega),ih]
theorem cutS_at (c : UInt8) (ci : Int) (hc : ci = (c.toNat : Int)) (a b : List UInt8) (K : Nat) (ha : c ∉ a) (hl : a.length ≤ 90000000) (hb : b.length ≤ 90000000) (hK : a.length < K) : spec_l1Cut.f K (tx (a ++ c :: b)) ci = some (tx a,tx b,true):=by
 have:=cutS c ci hc b true a [] K ha (by simpa using hl) hb hK
 rw [if_pos rfl,if_pos rfl] at this
 exact this
theorem cutS_none (c : UInt8) (ci : Int) (hc : ci = (c.toNat : Int)) (a : List UInt8) (K : Nat) (ha : c ∉ a) (hl : a.length ≤ 90000000) (hK : a.length < K) : spec_l1Cut.f K (tx a) ci = some (tx a,(⟨#[]⟩ : ByteArray),false):=by
 have:=cutS c ci hc [] false a [] K ha (by simpa using hl) (by simp) hK
 rw [if_neg (by decide),if_neg (by decide),List.append_nil] at this
 exact this
def pathOf (S : List (List UInt8)) : List UInt8:=(S.map fun s => 47 :: s).flatten
theorem pathOf_cons (s : List UInt8) (S : List (List UInt8)) : pathOf (s :: S) = 47 :: (s ++ pathOf S):=rfl
theorem pathOf_app (A B : List (List UInt8)) : pathOf (A ++ B) = pathOf A ++ pathOf B:=by simp [pathOf]
theorem pathOf_one (s : List UInt8) : pathOf [s] = 47 :: s:=by simp [pathOf]
def segs : List UInt8 → List (List UInt8)
 | [] => [[]]
 | b :: r => if b = 47 then [] :: segs r else (match segs r with | s :: S => (b :: s) :: S | [] => [[b]])
def NoS (S : List (List UInt8)) : Prop:=∀ s ∈ S,(47 : UInt8) ∉ s
theorem segs_ok : ∀ l : List UInt8,∃ s S,segs l = s :: S ∧ 47 :: l = pathOf (s :: S) ∧ NoS (s :: S)
 | [] => ⟨[],[],rfl,rfl,by intro s hs;rw [List.mem_singleton.mp hs];simp⟩
 | b :: r => by
  obtain ⟨s,S,e,h1,h2⟩:=segs_ok r
  unfold segs
  by_cases c : b = 47
  ·rw [if_pos c,e]
   refine ⟨[],s :: S,rfl,?_,?_⟩
   ·rw [c,h1];rfl
   ·intro x hx
    rcases List.mem_cons.mp hx with hx | hx
    ·rw [hx];simp
    ·exact h2 x hx
  ·rw [if_neg c,e]
   refine ⟨b :: s,S,rfl,?_,?_⟩
   ·rw [pathOf_cons] at h1 ⊢
    have:=List.cons.inj h1
    rw [this.2];rfl
   ·intro x hx
    rcases List.mem_cons.mp hx with hx | hx
    ·rw [hx]
     intro hm
     rcases List.mem_cons.mp hm with hm | hm
     ·exact c hm.symm
     ·exact h2 s List.mem_cons_self hm
    ·exact h2 x (List.mem_cons_of_mem _ hx)
theorem count_path : ∀ (S : List (List UInt8)) (s : List UInt8),NoS (s :: S) → Lib.countB (tx (s ++ pathOf S)) (tx [47]) = S.length
 | [],s,h => by
  have e : s ++ pathOf [] = s:=by simp [pathOf]
  rw [e]
  exact Lib.countB_miss _ _ (index_none 47 s (h s List.mem_cons_self))
 | t :: T,s,h => by
  have hs : (47 : UInt8) ∉ s:=h s List.mem_cons_self
  have hi : Lib.indexB (tx (s ++ pathOf (t :: T))) (tx [47]) = (s.length : Int):=by rw [pathOf_cons];exact index_at 47 (t ++ pathOf T) s hs
  have ih:=count_path T t (fun x hx => h x (List.mem_cons_of_mem _ hx))
  rw [Lib.countB_hit _ _ s.length (by decide) hi]
  have e : (tx (s ++ pathOf (t :: T))).extract (s.length + (tx [47]).size) (tx (s ++ pathOf (t :: T))).size = tx (t ++ pathOf T):=by
   rw [tx_cut,tx_size,tx_size,pathOf_cons]
   have e1 : s ++ 47 :: (t ++ pathOf T) = (s ++ [47]) ++ (t ++ pathOf T):=by simp
   have e2 : s.length + [(47 : UInt8)].length = (s ++ [47]).length:=by simp
   rw [e1,e2,List.drop_left,List.take_of_length_le (by simp;omega)]
  rw [e,ih,List.length_cons];omega
theorem split_path : ∀ (S : List (List UInt8)) (s : List UInt8),NoS (s :: S) → Lib.splitB (tx [47]) 0 S.length (tx (s ++ pathOf S)) = (s :: S).map tx
 | [],s,h => by
  have e : s ++ pathOf [] = s:=by simp [pathOf]
  rw [e];rfl
 | t :: T,s,h => by
  have hs : (47 : UInt8) ∉ s:=h s List.mem_cons_self
  have hi : Lib.indexB (tx (s ++ pathOf (t :: T))) (tx [47]) = (s.length : Int):=by rw [pathOf_cons];exact index_at 47 (t ++ pathOf T) s hs
  have ih:=split_path T t (fun x hx => h x (List.mem_cons_of_mem _ hx))
  rw [List.length_cons,Lib.splitB_hit _ _ _ _ s.length hi]
  have e : (tx (s ++ pathOf (t :: T))).extract (s.length + (tx [47]).size) (tx (s ++ pathOf (t :: T))).size = tx (t ++ pathOf T):=by
   rw [tx_cut,tx_size,tx_size,pathOf_cons]
   have e1 : s ++ 47 :: (t ++ pathOf T) = (s ++ [47]) ++ (t ++ pathOf T):=by simp
   have e2 : s.length + [(47 : UInt8)].length = (s ++ [47]).length:=by simp
   rw [e1,e2,List.drop_left,List.take_of_length_le (by simp;omega)]
  have e0 : (tx (s ++ pathOf (t :: T))).extract 0 (s.length + 0) = tx s:=by
   rw [tx_cut,List.drop_zero,Nat.add_zero,Nat.sub_zero,List.take_left]
  rw [e,ih,e0];rfl
theorem splitS (s : List UInt8) (S : List (List UInt8)) (h : NoS (s :: S)) (hl : (s ++ pathOf S).length ≤ 90000000) : strings_Split.f (tx (s ++ pathOf S)) (⟨#[47]⟩ : ByteArray) = some ((s :: S).map tx):=by
 have e : (⟨#[47]⟩ : ByteArray) = tx [47]:=rfl
 unfold strings_Split.f
 rw [e,tx_size,tx_size,if_pos (by omega),if_pos (by decide),count_path S s h,split_path S s h]
theorem join_path : ∀ (S : List (List UInt8)) (s : List UInt8),47 :: Lib.join (s :: S) [47] = pathOf (s :: S)
 | [],s => by rw [Lib.join_one,pathOf_one]
 | t :: T,s => by
  have ih:=join_path T t
  have e : Lib.join (s :: t :: T) [47] = s ++ ([47] ++ Lib.join (t :: T) [47]):=by
   simp [Lib.join,List.intercalate,List.intersperse]
  rw [e,pathOf_cons,← ih];rfl
theorem path_len : ∀ (S : List (List UInt8)),S.length ≤ (pathOf S).length
 | [] => by simp
 | s :: S => by have:=path_len S;rw [pathOf_cons];simp;omega
theorem joinS (s : List UInt8) (S : List (List UInt8)) (hl : (pathOf (s :: S)).length ≤ 90000000) : strings_Join.f ((s :: S).map tx) (⟨#[47]⟩ : ByteArray) = some (tx (Lib.join (s :: S) [47])):=by
 have hp:=path_len (s :: S)
 have hj:=join_path S s
 have hjl : (Lib.join (s :: S) [47]).length < 1000000000:=by
  have : (47 :: Lib.join (s :: S) [47]).length = (pathOf (s :: S)).length:=by rw [hj]
  rw [List.length_cons] at this;omega
 have em : (((s :: S).map tx).map (·.data.toList)) = s :: S:=by
  rw [List.map_map]
  exact (List.map_congr_left (g:=id) (fun b _ => rfl)).trans (List.map_id _)
 unfold strings_Join.f
 rw [em,if_pos (by rw [List.length_map];omega)]
 show (if (Lib.join (s :: S) [47]).length < 1000000000 then some (tx (Lib.join (s :: S) [47])) else none) = _
 rw [if_pos hjl]
def isDots (s : List UInt8) : Bool:=s == [46] || s == [46,46]
def popD (s : List UInt8) (O : List (List UInt8)) : List (List UInt8):=if s = [46,46] then O.dropLast else O
def dotL : List (List UInt8) → List (List UInt8) → List (List UInt8)
 | O,[] => O
 | O,s :: T => if isDots s = true then dotL (if T = [] then popD s O ++ [[]] else popD s O) T else dotL (O ++ [s]) T
theorem rdOf_map (X : List (List UInt8)) (i : Nat) (h : i < X.length) : rdOf ByteArray.empty (X.map tx) (i : Int) = tx X[i]:=by
 unfold rdOf
 rw [List.getD_eq_getElem?_getD,Int.toNat_natCast,List.getElem?_eq_getElem (by rw [List.length_map];exact h),List.getElem_map];rfl
theorem rdOf_mid (pre : List (List UInt8)) (s : List UInt8) (T : List (List UInt8)) : rdOf ByteArray.empty ((pre ++ s :: T).map tx) (pre.length : Int) = tx s:=by
 rw [rdOf_map _ pre.length (by simp)]
 simp
theorem isDots_cases (s : List UInt8) : (isDots s = true ∧ s = [46]) ∨ (isDots s = true ∧ s = [46,46] ∧ s ≠ [46]) ∨ (isDots s = false ∧ s ≠ [46] ∧ s ≠ [46,46]):=by
 unfold isDots
 by_cases c : s = [46]
 ·left;subst c;exact ⟨rfl,rfl⟩
 ·by_cases c2 : s = [46,46]
  ·right;left;subst c2;exact ⟨rfl,rfl,by decide⟩
  ·right;right
   rw [beq_eq_false_iff_ne.mpr c,beq_eq_false_iff_ne.mpr c2]
   exact ⟨rfl,c,c2⟩
theorem take_last (O : List (List UInt8)) (h : 0 < O.length) : (O.map tx).take (((O.map tx).length : Int) - 1).toNat = O.dropLast.map tx:=by
 rw [List.dropLast_eq_take,List.map_take,List.length_map]
 congr 1
 omega
theorem dots_I (X : List (List UInt8)) (hX : X.length ≤ 90000000) : ∀ (T pre : List (List UInt8)) (O : List (List UInt8)) (K : Nat) (R : List (List UInt8)),X = pre ++ T → O.length ≤ pre.length → 3 * T.length + 3 ≤ K → R = dotL O T → R ≠ [] → (pathOf R).length ≤ 90000000 →
  impl_dropDots.l0 K (O.map tx) (X.map tx) (X.map tx) (X.length : Int) (pre.length : Int) = some (tx (pathOf R))
 | T,pre,O,0,R,_,_,h,_,_,_ => absurd h (by omega)
 | [],pre,O,K + 1,R,hx,hO,hK,hR,hn,hl => by
  unfold impl_dropDots.l0
  have hpl : X.length = pre.length:=by rw [hx];simp
  have hR2 : R = O:=by rw [hR];unfold dotL;rfl
  subst hR2
  obtain ⟨s,S,rfl⟩ : ∃ s S,R = s :: S:=by
   cases R with
   | nil => exact absurd rfl hn
   | cons s S => exact ⟨s,S,rfl⟩
  have hj:=join_path S s
  have hjl : 1 + (Lib.join (s :: S) [47]).length ≤ 90000000:=by
   have : (47 :: Lib.join (s :: S) [47]).length = (pathOf (s :: S)).length:=by rw [hj]
   rw [List.length_cons] at this;omega
  have e47 : (⟨#[47]⟩ : ByteArray) ++ tx (Lib.join (s :: S) [47]) = tx (pathOf (s :: S)):=by rw [← hj];exact tx_app [47] _
  rw [if_neg (by omega),joinS s S hl,Option.bind_some,tx_size,if_pos (by omega),e47]
 | s :: T,pre,O,K + 1,R,hx,hO,hK,hR,hn,hl => by
  have hXl : X.length = pre.length + (T.length + 1):=by rw [hx];simp
  have hpl2 : ((pre ++ [s]).length : Int) = (pre.length : Int) + 1:=by simp
  obtain ⟨K2,rfl⟩ : ∃ K2,K = K2 + 2:=⟨K - 2,by simp at hK;omega⟩
  have hK3 : 3 * T.length + 3 ≤ K2:=by rw [List.length_cons] at hK;omega
  have hxs : X = (pre ++ [s]) ++ T:=by rw [hx];simp
  have ih:=fun (O' : List (List UInt8)) (K' : Nat) (h1 : O'.length ≤ pre.length + 1) (h2 : 3 * T.length + 3 ≤ K') (h3 : R = dotL O' T) => dots_I X hX T (pre ++ [s]) O' K' R hxs (by rw [List.length_append];exact h1) h2 h3 hn hl
  simp only [hpl2] at ih
  have hw : wrap64 ((pre.length : Int) + 1) = (pre.length : Int) + 1:=w64 (by omega) (by omega)
  have hrd : rdOf ByteArray.empty (X.map tx) (pre.length : Int) = tx s:=by rw [hx];exact rdOf_mid pre s T
  have hla : (((X.map tx).length : Nat) : Int) = (X.length : Int):=by rw [List.length_map]
  have hlast : ((pre.length : Int) == wrap64 ((X.length : Int) - 1)) = decide (T = []):=by
   rw [w64 (by omega) (by omega)]
   cases T with
   | nil => rw [decide_eq_true rfl];exact beq_iff_eq.mpr (by simp at hXl;omega)
   | cons a b => rw [decide_eq_false (by simp)];exact beq_eq_false_iff_ne.mpr (by simp at hXl;omega)
  have hmO : (O.map tx).length = O.length:=List.length_map _
  unfold impl_dropDots.l0
  rw [hrd,hla,hlast,if_pos (by omega),if_pos (by omega),if_pos (by omega),tx_toList]
  have fin : ∀ O' : List (List UInt8),O'.length ≤ pre.length → R = dotL (if T = [] then O' ++ [[]] else O') T →
    (if decide (T = []) = true then (if (O'.map tx).length < 8796093022208 then impl_dropDots.l0 K2 (O'.map tx ++ [(⟨#[]⟩ : ByteArray)]) (X.map tx) (X.map tx) (X.length : Int) (wrap64 ((pre.length : Int) + 1)) else none) else impl_dropDots.l0 K2 (O'.map tx) (X.map tx) (X.map tx) (X.length : Int) (wrap64 ((pre.length : Int) + 1))) = some (tx (pathOf R)):=fun O' h1 h3 => by
   by_cases c : T = []
   ·have e : O'.map tx ++ [(⟨#[]⟩ : ByteArray)] = (O' ++ [[]]).map tx:=by simp
    rw [if_pos c] at h3
    rw [if_pos (decide_eq_true c),if_pos (by rw [List.length_map];omega),hw,e]
    exact ih (O' ++ [[]]) K2 (by simp;omega) hK3 h3
   ·rw [if_neg c] at h3
    rw [if_neg (fun hh => c (of_decide_eq_true hh)),hw]
    exact ih O' K2 (by omega) hK3 h3
  have J2f : R = dotL (if T = [] then O ++ [[]] else O) T → impl_dropDots.j2 (K2 + 1) (O.map tx) (X.map tx) (decide (T = [])) (X.map tx) (X.length : Int) (pre.length : Int) false = some (tx (pathOf R)):=fun h3 => by
   unfold impl_dropDots.j2
   rw [if_neg (by decide)]
   exact fin O hO h3
  have J2t : 0 < O.length → R = dotL (if T = [] then O.dropLast ++ [[]] else O.dropLast) T → impl_dropDots.j2 (K2 + 1) (O.map tx) (X.map tx) (decide (T = [])) (X.map tx) (X.length : Int) (pre.length : Int) true = some (tx (pathOf R)):=fun hp h3 => by
   have hd : O.dropLast.length ≤ pre.length:=by rw [List.length_dropLast];omega
   unfold impl_dropDots.j2
   have hwl : wrap64 (((O.map tx).length : Int) - 1) = ((O.map tx).length : Int) - 1:=by rw [hmO];exact w64 (by omega) (by omega)
   rw [if_pos rfl,hwl,if_pos (by rw [hmO];omega),if_pos (by omega),take_last O hp,Option.bind_some]
   exact fin O.dropLast hd h3
  have hR' : R = (if isDots s = true then dotL (if T = [] then popD s O ++ [[]] else popD s O) T else dotL (O ++ [s]) T):=by rw [hR];conv => lhs;unfold dotL
  rcases isDots_cases s with ⟨g1,rfl⟩ | ⟨g1,rfl,g2⟩ | ⟨g1,g2,g3⟩
  ·rw [g1,if_pos rfl] at hR'
   rw [if_pos rfl]
   unfold impl_dropDots.j1
   rw [if_pos (by rfl),tx_toList,if_neg (by decide)]
   exact J2f hR'
  ·rw [g1,if_pos rfl] at hR'
   rw [if_neg g2]
   unfold impl_dropDots.j1
   rw [if_pos (by rfl),tx_toList,if_pos rfl,hmO]
   cases O with
   | nil => exact J2f hR'
   | cons o O2 =>
    rw [decide_eq_true (show ((((o :: O2).length : Nat) : Int) > 0) by rw [List.length_cons];omega)]
    exact J2t (by simp) hR'
  ·rw [g1,if_neg (by decide)] at hR'
   rw [if_neg g2]
   unfold impl_dropDots.j1
   have e : O.map tx ++ [tx s] = (O ++ [s]).map tx:=by simp
   rw [beq_eq_false_iff_ne.mpr g3,if_neg (by decide),hmO,if_pos (by omega),hw,e]
   exact ih (O ++ [s]) (K2 + 1) (by simp;omega) (by omega) hR'
theorem dots_l1 (X : List (List UInt8)) (last : List UInt8) (hX : (pathOf X).length ≤ 90000000) : ∀ (T pre : List (List UInt8)) (K : Nat),X = pre ++ T → T.length < K → spec_l1Dots.l1 K (tx last) (tx (pathOf pre)) (X.map tx) (X.length : Int) (pre.length : Int) = some (tx (if pathOf X = [] ∨ isDots last = true then pathOf X ++ [47] else pathOf X))
 | T,pre,0,_,h => absurd h (by omega)
 | [],pre,K + 1,hx,hK => by
  have hx2 : X = pre:=by rw [hx];simp
  subst hx2
  have e47 : (⟨#[47]⟩ : ByteArray) = tx [47]:=rfl
  unfold spec_l1Dots.l1
  rw [if_neg (Int.lt_irrefl _),tx_toList,tx_size,e47,tx_app,tx_toList]
  have hr : (pathOf X).length + 1 ≤ 9223372036854775807:=by omega
  by_cases c : pathOf X = []
  ·rw [if_pos c,if_pos hr,if_pos (Or.inl c)]
  ·rw [if_neg c]
   rcases isDots_cases last with ⟨g1,g2⟩ | ⟨g1,g2,g3⟩ | ⟨g1,g2,g3⟩
   ·rw [if_pos g2,if_pos hr,if_pos (Or.inr g1)]
   ·rw [if_neg g3,if_pos g2,if_pos hr,if_pos (Or.inr g1)]
   ·rw [if_neg g2,if_neg g3,if_neg (fun h => h.elim c (fun hh => by rw [g1] at hh;cases hh))]
 | s :: T,pre,K + 1,hx,hK => by
  have hXl : X.length = pre.length + (T.length + 1):=by rw [hx];simp
  have hpl:=path_len X
  have hrd : rdOf ByteArray.empty (X.map tx) (pre.length : Int) = tx s:=by rw [hx];exact rdOf_mid pre s T
  have hla : (((X.map tx).length : Nat) : Int) = (X.length : Int):=by rw [List.length_map]
  have ih:=dots_l1 X last hX T (pre ++ [s]) K (by rw [hx];simp) (by simp at hK;omega)
  have e2 : (((pre ++ [s]).length : Nat) : Int) = (pre.length : Int) + 1:=by simp
  have e47 : (⟨#[47]⟩ : ByteArray) = tx [47]:=rfl
  have hsz : (pathOf X).length = (pathOf pre).length + (1 + s.length) + (pathOf T).length:=by
   rw [hx,pathOf_app,pathOf_cons];simp;omega
  have e3 : pathOf pre ++ ([47] ++ s) = pathOf (pre ++ [s]):=by rw [pathOf_app,pathOf_one];rfl
  rw [e2] at ih
  unfold spec_l1Dots.l1
  rw [hrd,hla,if_pos (by omega),if_pos (by omega),if_pos (by omega),e47,tx_app,tx_app,tx_size,tx_size,tx_size,if_pos (by omega),if_pos (by rw [List.length_append];show (pathOf pre).length + (1 + s.length) ≤ _;omega),w64 (by omega) (by omega),e3]
  exact ih
def dotK : List (List UInt8) → List (List UInt8) → List (List UInt8)
 | O,[] => O
 | O,s :: T => if isDots s = true then dotK (popD s O) T else dotK (O ++ [s]) T
def lastD : List UInt8 → List (List UInt8) → List UInt8
 | s,[] => s
 | _,t :: T => lastD t T
theorem dotK_end : ∀ (T : List (List UInt8)) (s : List UInt8) (O : List (List UInt8)),pathOf (dotL O (s :: T)) = (if pathOf (dotK O (s :: T)) = [] ∨ isDots (lastD s T) = true then pathOf (dotK O (s :: T)) ++ [47] else pathOf (dotK O (s :: T)))
 | [],s,O => by
  have hL : dotL O [s] = (if isDots s = true then dotL (if ([] : List (List UInt8)) = [] then popD s O ++ [[]] else popD s O) [] else dotL (O ++ [s]) []):=rfl
  have hK : dotK O [s] = (if isDots s = true then dotK (popD s O) [] else dotK (O ++ [s]) []):=rfl
  have hl : lastD s [] = s:=rfl
  rw [hL,hK,hl]
  by_cases hd : isDots s = true
  ·rw [if_pos hd,if_pos hd,if_pos rfl,if_pos (Or.inr hd)]
   show pathOf (popD s O ++ [[]]) = pathOf (popD s O) ++ [47]
   rw [pathOf_app,pathOf_one]
  ·rw [if_neg hd,if_neg hd]
   show pathOf (O ++ [s]) = (if pathOf (O ++ [s]) = [] ∨ isDots s = true then _ else pathOf (O ++ [s]))
   rw [if_neg (fun h => h.elim (fun hh => by rw [pathOf_app,pathOf_one] at hh;simp at hh) hd)]
 | t :: T,s,O => by
  have hL : dotL O (s :: t :: T) = (if isDots s = true then dotL (if (t :: T) = [] then popD s O ++ [[]] else popD s O) (t :: T) else dotL (O ++ [s]) (t :: T)):=rfl
  have hK : dotK O (s :: t :: T) = (if isDots s = true then dotK (popD s O) (t :: T) else dotK (O ++ [s]) (t :: T)):=rfl
  have hl : lastD s (t :: T) = lastD t T:=rfl
  have hne : ¬ (t :: T = []):=by simp
  rw [if_neg hne] at hL
  rw [hL,hK,hl]
  by_cases hd : isDots s = true
  ·rw [if_pos hd,if_pos hd];exact dotK_end T t _
  ·rw [if_neg hd,if_neg hd];exact dotK_end T t _
theorem path_pop (s : List UInt8) (O : List (List UInt8)) : (pathOf (popD s O)).length ≤ (pathOf O).length:=by
 unfold popD
 split
 ·rcases List.eq_nil_or_concat O with h | ⟨L,b,h⟩
  ·subst h;simp
  ·rw [List.concat_eq_append] at h
   rw [h,List.dropLast_concat,pathOf_app];simp
 ·exact Nat.le_refl _
def moreB (T : List (List UInt8)) : Bool:=!T.isEmpty
def restT : List (List UInt8) → ByteArray
 | [] => ⟨#[]⟩
 | s :: T => tx (s ++ pathOf T)
theorem dots_S : ∀ (T : List (List UInt8)) (s : List UInt8) (O : List (List UInt8)) (K : Nat) (N : Nat),NoS (s :: T) → (pathOf O).length + (pathOf (s :: T)).length ≤ N → N ≤ 5000000 → 2 * N + T.length + 10 ≤ K →
  spec_l1Dots.l0 K (O.map tx) (tx (s ++ pathOf T)) = some (tx (if pathOf (dotK O (s :: T)) = [] ∨ isDots (lastD s T) = true then pathOf (dotK O (s :: T)) ++ [47] else pathOf (dotK O (s :: T))))
 | T,s,O,0,N,_,_,_,h => absurd h (by omega)
 | T,s,O,K + 1,N,hno,hN,hN2,hK => by
  have hs : (47 : UInt8) ∉ s:=hno s List.mem_cons_self
  have hpc : (pathOf (s :: T)).length = 1 + s.length + (pathOf T).length:=by rw [pathOf_cons];simp;omega
  have hOl:=path_len O
  have hmO : (O.map tx).length = O.length:=List.length_map _
  have keyM : ∀ (O' : List (List UInt8)),(pathOf O').length ≤ (pathOf O).length + 1 + s.length → dotK O (s :: T) = dotK O' T →
    (if moreB T = true then spec_l1Dots.l0 K (O'.map tx) (restT T) else spec_l1Dots.j1 K (O'.map tx) (tx s)) = some (tx (if pathOf (dotK O (s :: T)) = [] ∨ isDots (lastD s T) = true then pathOf (dotK O (s :: T)) ++ [47] else pathOf (dotK O (s :: T)))):=fun O' h1 h2 => by
   have hO'l:=path_len O'
   cases T with
   | nil =>
    rw [if_neg (show ¬ moreB [] = true by decide),h2]
    obtain ⟨K2,rfl⟩ : ∃ K2,K = K2 + 1:=⟨K - 1,by omega⟩
    have hm : (((O'.map tx).length : Nat) : Int) = (O'.length : Int):=by rw [List.length_map]
    have e0 : (⟨#[]⟩ : ByteArray) = tx (pathOf []):=rfl
    unfold spec_l1Dots.j1
    dsimp only
    rw [e0,hm]
    exact dots_l1 O' s (by omega) O' [] K2 rfl (by omega)
   | cons t T2 =>
    rw [if_pos (show moreB (t :: T2) = true from rfl),h2]
    have hno2 : NoS (t :: T2):=fun x hx => hno x (List.mem_cons_of_mem _ hx)
    exact dots_S T2 t O' K N hno2 (by omega) hN2 (by rw [List.length_cons] at hK;omega)
  have hcut : spec_l1Cut.f K (tx (s ++ pathOf T)) 47 = some (tx s,restT T,moreB T):=by
   cases T with
   | nil =>
    have e : s ++ pathOf [] = s:=by simp [pathOf]
    rw [e]
    exact cutS_none 47 47 rfl s K hs (by omega) (by omega)
   | cons t T2 =>
    have hp2 : (pathOf (t :: T2)).length = 1 + (t ++ pathOf T2).length:=by rw [pathOf_cons];simp;omega
    rw [pathOf_cons]
    exact cutS_at 47 47 rfl s (t ++ pathOf T2) K hs (by omega) (by omega) (by omega)
  unfold spec_l1Dots.l0
  rw [hcut,Option.bind_some]
  dsimp only
  rw [tx_toList]
  rcases isDots_cases s with ⟨g1,g2⟩ | ⟨g1,g2,g3⟩ | ⟨g1,g2,g3⟩
  ·rw [if_pos g2]
   have e : popD s O = O:=by unfold popD;rw [if_neg (by rw [g2];decide)]
   exact keyM O (by omega) (by show (if isDots s = true then dotK (popD s O) T else _) = _;rw [g1,if_pos rfl,e])
  ·rw [if_neg g3,if_pos g2,hmO]
   have e : popD s O = O.dropLast:=by unfold popD;rw [if_pos g2]
   have hp:=path_pop s O
   rw [e] at hp
   have hk : dotK O (s :: T) = dotK O.dropLast T:=by show (if isDots s = true then dotK (popD s O) T else _) = _;rw [g1,if_pos rfl,e]
   by_cases c : 0 < O.length
   ·have hwl : wrap64 ((O.length : Int) - 1) = (O.length : Int) - 1:=w64 (by omega) (by omega)
    have htl:=take_last O c
    rw [hmO] at htl
    rw [if_pos (by omega),hwl,if_pos (by omega),if_pos (by omega),htl,Option.bind_some]
    exact keyM O.dropLast (by omega) hk
   ·rw [if_neg (by omega)]
    have : O = []:=List.eq_nil_of_length_eq_zero (by omega)
    subst this
    exact keyM [] (by omega) hk
  ·rw [if_neg g2,if_neg g3,hmO,if_pos (by omega),Option.bind_some]
   have e : O.map tx ++ [tx s] = (O ++ [s]).map tx:=by simp
   rw [e]
   exact keyM (O ++ [s]) (by rw [pathOf_app,pathOf_one];simp;omega) (by show (if isDots s = true then _ else dotK (O ++ [s]) T) = _;rw [g1,if_neg (by decide)])
theorem dotL_ne : ∀ (T O : List (List UInt8)),(O ≠ [] ∨ T ≠ []) → dotL O T ≠ []
 | [],O,h => by unfold dotL;exact h.elim id (fun hh => absurd rfl hh)
 | s :: T,O,_ => by
  unfold dotL
  by_cases hd : isDots s = true
  ·rw [if_pos hd]
   by_cases hT : T = []
   ·rw [if_pos hT];exact dotL_ne T _ (Or.inl (by simp))
   ·rw [if_neg hT];exact dotL_ne T _ (Or.inr hT)
  ·rw [if_neg hd];exact dotL_ne T _ (Or.inl (by simp))
theorem pop_mem (s x : List UInt8) (O : List (List UInt8)) (h : x ∈ popD s O) : x ∈ O:=by
 unfold popD at h
 split at h
 ·exact List.dropLast_subset O h
 ·exact h
theorem dotL_mem : ∀ (T O : List (List UInt8)) (x : List UInt8),x ∈ dotL O T → x ∈ O ∨ (x ∈ T ∧ isDots x = false) ∨ x = []
 | [],O,x,h => Or.inl h
 | s :: T,O,x,h => by
  unfold dotL at h
  by_cases hd : isDots s = true
  ·rw [if_pos hd] at h
   rcases dotL_mem T _ x h with h1 | h1 | h1
   ·by_cases hT : T = []
    ·rw [if_pos hT] at h1
     rcases List.mem_append.mp h1 with h2 | h2
     ·exact Or.inl (pop_mem s x O h2)
     ·exact Or.inr (Or.inr (List.mem_singleton.mp h2))
    ·rw [if_neg hT] at h1;exact Or.inl (pop_mem s x O h1)
   ·exact Or.inr (Or.inl ⟨List.mem_cons_of_mem _ h1.1,h1.2⟩)
   ·exact Or.inr (Or.inr h1)
  ·rw [if_neg hd] at h
   rcases dotL_mem T _ x h with h1 | h1 | h1
   ·rcases List.mem_append.mp h1 with h2 | h2
    ·exact Or.inl h2
    ·rw [List.mem_singleton.mp h2];exact Or.inr (Or.inl ⟨List.mem_cons_self,Bool.eq_false_iff.mpr hd⟩)
   ·exact Or.inr (Or.inl ⟨List.mem_cons_of_mem _ h1.1,h1.2⟩)
   ·exact Or.inr (Or.inr h1)
theorem dotL_id : ∀ (T O : List (List UInt8)),(∀ s ∈ T,isDots s = false) → dotL O T = O ++ T
 | [],O,_ => by unfold dotL;rw [List.append_nil]
 | s :: T,O,h => by
  unfold dotL
  rw [h s List.mem_cons_self,if_neg (by decide),dotL_id T _ (fun x hx => h x (List.mem_cons_of_mem _ hx)),List.append_assoc];rfl
theorem dotL_len : ∀ (T O : List (List UInt8)),(pathOf (dotL O T)).length ≤ (pathOf O).length + (pathOf T).length
 | [],O => by simp [dotL]
 | s :: T,O => by
  have hp:=path_pop s O
  have hc : (pathOf (s :: T)).length = 1 + s.length + (pathOf T).length:=by rw [pathOf_cons];simp;omega
  unfold dotL
  by_cases hd : isDots s = true
  ·rw [if_pos hd]
   by_cases hT : T = []
   ·have:=dotL_len T (popD s O ++ [[]])
    rw [pathOf_app,pathOf_one,List.length_append] at this
    rw [if_pos hT]
    have : ([47] : List UInt8).length = 1:=rfl
    omega
   ·rw [if_neg hT]
    have:=dotL_len T (popD s O)
    omega
  ·rw [if_neg hd]
   have:=dotL_len T (O ++ [s])
   rw [pathOf_app,pathOf_one,List.length_append,List.length_cons] at this
   omega
theorem segs_path : ∀ (S : List (List UInt8)) (s : List UInt8),NoS (s :: S) → segs (s ++ pathOf S) = s :: S
 | [],s,h => by
  have e : s ++ pathOf [] = s:=by simp [pathOf]
  rw [e]
  have hs:=h s List.mem_cons_self
  clear h e
  induction s with
  | nil => rfl
  | cons b r ih =>
   have hb : b ≠ 47:=fun hh => hs (hh ▸ List.mem_cons_self)
   unfold segs
   rw [if_neg hb,ih (fun hh => hs (List.mem_cons_of_mem _ hh))]
 | t :: T,s,h => by
  have hs:=h s List.mem_cons_self
  have ih:=segs_path T t (fun x hx => h x (List.mem_cons_of_mem _ hx))
  rw [pathOf_cons]
  clear h
  induction s with
  | nil =>
   show segs (47 :: (t ++ pathOf T)) = _
   unfold segs
   rw [if_pos rfl,ih]
  | cons b r ih2 =>
   have hb : b ≠ 47:=fun hh => hs (hh ▸ List.mem_cons_self)
   show segs (b :: (r ++ 47 :: (t ++ pathOf T))) = _
   unfold segs
   rw [if_neg hb,ih2 (fun hh => hs (List.mem_cons_of_mem _ hh))]
def dropL (l : List UInt8) : List UInt8:=pathOf (dotL [] (segs l))
theorem dropL_form (l : List UInt8) : ∃ o O,dotL [] (segs l) = o :: O ∧ NoS (o :: O) ∧ (∀ s ∈ o :: O,isDots s = false):=by
 obtain ⟨s,S,e,h1,h2⟩:=segs_ok l
 have hne : dotL [] (segs l) ≠ []:=dotL_ne _ _ (Or.inr (by rw [e];simp))
 obtain ⟨o,O,ho⟩ : ∃ o O,dotL [] (segs l) = o :: O:=by
  cases hx : dotL [] (segs l) with
  | nil => exact absurd hx hne
  | cons o O => exact ⟨o,O,rfl⟩
 refine ⟨o,O,ho,fun x hx => ?_,fun x hx => ?_⟩
 ·rw [← ho] at hx
  rcases dotL_mem _ _ x hx with h | h | h
  ·cases h
  ·rw [e] at h;exact h2 x h.1
  ·rw [h];simp
 ·rw [← ho] at hx
  rcases dotL_mem _ _ x hx with h | h | h
  ·cases h
  ·exact h.2
  ·rw [h];rfl
theorem dropL_len (l : List UInt8) : (dropL l).length ≤ l.length + 1:=by
 obtain ⟨s,S,e,h1,h2⟩:=segs_ok l
 have:=dotL_len (segs l) []
 unfold dropL
 rw [e] at this ⊢
 rw [← h1] at this
 have e0 : (pathOf []).length = 0:=rfl
 rw [e0,List.length_cons] at this
 omega
theorem drop_I (l : List UInt8) (hl : l.length ≤ 3000000) (k : Nat) (hk : 20000000 ≤ k) : impl_dropDots.f k (tx (47 :: l)) = some (tx (dropL l)):=by
 obtain ⟨s,S,e,h1,h2⟩:=segs_ok l
 have hle : l = s ++ pathOf S:=by rw [pathOf_cons] at h1;exact (List.cons.inj h1).2
 have hSl:=path_len S
 have hll : l.length = s.length + (pathOf S).length:=by rw [hle];simp
 have hR:=dropL_len l
 have hne : dotL [] (segs l) ≠ []:=dotL_ne _ _ (Or.inr (by rw [e];simp))
 have hx : (tx (47 :: l)).extract 1 (tx (47 :: l)).size = tx l:=by
  rw [tx_cut,tx_size]
  show tx (l.take ((47 :: l).length - 1)) = _
  rw [List.take_of_length_le (by simp)]
 have hsp : strings_Split.f (tx l) (⟨#[47]⟩ : ByteArray) = some ((s :: S).map tx):=by
  rw [hle];exact splitS s S h2 (by rw [← hle];omega)
 have hd:=dots_I (s :: S) (by rw [List.length_cons];omega) (s :: S) [] [] k (dotL [] (segs l)) rfl (Nat.le_refl _) (by rw [List.length_cons];omega) (by rw [e]) hne (by unfold dropL at hR;omega)
 unfold impl_dropDots.f
 rw [tx_size,if_pos (by rw [List.length_cons];omega)]
 have hx2 : (tx (47 :: l)).extract 1 (47 :: l).length = tx l:=by rw [← tx_size (47 :: l)];exact hx
 first | rw [hx,hsp,Option.bind_some] | rw [hx2,hsp,Option.bind_some]
 have hm : ((((s :: S).map tx).length : Nat) : Int) = (((s :: S).length : Nat) : Int):=by rw [List.length_map]
 rw [hm]
 exact hd
theorem drop_S (l : List UInt8) (hl : l.length ≤ 3000000) (k : Nat) (hk : 20000000 ≤ k) : spec_l1Dots.f k (tx (47 :: l)) = some (tx (dropL l)):=by
 obtain ⟨s,S,e,h1,h2⟩:=segs_ok l
 have hle : l = s ++ pathOf S:=by rw [pathOf_cons] at h1;exact (List.cons.inj h1).2
 have hSl:=path_len S
 have hll : l.length = s.length + (pathOf S).length:=by rw [hle];simp
 have hx : (tx (47 :: l)).extract 1 (tx (47 :: l)).size = tx l:=by
  rw [tx_cut,tx_size]
  show tx (l.take ((47 :: l).length - 1)) = _
  rw [List.take_of_length_le (by simp)]
 have hp : (pathOf (s :: S)).length = l.length + 1:=by rw [← h1];rfl
 have hd:=dots_S S s [] k (l.length + 1) h2 (by rw [hp];show 0 + _ ≤ _;omega) (by omega) (by omega)
 rw [← dotK_end,← hle,← e] at hd
 unfold spec_l1Dots.f
 rw [tx_size,if_pos (by rw [List.length_cons];omega)]
 have hx2 : (tx (47 :: l)).extract 1 (47 :: l).length = tx l:=by rw [← tx_size (47 :: l)];exact hx
 first | rw [hx] | rw [hx2]
 exact hd
theorem drop_twice (l : List UInt8) : ∃ m,dropL l = 47 :: m ∧ dropL m = 47 :: m:=by
 obtain ⟨o,O,e,h1,h2⟩:=dropL_form l
 refine ⟨o ++ pathOf O,by unfold dropL;rw [e,pathOf_cons],?_⟩
 unfold dropL
 rw [segs_path O o h1,dotL_id _ _ h2,List.nil_append,pathOf_cons]
theorem pch_tok (o : List UInt8) (x y : UInt8) (z : List UInt8) : pch o (37 :: x :: y :: z) = (decide (0 ≤ hv x) && decide (0 ≤ hv y) && pch o z):=rfl
theorem hv47 : hv 47 < 0:=by decide +kernel
theorem pch_split (o : List UInt8) (ho : okB o 47 = true) : ∀ (n : Nat) (A B : List UInt8),A.length ≤ n → pch o (A ++ 47 :: B) = (pch o A && pch o B)
 | _,[],B,_ => by
  show pch o (47 :: B) = (true && pch o B)
  rw [pch_ne o 47 B (by decide),ho]
 | 0,b :: r,B,h => absurd h (by simp)
 | n + 1,b :: r,B,h => by
  have hr : r.length ≤ n:=by simpa using h
  by_cases c : b = 37
  ·subst c
   match r,hr with
   | [],_ =>
    have e : pch o [37] = false:=rfl
    rw [e,Bool.false_and]
    cases B with
    | nil => rfl
    | cons x B => show pch o (37 :: 47 :: x :: B) = false;rw [pch_tok,decide_eq_false (by have:=hv47;omega)];rfl
   | [x],_ =>
    have e : pch o [37,x] = false:=rfl
    rw [e,Bool.false_and]
    show pch o (37 :: x :: 47 :: B) = false
    rw [pch_tok,decide_eq_false (show ¬ 0 ≤ hv 47 by have:=hv47;omega),Bool.and_false];rfl
   | x :: y :: z,hr =>
    show pch o (37 :: x :: y :: (z ++ 47 :: B)) = _
    rw [pch_tok,pch_tok,pch_split o ho n z B (by simp at hr;omega),Bool.and_assoc,Bool.and_assoc,Bool.and_assoc]
  ·show pch o (b :: (r ++ 47 :: B)) = _
   rw [pch_ne o b _ c,pch_ne o b _ c,pch_split o ho n r B hr,Bool.and_assoc]
theorem pch_path (o : List UInt8) (ho : okB o 47 = true) : ∀ (S : List (List UInt8)) (s : List UInt8),pch o (s ++ pathOf S) = (s :: S).all (pch o)
 | [],s => by
  have e : s ++ pathOf [] = s:=by simp [pathOf]
  rw [e];simp
 | t :: T,s => by
  rw [pathOf_cons,pch_split o ho s.length s _ (Nat.le_refl _),pch_path o ho T t,List.all_cons (l:=t :: T)]
def nrm : List UInt8 → Bool
 | [] => true
 | b :: r => if b = 37 then (match r with | x :: y :: z => decide (0 ≤ hv x) && decide (0 ≤ hv y) && (!freeB (ptB x y) && decide (enc3 (ptB x y) = [37,x,y])) && nrm z | _ => false) else nrm r
theorem nrm_ne (b : UInt8) (r : List UInt8) (c : b ≠ 37) : nrm (b :: r) = nrm r:=by
 conv => lhs;unfold nrm
 rw [if_neg c]
theorem nrm_tok (x y : UInt8) (z : List UInt8) : nrm (37 :: x :: y :: z) = (decide (0 ≤ hv x) && decide (0 ≤ hv y) && (!freeB (ptB x y) && decide (enc3 (ptB x y) = [37,x,y])) && nrm z):=rfl
def freeOk (b : UInt8) : Bool:=!freeB b || ((isLB b || isDB b || pbase.contains b) && decide (b ≠ 37) && decide (b ≠ 47))
theorem free_all : ((List.range 256).all fun n => freeOk (UInt8.ofNat n)) = true:=by decide +kernel
theorem free_ok (b : UInt8) (h : freeB b = true) (o : List UInt8) : okB o b = true ∧ b ≠ 37 ∧ b ≠ 47:=by
 have g:=byte_all freeOk free_all b
 unfold freeOk at g
 rw [h] at g
 simp only [Bool.not_true,Bool.false_or,Bool.and_eq_true,decide_eq_true_eq] at g
 refine ⟨?_,g.1.2,g.2⟩
 unfold okB
 rw [g.1.1];rfl
theorem tokB_back (t : UInt8) : ptB (hexD (t.toNat / 16)) (hexD (t.toNat % 16)) = t:=by
 have g:=(enc_b t).2.2.2
 unfold ptB
 rw [g,Int.toNat_natCast,UInt8.ofNat_toNat]
theorem pch_tokL (o : List UInt8) (x y : UInt8) (R : List UInt8) : pch o (ptL x y ++ R) = pch o R:=by
 unfold ptL
 generalize ptB x y = t
 by_cases h : freeB t = true
 ·have g:=free_ok t h o
  rw [if_pos h]
  show pch o (t :: R) = _
  rw [pch_ne o t R g.2.1,g.1,Bool.true_and]
 ·have g:=enc_b t
  rw [if_neg h]
  show pch o (37 :: hexD (t.toNat / 16) :: hexD (t.toNat % 16) :: R) = _
  rw [pch_tok,decide_eq_true g.2.2.1.1,decide_eq_true g.2.2.1.2,Bool.true_and,Bool.true_and]
theorem nrm_tokL (x y : UInt8) (R : List UInt8) : nrm (ptL x y ++ R) = nrm R:=by
 unfold ptL
 generalize ptB x y = t
 by_cases h : freeB t = true
 ·have g:=free_ok t h []
  rw [if_pos h]
  show nrm (t :: R) = _
  rw [nrm_ne t R g.2.1]
 ·have g:=enc_b t
  rw [if_neg h]
  show nrm (37 :: hexD (t.toNat / 16) :: hexD (t.toNat % 16) :: R) = _
  rw [nrm_tok,tokB_back,decide_eq_true g.2.2.1.1,decide_eq_true g.2.2.1.2,Bool.eq_false_iff.mpr h,decide_eq_true (show enc3 t = [37,hexD (t.toNat / 16),hexD (t.toNat % 16)] from rfl)]
  rfl
theorem np_good (o : List UInt8) : ∀ (n : Nat) (M : List UInt8),M.length ≤ n → pch o M = true → pch o (npL M) = true ∧ nrm (npL M) = true
 | _,[],_,_ => ⟨rfl,rfl⟩
 | 0,b :: r,h,_ => absurd h (by simp)
 | n + 1,b :: r,h,hp => by
  have hr : r.length ≤ n:=by simpa using h
  by_cases c : b = 37
  ·subst c
   match r,hr,hp with
   | [],_,hp => cases hp
   | [x],_,hp => cases hp
   | x :: y :: z,hr,hp =>
    rw [pch_tok] at hp
    simp only [Bool.and_eq_true,decide_eq_true_eq] at hp
    have ih:=np_good o n z (by simp at hr;omega) hp.2
    rw [npL_yes x y z hp.1,pch_tokL,nrm_tokL]
    exact ih
  ·rw [pch_ne o b r c,Bool.and_eq_true] at hp
   have ih:=np_good o n r hr hp.2
   rw [npL_ne b r c,pch_ne o b _ c,nrm_ne b _ c,hp.1,Bool.true_and]
   exact ih
theorem nrm_id : ∀ (n : Nat) (M : List UInt8),M.length ≤ n → nrm M = true → npL M = M
 | _,[],_,_ => rfl
 | 0,b :: r,h,_ => absurd h (by simp)
 | n + 1,b :: r,h,hp => by
  have hr : r.length ≤ n:=by simpa using h
  by_cases c : b = 37
  ·subst c
   match r,hr,hp with
   | [],_,hp => cases hp
   | [x],_,hp => cases hp
   | x :: y :: z,hr,hp =>
    rw [nrm_tok] at hp
    simp only [Bool.and_eq_true,decide_eq_true_eq,Bool.not_eq_true'] at hp
    obtain ⟨⟨h12,h3,h4⟩,h5⟩:=hp
    have ih:=nrm_id n z (by simp at hr;omega) h5
    rw [npL_yes x y z h12,ih]
    unfold ptL
    rw [if_neg (by rw [h3];decide),h4];rfl
  ·rw [nrm_ne b r c] at hp
   rw [npL_ne b r c,nrm_id n r hr hp]
theorem nrm_split : ∀ (n : Nat) (A B : List UInt8),A.length ≤ n → nrm (A ++ 47 :: B) = (nrm A && nrm B)
 | _,[],B,_ => by
  show nrm (47 :: B) = (true && nrm B)
  rw [nrm_ne 47 B (by decide)];rfl
 | 0,b :: r,B,h => absurd h (by simp)
 | n + 1,b :: r,B,h => by
  have hr : r.length ≤ n:=by simpa using h
  by_cases c : b = 37
  ·subst c
   match r,hr with
   | [],_ =>
    have e : nrm [37] = false:=rfl
    rw [e,Bool.false_and]
    cases B with
    | nil => rfl
    | cons x B => show nrm (37 :: 47 :: x :: B) = false;rw [nrm_tok,decide_eq_false (by have:=hv47;omega)];rfl
   | [x],_ =>
    have e : nrm [37,x] = false:=rfl
    rw [e,Bool.false_and]
    show nrm (37 :: x :: 47 :: B) = false
    rw [nrm_tok,decide_eq_false (show ¬ 0 ≤ hv 47 by have:=hv47;omega),Bool.and_false];rfl
   | x :: y :: z,hr =>
    show nrm (37 :: x :: y :: (z ++ 47 :: B)) = _
    rw [nrm_tok,nrm_tok,nrm_split n z B (by simp at hr;omega)]
    simp only [Bool.and_assoc]
  ·show nrm (b :: (r ++ 47 :: B)) = _
   rw [nrm_ne b _ c,nrm_ne b _ c,nrm_split n r B hr]
theorem nrm_path : ∀ (S : List (List UInt8)) (s : List UInt8),nrm (s ++ pathOf S) = (s :: S).all nrm
 | [],s => by
  have e : s ++ pathOf [] = s:=by simp [pathOf]
  rw [e];simp
 | t :: T,s => by
  rw [pathOf_cons,nrm_split s.length s _ (Nat.le_refl _),nrm_path T t,List.all_cons (l:=t :: T)]
theorem drop_good (o : List UInt8) (ho : okB o 47 = true) (l m : List UInt8) (hm : dropL l = 47 :: m) (h1 : pch o l = true) (h2 : nrm l = true) : pch o m = true ∧ nrm m = true:=by
 obtain ⟨s,S,e,g1,g2⟩:=segs_ok l
 have hle : l = s ++ pathOf S:=by rw [pathOf_cons] at g1;exact (List.cons.inj g1).2
 obtain ⟨q,O,eq,f1,f2⟩:=dropL_form l
 have hme : m = q ++ pathOf O:=by
  unfold dropL at hm
  rw [eq,pathOf_cons] at hm
  exact (List.cons.inj hm).2.symm
 rw [hle,pch_path o ho] at h1
 rw [hle,nrm_path] at h2
 have hmem : ∀ x ∈ q :: O,x ∈ s :: S ∨ x = []:=fun x hx => by
  rw [← eq] at hx
  rcases dotL_mem _ _ x hx with h | h | h
  ·cases h
  ·rw [e] at h;exact Or.inl h.1
  ·exact Or.inr h
 rw [hme,pch_path o ho,nrm_path]
 constructor
 ·refine List.all_eq_true.mpr fun x hx => ?_
  rcases hmem x hx with h | h
  ·exact List.all_eq_true.mp h1 x h
  ·rw [h];rfl
 ·refine List.all_eq_true.mpr fun x hx => ?_
  rcases hmem x hx with h | h
  ·exact List.all_eq_true.mp h2 x h
  ·rw [h];rfl
def portN (S : List UInt8) (n : Int) : Int:=if (S = [104,116,116,112] ∧ n = 80) ∨ (S = [104,116,116,112,115] ∧ n = 443) then 0 else n
def lowP (b : UInt8) : Bool:=decide (lowB (lowB b) = lowB b) && (!hostB b || hostB (lowB b))
theorem low_all : ((List.range 256).all fun n => lowP (UInt8.ofNat n)) = true:=by decide +kernel
theorem low_b (b : UInt8) : lowB (lowB b) = lowB b ∧ (hostB b = true → hostB (lowB b) = true):=by
 have g:=byte_all lowP low_all b
 unfold lowP at g
 simp only [Bool.and_eq_true,decide_eq_true_eq] at g
 refine ⟨g.1,fun h => ?_⟩
 have g2:=g.2
 rw [h] at g2
 simpa using g2
theorem low_map (H : List UInt8) : (⟨(tx H).data.map lowB⟩ : ByteArray) = tx (H.map lowB):=by
 apply ByteArray.ext
 simp [tx]
theorem small_f (H : List UInt8) (h : H.length ≤ 3000000) : impl_small.f (tx H) = some (tx (H.map lowB)):=by
 unfold impl_small.f
 rw [tx_size,if_pos (by omega),low_map]
theorem lower_f (H : List UInt8) (h : H.length ≤ 3000000) : spec_l1Lower.f (tx H) = some (tx (H.map lowB)):=by
 unfold spec_l1Lower.f
 rw [tx_size,if_pos (by omega),low_map]
theorem np_slash (p : List UInt8) : npL (47 :: p) = 47 :: npL p:=npL_ne 47 p (by decide)
theorem port_cases (S : List UInt8) (n : Int) {α : Type} (f : Bool → α) (g : Int → α) (ht : f true = g 0) (hf : f false = g n) :
  (if S = ([104,116,116,112] : List UInt8) then (if n = 80 then f true else (if S = ([104,116,116,112,115] : List UInt8) then f (n == 443) else f false)) else (if S = ([104,116,116,112,115] : List UInt8) then f (n == 443) else f false)) = g (portN S n):=by
 unfold portN
 by_cases c1 : S = [104,116,116,112]
 ·have c2 : S ≠ [104,116,116,112,115]:=by rw [c1];decide
  rw [if_pos c1,if_neg c2]
  by_cases c3 : n = 80
  ·rw [if_pos c3,if_pos (Or.inl ⟨c1,c3⟩),ht]
  ·rw [if_neg c3,if_neg (fun h => h.elim (fun h => c3 h.2) (fun h => c2 h.1)),hf]
 ·rw [if_neg c1]
  by_cases c2 : S = [104,116,116,112,115]
  ·rw [if_pos c2]
   by_cases c3 : n = 443
   ·rw [if_pos (Or.inr ⟨c2,c3⟩),beq_iff_eq.mpr c3,ht]
   ·rw [if_neg (fun h => h.elim (fun h => c1 h.1) (fun h => c3 h.2)),beq_eq_false_iff_ne.mpr c3,hf]
  ·rw [if_neg c2,if_neg (fun h => h.elim (fun h => c1 h.1) (fun h => c2 h.1)),hf]
theorem norm_I (k : Nat) (S H : List UInt8) (n : Int) (p Q : List UInt8) (a : Bool) (hH : H.length ≤ 3000000) (hP : (47 :: p).length ≤ 3000000) (hQ : Q.length ≤ 3000000) (hk : 30000000 ≤ k) :
  impl_normal.f k (tx S) (tx H) n (tx (47 :: p)) (tx Q) a = some (tx S,tx (H.map lowB),portN S n,tx (dropL (npL p)),tx (npL Q),a):=by
 obtain ⟨m,rfl⟩ : ∃ m,k = m + 1:=⟨k - 1,by omega⟩
 have hl:=npL_len p.length p (Nat.le_refl _)
 have hp1 : p.length ≤ 2999999:=by simpa using hP
 have e1:=percents_I m (47 :: p) hP (by omega)
 rw [np_slash] at e1
 have e2:=drop_I (npL p) (by omega) m (by omega)
 have e3:=percents_I m Q hQ (by omega)
 have j : ∀ v : Bool,impl_normal.j0 (m + 1) v (tx S) (tx (H.map lowB)) n (tx (47 :: p)) (tx Q) a = some (tx S,tx (H.map lowB),(if v = true then 0 else n),tx (dropL (npL p)),tx (npL Q),a):=fun v => by
  unfold impl_normal.j0
  dsimp only
  rw [e1,e3]
  simp only [Option.bind_some]
  rw [e2]
  simp only [Option.bind_some]
  cases v <;> rfl
 unfold impl_normal.f
 rw [small_f H hH,Option.bind_some,tx_toList]
 exact port_cases S n (fun v => impl_normal.j0 (m + 1) v (tx S) (tx (H.map lowB)) n (tx (47 :: p)) (tx Q) a) (fun z => some (tx S,tx (H.map lowB),z,tx (dropL (npL p)),tx (npL Q),a)) (j true) (j false)
theorem norm_S (k : Nat) (S H : List UInt8) (n : Int) (p Q : List UInt8) (a : Bool) (hH : H.length ≤ 3000000) (hP : (47 :: p).length ≤ 3000000) (hQ : Q.length ≤ 3000000) (hk : 30000000 ≤ k) :
  spec_l1Normal.f k (tx S) (tx H) n (tx (47 :: p)) (tx Q) a = some (tx S,tx (H.map lowB),portN S n,tx (dropL (npL p)),tx (npL Q),a):=by
 obtain ⟨m,rfl⟩ : ∃ m,k = m + 1:=⟨k - 1,by omega⟩
 have hl:=npL_len p.length p (Nat.le_refl _)
 have hp1 : p.length ≤ 2999999:=by simpa using hP
 have e1:=percents_S m (47 :: p) hP (by omega)
 rw [np_slash] at e1
 have e2:=drop_S (npL p) (by omega) m (by omega)
 have e3:=percents_S m Q hQ (by omega)
 have j : ∀ v : Bool,spec_l1Normal.j0 (m + 1) v (tx S) (tx (H.map lowB)) n (tx (47 :: p)) (tx Q) a = some (tx S,tx (H.map lowB),(if v = true then 0 else n),tx (dropL (npL p)),tx (npL Q),a):=fun v => by
  unfold spec_l1Normal.j0
  dsimp only
  rw [e1,e3]
  simp only [Option.bind_some]
  rw [e2]
  simp only [Option.bind_some]
  cases v <;> rfl
 unfold spec_l1Normal.f
 rw [lower_f H hH,Option.bind_some,tx_toList]
 exact port_cases S n (fun v => spec_l1Normal.j0 (m + 1) v (tx S) (tx (H.map lowB)) n (tx (47 :: p)) (tx Q) a) (fun z => some (tx S,tx (H.map lowB),z,tx (dropL (npL p)),tx (npL Q),a)) (j true) (j false)
theorem text_len (S H : List UInt8) (n : Int) (P Q : List UInt8) (a : Bool) : (textL S H n P Q a).length = S.length + (3 + (H.length + ((portL n).length + (P.length + (askL Q a).length)))):=by
 unfold textL
 simp only [List.length_append]
 rfl
theorem good_norm (S H : List UInt8) (n : Int) (P Q : List UInt8) (a : Bool) (hg : goodL S H n P Q a = true) :
  ∃ p m,P = 47 :: p ∧ dropL (npL p) = 47 :: m ∧ goodL S (H.map lowB) (portN S n) (47 :: m) (npL Q) a = true ∧ dropL (npL m) = 47 :: m ∧ npL (npL Q) = npL Q ∧ (47 :: m).length ≤ 200:=by
 have hg0:=hg
 unfold goodL tailB at hg
 simp only [Bool.and_eq_true,decide_eq_true_eq] at hg
 obtain ⟨hsch,⟨hh0,hh1⟩,hH2,⟨hn0,hn1⟩,hsl,hpP,hpQ,haq,hlen⟩:=hg
 obtain ⟨p,rfl⟩ : ∃ p,P = 47 :: p:=by
  unfold slash at hsl
  cases P with
  | nil => cases hsl
  | cons b r => exact ⟨r,by rw [beq_iff_eq.mp hsl]⟩
 obtain ⟨m,hm1,hm2⟩:=drop_twice (npL p)
 have gp:=np_good [47] (47 :: p).length (47 :: p) (Nat.le_refl _) hpP
 rw [np_slash,pch_ne [47] 47 _ (by decide),nrm_ne 47 _ (by decide),Bool.and_eq_true] at gp
 have gq:=np_good [47,63] Q.length Q (Nat.le_refl _) hpQ
 have gm:=drop_good [47] (by decide) (npL p) m hm1 gp.1.2 gp.2
 have hml:=dropL_len (npL p)
 have hpl:=npL_len p.length p (Nat.le_refl _)
 have hql:=npL_len Q.length Q (Nat.le_refl _)
 rw [hm1] at hml
 have hP1 : portN S n = 0 ∨ portN S n = n:=by unfold portN;split <;> simp
 have hport : (portL (portN S n)).length ≤ (portL n).length:=by
  rcases hP1 with h | h
  ·rw [h];show 0 ≤ _;exact Nat.zero_le _
  ·rw [h];exact Nat.le_refl _
 have hask : (askL (npL Q) a).length ≤ (askL Q a).length:=by
  unfold askL
  split
  ·simp;omega
  ·exact Nat.le_refl _
 have hlen2 : (textL S (H.map lowB) (portN S n) (47 :: m) (npL Q) a).length ≤ (textL S H n (47 :: p) Q a).length:=by
  rw [text_len,text_len,List.length_map]
  simp only [List.length_cons] at hml ⊢
  omega
 refine ⟨p,m,rfl,hm1,?_,?_,nrm_id _ _ (Nat.le_refl _) gq.2,?_⟩
 ·unfold goodL tailB
  simp only [Bool.and_eq_true,decide_eq_true_eq]
  refine ⟨hsch,⟨by rw [List.length_map];exact hh0,by rw [List.length_map];exact hh1⟩,?_,?_,rfl,?_,gq.1,?_,by omega⟩
  ·rw [List.all_map]
   exact List.all_eq_true.mpr fun x hx => (low_b x).2 (List.all_eq_true.mp hH2 x hx)
  ·rcases hP1 with h | h
   ·rw [h];omega
   ·rw [h];exact ⟨hn0,hn1⟩
  ·rw [pch_ne [47] 47 _ (by decide),gm.1];rfl
  ·cases a with
   | true => rfl
   | false =>
    have : Q = []:=by simpa using haq
    rw [this];rfl
 ·rw [nrm_id _ _ (Nat.le_refl _) gm.2];exact hm2
 ·rw [text_len] at hlen
  simp only [List.length_cons] at hml hlen ⊢
  omega
theorem dec_head (u : Nat) : 0 < u → ∀ d r,Lib.decDigits u = d :: r → d ≠ 48:=by
 induction u using Nat.strongRecOn with
 | ind u ih =>
  intro hu d r e
  unfold Lib.decDigits at e
  by_cases h : u < 10
  ·rw [dif_pos h] at e
   injection e with e1 e2
   intro hd
   rw [hd] at e1
   have:=congrArg UInt8.toNat e1
   rw [u8of u h] at this
   have h48 : (48 : UInt8).toNat = 48:=rfl
   omega
  ·rw [dif_neg h] at e
   cases hq : Lib.decDigits (u / 10) with
   | nil => exact absurd hq (dec_ne _)
   | cons x xs =>
    rw [hq] at e
    injection e with e1 e2
    rw [← e1]
    exact ih (u / 10) (by omega) (by omega) x xs hq
theorem dig_eq (b : UInt8) (h : isDB b = true) : UInt8.ofNat (48 + (b.toNat - 48)) = b:=by
 have h2 : 48 ≤ b.toNat ∧ b.toNat ≤ 57:=by unfold isDB at h;simpa using h
 have e : 48 + (b.toNat - 48) = b.toNat:=by omega
 rw [e]
 exact UInt8.ofNat_toNat
theorem dec_step (a : Nat) (b : UInt8) (h : isDB b = true) (ha : 0 < a) : Lib.decDigits (a * 10 + (b.toNat - 48)) = Lib.decDigits a ++ [b]:=by
 have h2 : 48 ≤ b.toNat ∧ b.toNat ≤ 57:=by unfold isDB at h;simpa using h
 conv => lhs;unfold Lib.decDigits
 rw [dif_neg (by omega)]
 have e1 : (a * 10 + (b.toNat - 48)) / 10 = a:=by omega
 have e2 : (a * 10 + (b.toNat - 48)) % 10 = b.toNat - 48:=by omega
 rw [e1,e2,dig_eq b h]
theorem dec_more : ∀ (M : List UInt8) (a : Nat),M.all isDB = true → 0 < a → ∀ v,Lib.decFrom a M = some v → Lib.decDigits v = Lib.decDigits a ++ M
 | [],a,_,_,v,h => by
  obtain rfl : a = v:=Option.some.inj h
  rw [List.append_nil]
 | b :: M,a,hd,ha,v,h => by
  rw [List.all_cons,Bool.and_eq_true] at hd
  rw [dec_cons,if_pos hd.1] at h
  have ih:=dec_more M (a * 10 + (b.toNat - 48)) hd.2 (by omega) v h
  rw [ih,dec_step a b hd.1 ha,List.append_assoc];rfl
theorem dec_canon (D : List UInt8) (hd : D.all isDB = true) (h0 : ∀ r,D = 48 :: r → r = []) (v : Nat) (hv : v ≠ 0) (h : Lib.decFrom 0 D = some v) : Lib.decDigits v = D:=by
 cases D with
 | nil => exact absurd (Option.some.inj h).symm hv
 | cons b M =>
  rw [List.all_cons,Bool.and_eq_true] at hd
  rw [dec_cons,if_pos hd.1] at h
  have h2 : 48 ≤ b.toNat ∧ b.toNat ≤ 57:=by have:=hd.1;unfold isDB at this;simpa using this
  have e0 : 0 * 10 + (b.toNat - 48) = b.toNat - 48:=by omega
  rw [e0] at h
  by_cases c : b.toNat = 48
  ·have hb : b = 48:=UInt8.toNat_inj.mp (by show b.toNat = 48;exact c)
   have hM:=h0 M (by rw [hb])
   subst hM
   have : b.toNat - 48 = v:=Option.some.inj h
   exact absurd (by omega) hv
  ·have ih:=dec_more M (b.toNat - 48) hd.2 (by omega) v h
   have e1 : Lib.decDigits (b.toNat - 48) = [b]:=by
    unfold Lib.decDigits
    rw [dif_pos (by omega),dig_eq b hd.1]
   rw [ih,e1];rfl
def portV (D : List UInt8) : Option Nat:=match numP D with
 | some v => if Lib.decDigits v = D ∧ v ≠ 0 then some v else none
 | none => none
theorem port_some (D : List UInt8) (u : Nat) (h : portV D = some u) : numP D = some u ∧ Lib.decDigits u = D ∧ u ≠ 0:=by
 unfold portV at h
 cases hn : numP D with
 | none => rw [hn] at h;cases h
 | some v =>
  rw [hn] at h
  dsimp only at h
  split at h
  ·rename_i hc
   obtain rfl:=Option.some.inj h
   exact ⟨rfl,hc⟩
  ·cases h
theorem port_of (D : List UInt8) (u : Nat) (hn : numP D = some u) (hd : Lib.decDigits u = D) (h0 : u ≠ 0) : portV D = some u:=by
 unfold portV
 rw [hn]
 dsimp only
 rw [if_pos ⟨hd,h0⟩]
theorem number_I (D : List UInt8) (hl : D.length ≤ 3000000) : ∃ v ok,impl_number.f (tx D) = some (v,ok) ∧ (ok = true → v ≠ 0 → (∃ u : Nat,portV D = some u ∧ v = (u : Int)) ∨ 65535 < v) ∧ (∀ u,portV D = some u → ok = true ∧ v = (u : Int)):=by
 unfold impl_number.f
 by_cases hp : ∃ u,portV D = some u
 ·obtain ⟨u,hu⟩:=hp
  obtain ⟨h1,h2,h3⟩:=port_some D u hu
  obtain ⟨e,hb⟩:=atoi_dig D u h1
  have hi : strconv_Itoa.f (u : Int) = some (tx (Lib.itoa (u : Int))):=by
   unfold strconv_Itoa.f
   rw [if_pos (by omega),if_pos (by omega)]
  refine ⟨(u : Int),true,?_,fun _ _ => Or.inl ⟨u,hu,rfl⟩,fun u' hu' => ?_⟩
  ·rw [e,Option.bind_some,if_pos (by rfl)]
   dsimp only
   rw [hi,Option.bind_some,tx_toList,tx_toList,Lib.itoa_nonneg,if_pos h2,decide_eq_true (by omega)]
  ·rw [hu] at hu'
   obtain rfl:=Option.some.inj hu'
   exact ⟨rfl,rfl⟩
 ·have hno : ∀ u,portV D ≠ some u:=fun u h => hp ⟨u,h⟩
  unfold strconv_Atoi.f
  rw [tx_size,if_pos (by omega),tx_list]
  cases hq : Lib.atoiAll D with
  | «syntax» => exact ⟨0,false,rfl,fun h => (by cases h),fun u h => absurd h (hno u)⟩
  | range => exact ⟨_,false,rfl,fun h => (by cases h),fun u h => absurd h (hno u)⟩
  | ok v =>
   obtain ⟨b1,b2⟩:=Lib.atoiAll_bounds hq
   have hi : strconv_Itoa.f v = some (tx (Lib.itoa v)):=by
    unfold strconv_Itoa.f
    rw [if_pos b1,if_pos b2]
   dsimp only
   rw [Option.bind_some,if_pos (by rfl)]
   dsimp only
   rw [hi,Option.bind_some,tx_toList,tx_toList]
   by_cases c : Lib.itoa v = D
   ·rw [if_pos c]
    refine ⟨v,decide (v ≥ 0),rfl,fun h hv0 => ?_,fun u h => absurd h (hno u)⟩
    have hv : 0 ≤ v:=of_decide_eq_true h
    obtain ⟨u,rfl⟩ : ∃ u : Nat,v = (u : Int):=⟨v.toNat,by omega⟩
    rw [Lib.itoa_nonneg] at c
    by_cases cb : u < 1000000000
    ·exfalso
     refine hno u (port_of D u ?_ c (by omega))
     unfold numP
     have hlen:=dec_len u 8 (by omega)
     rw [c] at hlen
     have hdb : D.all isDB = true:=List.all_eq_true.mpr fun x hx => by
      have:=dec_digs u x (by rw [c];exact hx)
      unfold isDB
      rw [Bool.and_eq_true,decide_eq_true_iff,decide_eq_true_iff]
      exact this
     rw [if_pos ⟨hlen,hdb,by rw [← c];exact dec_ne u⟩,← c,dec_back]
    ·right;omega
   ·rw [if_neg c]
    exact ⟨v,false,rfl,fun h => (by cases h),fun u h => absurd h (hno u)⟩
def decV (o : Option Nat) : Int:=match o with
 | some v => (v : Int)
 | none => -1
theorem int_l : ∀ (M pre : List UInt8) (K a : Nat),(pre ++ M).length ≤ 1000 → M.length < K → (a + 1) * 10 ^ M.length ≤ 10000000000 → spec_l1Int.l0 K (tx (pre ++ M)) (a : Int) (pre.length : Int) = some (decV (Lib.decFrom a M))
 | M,pre,0,a,_,h,_ => absurd h (Nat.not_lt_zero _)
 | [],pre,K + 1,a,hl,h,_ => by
  unfold spec_l1Int.l0
  rw [List.append_nil,tx_size,if_neg (Int.lt_irrefl _)];rfl
 | b :: M,pre,K + 1,a,hl,h,hb => by
  have hl2 : pre.length + (M.length + 1) ≤ 1000:=by rw [List.length_append,List.length_cons] at hl;exact hl
  obtain ⟨q1,q2,q3⟩:=pb_pos pre.length M.length (by omega)
  have hlen:=lenC pre b M
  have hbt:=bt_at pre M b
  have e1 : pre ++ [b] ++ M = pre ++ b :: M:=by simp
  have e2 : (((pre ++ [b]).length : Nat) : Int) = (pre.length : Int) + 1:=by simp
  unfold spec_l1Int.l0
  rw [tx_size,hlen,if_pos q1,if_pos q2,hbt,q3,dec_cons]
  by_cases c : isDB b = true
  ·have h2 : 48 ≤ b.toNat ∧ b.toNat ≤ 57:=by unfold isDB at c;simpa using c
   have hle : (a * 10 + (b.toNat - 48) + 1) * 10 ^ M.length ≤ 10000000000:=by
    refine Nat.le_trans ?_ hb
    have e : (a + 1) * 10 ^ (b :: M).length = ((a + 1) * 10) * 10 ^ M.length:=by
     rw [List.length_cons,Nat.pow_succ,Nat.mul_comm (10 ^ M.length) 10,← Nat.mul_assoc]
    rw [e]
    exact Nat.mul_le_mul_right _ (by omega)
   have hpos : 0 < 10 ^ M.length:=Nat.pow_pos (by decide)
   have hsm : a * 10 + (b.toNat - 48) + 1 ≤ 10000000000:=Nat.le_trans (Nat.le_mul_of_pos_right _ hpos) hle
   have ih:=int_l M (pre ++ [b]) K (a * 10 + (b.toNat - 48)) (by rw [e1];exact hl) (Nat.lt_of_succ_lt_succ h) hle
   rw [e1,e2] at ih
   have hw : wrap64 (wrap64 (10 * (a : Int)) + (((b.toNat : Int) - 48) % 256)) = ((a * 10 + (b.toNat - 48) : Nat) : Int):=by
    rw [w64 (x:=10 * (a : Int)) (by omega) (by omega),w64 (by omega) (by omega)]
    omega
   rw [if_neg (by omega),if_neg (by omega),if_pos c,hw]
   exact ih
  ·rw [if_neg c]
   have h2 : b.toNat < 48 ∨ 57 < b.toNat:=by
    unfold isDB at c
    rw [Bool.and_eq_true,decide_eq_true_iff,decide_eq_true_iff] at c
    omega
   by_cases c3 : b.toNat < 48
   ·rw [if_pos (by omega)];rfl
   ·rw [if_neg (by omega),if_pos (by omega)];rfl
theorem int_S (D : List UInt8) (hl : D.length ≤ 1000) (K : Nat) (hK : 20 ≤ K) : ∃ v,spec_l1Int.f K (tx D) = some v ∧ (0 < v → ∃ u : Nat,portV D = some u ∧ v = (u : Int)) ∧ (∀ u,portV D = some u → v = (u : Int)):=by
 obtain ⟨k,rfl⟩ : ∃ k,K = k + 1:=⟨K - 1,by omega⟩
 unfold spec_l1Int.f
 rw [tx_size,inR,Option.bind_some]
 have jt : spec_l1Int.j0 (k + 1) (tx D) true = some (-1):=rfl
 cases hw : (decide ((1 : Int) ≤ (D.length : Int)) && decide ((D.length : Int) ≤ 9)) with
 | false =>
  rw [if_neg (by decide),jt]
  refine ⟨-1,rfl,fun h => by omega,fun u h => ?_⟩
  obtain ⟨h1,h2,h3⟩:=port_some D u h
  have h4:=numP_some D u h1
  have h5 : D ≠ []:=by rw [← h2];exact dec_ne u
  have h6 : 0 < D.length:=List.length_pos_iff.mpr h5
  rw [Bool.and_eq_false_iff,decide_eq_false_iff_not,decide_eq_false_iff_not] at hw
  omega
 | true =>
  rw [if_pos rfl]
  rw [Bool.and_eq_true,decide_eq_true_iff,decide_eq_true_iff] at hw
  cases D with
  | nil => exact absurd hw.1 (by decide)
  | cons b M =>
   have e0 : bt (tx (b :: M)) 0 = (b.toNat : Int):=bt_tx (b :: M) 0 (by simp)
   have hM : (b :: M).length ≤ 9:=by omega
   have hpw : 10 ^ (b :: M).length ≤ 10 ^ 9:=Nat.pow_le_pow_right (by decide) hM
   have hlp:=int_l (b :: M) [] k 0 (by show (b :: M).length ≤ 1000;omega) (by omega) (by omega)
   have hlp2 : spec_l1Int.l0 k (tx (b :: M)) 0 0 = some (decV (Lib.decFrom 0 (b :: M))):=hlp
   have jf : spec_l1Int.j0 (k + 1) (tx (b :: M)) false = some (decV (Lib.decFrom 0 (b :: M))):=by
    unfold spec_l1Int.j0
    dsimp only
    rw [if_neg (by decide)]
    exact hlp2
   have main : (∀ r,b :: M = 48 :: r → r = []) → ∃ v,spec_l1Int.j0 (k + 1) (tx (b :: M)) false = some v ∧ (0 < v → ∃ u : Nat,portV (b :: M) = some u ∧ v = (u : Int)) ∧ (∀ u,portV (b :: M) = some u → v = (u : Int)):=fun h0 => by
    refine ⟨_,jf,fun hv => ?_,fun u hu => ?_⟩
    ·cases hd : (b :: M).all isDB with
     | false => rw [dec_none _ _ hd] at hv;exact absurd hv (by decide)
     | true =>
      obtain ⟨v,e,_⟩:=dec_some (b :: M) 0 hd
      rw [e] at hv ⊢
      have hv2 : 0 < (v : Int):=hv
      exact ⟨v,port_of _ v (by unfold numP;rw [if_pos ⟨hM,hd,by simp⟩,e]) (dec_canon _ hd h0 v (by omega) e) (by omega),rfl⟩
    ·obtain ⟨h1,h2,h3⟩:=port_some _ u hu
     have h4:=numP_some _ u h1
     unfold numP at h1
     rw [if_pos ⟨h4.1,h4.2,by simp⟩] at h1
     rw [h1];rfl
   rw [if_pos (by rw [List.length_cons];omega),e0]
   by_cases c : b = 48
   ·subst c
    rw [if_pos (show (((48 : UInt8).toNat : Nat) : Int) = 48 from rfl)]
    cases M with
    | nil =>
     rw [decide_eq_false (by decide)]
     exact main (fun r h => by injection h with _ h2;exact h2.symm)
    | cons x xs =>
     rw [decide_eq_true (by rw [List.length_cons,List.length_cons];omega),jt]
     refine ⟨-1,rfl,fun h => by omega,fun u h => ?_⟩
     obtain ⟨h1,h2,h3⟩:=port_some _ u h
     exact absurd rfl (dec_head u (by omega) 48 (x :: xs) h2)
   ·rw [if_neg (fun hh => c (UInt8.toNat_inj.mp (by show b.toNat = 48;omega)))]
    exact main (fun r h => by injection h with h1 _;exact absurd h1 c)
theorem indexB_at (c : UInt8) (r : List UInt8) : ∀ l : List UInt8,c ∉ l → Lib.indexByte (l ++ c :: r) c = (l.length : Int)
 | [],_ => by simp [Lib.indexByte]
 | b :: l,h => by
  have hb : (b == c) = false:=beq_eq_false_iff_ne.mpr fun e => h (e ▸ List.mem_cons_self ..)
  have ih:=indexB_at c r l fun hh => h (List.mem_cons_of_mem _ hh)
  show Lib.indexByte (b :: (l ++ c :: r)) c = _
  unfold Lib.indexByte
  rw [ih,hb,if_neg (by decide)]
  have : ((l.length : Int) == -1) = false:=beq_eq_false_iff_ne.mpr (by omega)
  rw [this,if_neg (by decide)];simp
theorem cut_f (T sep a b : List UInt8) (f : Bool) (h : T.length ≤ 90000000) (hc : Lib.cut T sep = (a,b,f)) : strings_Cut.f (tx T) (tx sep) = some (tx a,tx b,f):=by
 unfold strings_Cut.f
 rw [tx_size,if_pos (by omega),tx_list,tx_list,hc]
def zeroU : ByteArray × ByteArray × Int × ByteArray × ByteArray × Bool × Bool:=((⟨#[]⟩ : ByteArray),(⟨#[]⟩ : ByteArray),0,(⟨#[]⟩ : ByteArray),(⟨#[]⟩ : ByteArray),false,false)
def gRes (S H : List UInt8) (n : Int) (P Q : List UInt8) (a : Bool) : ByteArray × ByteArray × Int × ByteArray × ByteArray × Bool × Bool:=if goodL S H n P Q a = true then (tx S,tx H,n,tx P,tx Q,a,true) else zeroU
def pathS (P : List UInt8) : List UInt8:=if P = [] then [47] else P
theorem first_at (c : UInt8) : ∀ l : List UInt8,c ∉ l ∨ ∃ a b,l = a ++ c :: b ∧ c ∉ a
 | [] => Or.inl (by simp)
 | x :: l => by
  by_cases h : x = c
  ·exact Or.inr ⟨[],l,by rw [h];rfl,by simp⟩
  ·rcases first_at c l with h1 | ⟨a,b,h1,h2⟩
   ·left;intro hm;rcases List.mem_cons.mp hm with hm | hm
    ·exact h hm.symm
    ·exact h1 hm
   ·right;refine ⟨x :: a,b,by rw [h1];rfl,?_⟩
    intro hm;rcases List.mem_cons.mp hm with hm | hm
    ·exact h hm.symm
    ·exact h2 hm
theorem ask_dec (l : List UInt8) : ∃ R Q a,l = R ++ askL Q a ∧ (63 : UInt8) ∉ R ∧ (a = false → Q = []):=by
 rcases first_at 63 l with h | ⟨R,Q,h1,h2⟩
 ·exact ⟨l,[],false,by simp [askL],h,fun _ => rfl⟩
 ·exact ⟨R,Q,true,by rw [h1];rfl,h2,fun h => by cases h⟩
theorem cut_ask (R Q : List UInt8) (a : Bool) (h : (63 : UInt8) ∉ R) (hq : a = false → Q = []) : Lib.cut (R ++ askL Q a) [63] = (R,Q,a):=by
 cases a with
 | true => exact cut_at 63 R Q h
 | false =>
  rw [hq rfl]
  show Lib.cut (R ++ []) [63] = _
  rw [List.append_nil]
  exact cut_none 63 R h
theorem cutS_ask (K : Nat) (R Q : List UInt8) (a : Bool) (h : (63 : UInt8) ∉ R) (hq : a = false → Q = []) (hR : R.length ≤ 90000000) (hQ : Q.length ≤ 90000000) (hK : R.length < K) : spec_l1Cut.f K (tx (R ++ askL Q a)) 63 = some (tx R,tx Q,a):=by
 cases a with
 | true => exact cutS_at 63 63 rfl R Q K h hR hQ hK
 | false =>
  rw [hq rfl]
  show spec_l1Cut.f K (tx (R ++ [])) 63 = _
  rw [List.append_nil]
  exact cutS_none 63 63 rfl R K h hR hK
theorem path_dec (l : List UInt8) : ∃ H P,l = H ++ P ∧ (47 : UInt8) ∉ H ∧ (P = [] ∨ ∃ p,P = 47 :: p):=by
 rcases first_at 47 l with h | ⟨H,p,h1,h2⟩
 ·exact ⟨l,[],by simp,h,Or.inl rfl⟩
 ·exact ⟨H,47 :: p,h1,h2,Or.inr ⟨p,rfl⟩⟩
theorem indexB_none (c : UInt8) : ∀ l : List UInt8,c ∉ l → Lib.indexByte l c = -1
 | [],_ => rfl
 | b :: l,h => by
  have hb : (b == c) = false:=beq_eq_false_iff_ne.mpr fun e => h (e ▸ List.mem_cons_self ..)
  have ih:=indexB_none c l fun hh => h (List.mem_cons_of_mem _ hh)
  unfold Lib.indexByte
  rw [ih,hb,if_neg (by decide)];rfl
theorem cut_join (l sep S R : List UInt8) (h : Lib.cut l sep = (S,R,true)) : l = S ++ (sep ++ R):=by
 unfold Lib.cut at h
 rcases Lib.index_spec l sep with ⟨h1,_⟩ | ⟨i,h1,h2,h3,_⟩
 ·rw [h1,if_neg (by decide)] at h
  injection h with _ h;injection h with _ h;cases h
 ·rw [h1,if_pos (by omega),Int.toNat_natCast] at h
  injection h with e1 h
  injection h with e2 _
  unfold Lib.occAt at h3
  obtain ⟨t,ht⟩:=List.isPrefixOf_iff_prefix.mp h3
  have e3 : l.drop (i + sep.length) = t:=by
   rw [← List.drop_drop,← ht,List.drop_left]
  rw [← e1,← e2,e3,ht,List.take_append_drop]
def colL (H : List UInt8) (o : Option (List UInt8)) : List UInt8:=match o with
 | none => H
 | some D => H ++ 58 :: D
theorem col_dec (A : List UInt8) : ∃ H o,A = colL H o ∧ (58 : UInt8) ∉ H:=by
 rcases first_at 58 A with h | ⟨H,D,h1,h2⟩
 ·exact ⟨A,none,rfl,h⟩
 ·exact ⟨H,some D,h1,h2⟩
def authX (S H : List UInt8) (o : Option (List UInt8)) (P Q : List UInt8) (a : Bool) : ByteArray × ByteArray × Int × ByteArray × ByteArray × Bool × Bool:=match o with
 | none => gRes S H 0 (pathS P) Q a
 | some D => match portV D with
  | some u => gRes S H (u : Int) (pathS P) Q a
  | none => zeroU
theorem authX_yes (S H D P Q : List UInt8) (a : Bool) (u : Nat) (h : portV D = some u) : authX S H (some D) P Q a = gRes S H (u : Int) (pathS P) Q a:=by
 unfold authX
 dsimp only
 rw [h]
theorem authX_no (S H D P Q : List UInt8) (a : Bool) (h : portV D = none) : authX S H (some D) P Q a = zeroU:=by
 unfold authX
 dsimp only
 rw [h]
theorem bad_port (S H : List UInt8) (n : Int) (P Q : List UInt8) (a : Bool) (h : 65535 < n) : goodL S H n P Q a = false:=by
 unfold goodL
 have e : decide (n ≤ 65535) = false:=decide_eq_false (by omega)
 rw [e,Bool.and_false,Bool.false_and,Bool.and_false,Bool.and_false,Bool.and_false]
theorem good_resI (k : Nat) (S H : List UInt8) (n : Int) (P Q : List UInt8) (a : Bool) (hS : S.length ≤ 1000) (hH : H.length ≤ 1000) (hP : P.length ≤ 1000) (hQ : Q.length ≤ 1000) (hk : 3000002 ≤ k) :
  ((impl_GoodUrl.f k (tx S) (tx H) n (tx P) (tx Q) a).bind fun t => if t = true then (some (tx S,tx H,n,tx P,tx Q,a,true)) else some ((⟨#[]⟩ : ByteArray),(⟨#[]⟩ : ByteArray),0,(⟨#[]⟩ : ByteArray),(⟨#[]⟩ : ByteArray),false,false)) = some (gRes S H n P Q a):=by
 rw [goodU_I k S H n P Q a (by omega) (by omega) (by omega) (by omega) hk,Option.bind_some]
 unfold gRes
 split <;> rfl
theorem good_resS (k : Nat) (S H : List UInt8) (n : Int) (P Q : List UInt8) (a : Bool) (hS : S.length ≤ 1000) (hH : H.length ≤ 1000) (hP : P.length ≤ 1000) (hQ : Q.length ≤ 1000) (hk : 9000002 ≤ k) :
  ((spec_GoodUrl.f k (tx S) (tx H) n (tx P) (tx Q) a).bind fun t => if t = true then (some (tx S,tx H,n,tx P,tx Q,a,true)) else some ((⟨#[]⟩ : ByteArray),(⟨#[]⟩ : ByteArray),0,(⟨#[]⟩ : ByteArray),(⟨#[]⟩ : ByteArray),false,false)) = some (gRes S H n P Q a):=by
 rw [goodU_S k S H n P Q a (by omega) (by omega) (by omega) (by omega) hk,Option.bind_some]
 unfold gRes
 split <;> rfl
theorem pathS_len (P : List UInt8) (h : P.length ≤ 200) : (pathS P).length ≤ 1000:=by
 unfold pathS
 split
 ·decide
 ·omega
theorem ask_len (Q : List UInt8) (a : Bool) (hq : a = false → Q = []) : Q.length ≤ (askL Q a).length:=by
 cases a with
 | true => unfold askL;rw [if_pos rfl,List.length_cons];omega
 | false => rw [hq rfl];exact Nat.zero_le _
theorem readX_I (k : Nat) (S H : List UInt8) (o : Option (List UInt8)) (P Q : List UInt8) (a : Bool) (c1 : Lib.cut (S ++ ([58,47,47] ++ (colL H o ++ P ++ askL Q a))) [58,47,47] = (S,colL H o ++ P ++ askL Q a,true)) (hl : (S ++ ([58,47,47] ++ (colL H o ++ P ++ askL Q a))).length ≤ 200) (hA : (47 : UInt8) ∉ colL H o) (hP : P = [] ∨ ∃ p,P = 47 :: p) (h63 : (63 : UInt8) ∉ colL H o ++ P) (hq : a = false → Q = []) (h58 : (58 : UInt8) ∉ H) (hk : 3000020 ≤ k) :
  impl_ReadUrl.f k (tx (S ++ ([58,47,47] ++ (colL H o ++ P ++ askL Q a)))) = some (authX S H o P Q a):=by
 have hlen : S.length + (3 + ((colL H o).length + P.length + (askL Q a).length)) ≤ 200:=by
  simp only [List.length_append] at hl
  exact hl
 have hQl:=ask_len Q a hq
 have hHl : H.length ≤ (colL H o).length:=by
  unfold colL
  cases o with
  | none => exact Nat.le_refl _
  | some D => rw [List.length_append];exact Nat.le_add_right _ _
 obtain ⟨R,hR⟩ : ∃ R,R = colL H o ++ P ++ askL Q a:=⟨_,rfl⟩
 have c2 : Lib.cut R [63] = (colL H o ++ P,Q,a):=by rw [hR];exact cut_ask _ _ _ h63 hq
 have hRl : R.length ≤ 200:=by rw [hR,List.length_append,List.length_append];omega
 rw [← hR] at c1 hl ⊢
 have hpl:=pathS_len P (by omega)
 obtain ⟨m,rfl⟩ : ∃ m,k = m + 5:=⟨k - 5,by omega⟩
 have e58 : (⟨#[58]⟩ : ByteArray) = tx [58]:=rfl
 have j2 : impl_ReadUrl.j2 (m + 3) (tx (colL H o)) (tx S) (⟨#[]⟩ : ByteArray) 0 (tx (pathS P)) (tx Q) a = some (authX S H o P Q a):=by
  unfold impl_ReadUrl.j2
  dsimp only
  cases o with
  | none =>
   rw [e58,cut_f (colL H none) [58] H [] false (by omega) (cut_none 58 H h58),Option.bind_some]
   dsimp only
   rw [if_neg (by decide)]
   exact good_resI (m + 2) S H 0 (pathS P) Q a (by omega) (by omega) hpl (by omega) (by omega)
  | some D =>
   have hD : D.length ≤ 200:=by
    have e : (colL H (some D)).length = H.length + (D.length + 1):=by unfold colL;rw [List.length_append,List.length_cons]
    omega
   rw [e58,cut_f (colL H (some D)) [58] H D true (by omega) (cut_at 58 H D h58),Option.bind_some]
   dsimp only
   rw [if_pos rfl]
   obtain ⟨v,ok,e1,e2,e3⟩:=number_I D (by omega)
   rw [e1,Option.bind_some]
   dsimp only
   have jt : impl_ReadUrl.j3 (m + 2) v true (tx S) (tx H) 0 (tx (pathS P)) (tx Q) a = some zeroU:=rfl
   have jf : impl_ReadUrl.j3 (m + 2) v false (tx S) (tx H) 0 (tx (pathS P)) (tx Q) a = some (gRes S H v (pathS P) Q a):=by
    unfold impl_ReadUrl.j3
    dsimp only
    rw [if_neg (by decide)]
    exact good_resI (m + 1) S H v (pathS P) Q a (by omega) (by omega) hpl (by omega) (by omega)
   cases hp : portV D with
   | some u =>
    obtain ⟨h1,h2⟩:=e3 u hp
    obtain ⟨_,_,h3⟩:=port_some D u hp
    have hv : (v == 0) = false:=beq_eq_false_iff_ne.mpr (by omega)
    rw [authX_yes S H D P Q a u hp,h1,if_pos rfl,hv,jf,h2]
   | none =>
    rw [authX_no S H D P Q a hp]
    cases ok with
    | false => rw [if_neg (by decide),jt]
    | true =>
     rw [if_pos rfl]
     by_cases c : v = 0
     ·rw [beq_iff_eq.mpr c,jt]
     ·rw [beq_eq_false_iff_ne.mpr c,jf]
      rcases e2 rfl c with ⟨u,h1,_⟩ | h1
      ·rw [hp] at h1;cases h1
      ·unfold gRes
       rw [bad_port S H v (pathS P) Q a h1,if_neg (by decide)]
 have j1 : impl_ReadUrl.j1 (m + 4) (tx (colL H o)) (tx S) (⟨#[]⟩ : ByteArray) 0 (tx P) (tx Q) a = some (authX S H o P Q a):=by
  unfold impl_ReadUrl.j1
  dsimp only
  rw [tx_toList]
  have e47 : (⟨#[47]⟩ : ByteArray) = tx [47]:=rfl
  by_cases c : P = []
  ·have : pathS P = [47]:=by unfold pathS;rw [if_pos c]
   rw [this] at j2
   rw [if_pos c,e47,j2]
  ·have : pathS P = P:=by unfold pathS;rw [if_neg c]
   rw [this] at j2
   rw [if_neg c,j2]
 unfold impl_ReadUrl.f
 have e1 : (⟨#[58,47,47]⟩ : ByteArray) = tx [58,47,47]:=rfl
 have e63 : (⟨#[63]⟩ : ByteArray) = tx [63]:=rfl
 rw [e1,cut_f _ _ S R true (by omega) c1,Option.bind_some]
 dsimp only
 rw [if_pos rfl,tx_size,decide_eq_false (by omega)]
 unfold impl_ReadUrl.j0
 dsimp only
 rw [if_neg (by decide),e63,cut_f R [63] _ _ _ (by omega) c2,Option.bind_some]
 dsimp only
 have h47 : ((47 : Int).toNat).toUInt8 = 47:=by decide
 rcases hP with hP | ⟨p,hP⟩
 ·subst hP
  have i2 : index_byte_in.f (tx (colL H o ++ [])) 47 = some (-1):=by
   unfold index_byte_in.f strings_IndexByte.f
   rw [tx_list,h47,indexB_none 47 _ (by rw [List.append_nil];exact hA)]
  rw [i2,Option.bind_some,if_neg (by decide),List.append_nil]
  exact j1
 ·subst hP
  have i2 : index_byte_in.f (tx (colL H o ++ 47 :: p)) 47 = some ((colL H o).length : Int):=by
   unfold index_byte_in.f strings_IndexByte.f
   rw [tx_list,h47,indexB_at 47 p (colL H o) hA]
  have hHp : (colL H o ++ 47 :: p).length = (colL H o).length + (p.length + 1):=by simp
  rw [i2,Option.bind_some,if_pos (by omega),if_pos (by omega),tx_size,if_pos (by omega),tx_cut,tx_cut]
  have t1 : ((colL H o ++ 47 :: p).drop 0).take (((colL H o).length : Int).toNat - 0) = colL H o:=by
   rw [List.drop_zero,Int.toNat_natCast,Nat.sub_zero,List.take_left]
  have t2 : ((colL H o ++ 47 :: p).drop ((colL H o).length : Int).toNat).take ((colL H o ++ 47 :: p).length - ((colL H o).length : Int).toNat) = 47 :: p:=by
   rw [Int.toNat_natCast,List.drop_left,List.take_of_length_le (by simp)]
  rw [t1,t2]
  exact j1
theorem authX_j (k : Nat) (S H : List UInt8) (o : Option (List UInt8)) (P Q : List UInt8) (a : Bool) (hSl : S.length ≤ 5) (hl : (colL H o ++ P ++ askL Q a).length ≤ 200) (h63 : (63 : UInt8) ∉ colL H o ++ P) (hq : a = false → Q = []) (h58 : (58 : UInt8) ∉ H) (hk : 9000010 ≤ k) :
  spec_l1Authority.j1 k (tx (colL H o ++ P ++ askL Q a)) ((colL H o).length : Int) (tx S) (⟨#[]⟩ : ByteArray) 0 (⟨#[]⟩ : ByteArray) (⟨#[]⟩ : ByteArray) false = some (authX S H o P Q a):=by
 obtain ⟨m,rfl⟩ : ∃ m,k = m + 2:=⟨k - 2,by omega⟩
 have hRl : (colL H o ++ P ++ askL Q a).length = (colL H o).length + P.length + (askL Q a).length:=by rw [List.length_append,List.length_append]
 have hQl:=ask_len Q a hq
 have hpl:=pathS_len P (by omega)
 have hHl : H.length ≤ (colL H o).length:=by
  unfold colL
  cases o with
  | none => exact Nat.le_refl _
  | some D => rw [List.length_append];exact Nat.le_add_right _ _
 have h63P : (63 : UInt8) ∉ P:=fun h => h63 (List.mem_append_right _ h)
 have hs : ((tx (colL H o ++ P ++ askL Q a)).size : Int) = ((colL H o).length : Int) + ((P.length + (askL Q a).length : Nat) : Int):=by rw [tx_size,hRl];omega
 have t1 : (tx (colL H o ++ P ++ askL Q a)).extract 0 ((colL H o).length : Int).toNat = tx (colL H o):=by
  rw [tx_cut,List.drop_zero,Int.toNat_natCast,Nat.sub_zero,List.append_assoc,List.take_left]
 have t2 : (tx (colL H o ++ P ++ askL Q a)).extract ((colL H o).length : Int).toNat (tx (colL H o ++ P ++ askL Q a)).size = tx (P ++ askL Q a):=by
  rw [tx_cut,tx_size,Int.toNat_natCast,List.append_assoc,List.drop_left,List.take_of_length_le (by simp)]
 have j2 : ∀ v : Int,spec_l1Authority.j2 (m + 1) (tx (colL H o ++ P ++ askL Q a)) ((colL H o).length : Int) (tx S) (tx H) v (⟨#[]⟩ : ByteArray) (⟨#[]⟩ : ByteArray) false = some (gRes S H v (pathS P) Q a):=fun v => by
  unfold spec_l1Authority.j2
  dsimp only
  rw [hs,if_pos (by omega),if_pos (by omega),t2,cutS_ask m P Q a h63P hq (by omega) (by omega) (by omega),Option.bind_some]
  dsimp only
  rw [tx_toList]
  have e47 : (⟨#[47]⟩ : ByteArray) = tx [47]:=rfl
  by_cases c : P = []
  ·have : pathS P = [47]:=by unfold pathS;rw [if_pos c]
   rw [if_pos c,e47,this]
   exact good_resS m S H v [47] Q a (by omega) (by omega) (by decide) (by omega) (by omega)
  ·have : pathS P = P:=by unfold pathS;rw [if_neg c]
   rw [if_neg c,this]
   exact good_resS m S H v P Q a (by omega) (by omega) (by omega) (by omega) (by omega)
 unfold spec_l1Authority.j1
 dsimp only
 rw [hs,if_pos (by omega),if_pos (by omega),t1]
 cases o with
 | none =>
  rw [show colL H none = H from rfl,cutS_none 58 58 rfl H (m + 1) h58 (by omega) (by omega),Option.bind_some]
  dsimp only
  rw [if_neg (by decide)]
  exact j2 0
 | some D =>
  have hD : (colL H (some D)).length = H.length + (D.length + 1):=by unfold colL;rw [List.length_append,List.length_cons]
  obtain ⟨v,e1,e2,e3⟩:=int_S D (by omega) (m + 1) (by omega)
  rw [show tx (colL H (some D)) = tx (H ++ 58 :: D) from rfl,cutS_at 58 58 rfl H D (m + 1) h58 (by omega) (by omega) (by omega),Option.bind_some]
  dsimp only
  rw [if_pos rfl,e1,Option.bind_some]
  cases hp : portV D with
  | some u =>
   have h2:=e3 u hp
   obtain ⟨_,_,h3⟩:=port_some D u hp
   rw [authX_yes S H D P Q a u hp,if_neg (by omega),j2 v,h2]
  | none =>
   rw [authX_no S H D P Q a hp]
   by_cases c : v ≤ 0
   ·rw [if_pos c];rfl
   ·obtain ⟨u,h1,_⟩:=e2 (by omega)
    rw [hp] at h1;cases h1
theorem authX_l (S H : List UInt8) (o : Option (List UInt8)) (P Q : List UInt8) (a : Bool) (hSl : S.length ≤ 5) (hl : (colL H o ++ P ++ askL Q a).length ≤ 200) (h63 : (63 : UInt8) ∉ colL H o ++ P) (hP : P = [] ∨ ∃ p,P = 47 :: p) (hA : (47 : UInt8) ∉ colL H o) (hq : a = false → Q = []) (h58 : (58 : UInt8) ∉ H) : ∀ (M pre : List UInt8) (k : Nat),colL H o = pre ++ M → 9000011 + M.length ≤ k →
  spec_l1Authority.l0 k (tx (colL H o ++ P ++ askL Q a)) (pre.length : Int) (tx S) (⟨#[]⟩ : ByteArray) 0 (⟨#[]⟩ : ByteArray) (⟨#[]⟩ : ByteArray) false = some (authX S H o P Q a)
 | M,pre,0,_,h => absurd h (by omega)
 | [],pre,k + 1,he,hk => by
  rw [List.append_nil] at he
  have j:=authX_j k S H o P Q a hSl hl h63 hq h58 (by simp at hk;omega)
  rw [he] at j ⊢
  unfold spec_l1Authority.l0
  by_cases c : P ++ askL Q a = []
  ·have hs : ((tx (pre ++ P ++ askL Q a)).size : Int) = (pre.length : Int):=by rw [List.append_assoc,c,List.append_nil,tx_size]
   rw [hs,if_neg (Int.lt_irrefl _)]
   exact j
  ·obtain ⟨b,r,hbr,hb⟩ : ∃ b r,P ++ askL Q a = b :: r ∧ (b = 47 ∨ b = 63):=by
    rcases hP with h | ⟨p,h⟩
    ·subst h
     cases a with
     | true => exact ⟨63,Q,rfl,Or.inr rfl⟩
     | false => exact absurd rfl c
    ·exact ⟨47,p ++ askL Q a,by rw [h];rfl,Or.inl rfl⟩
   have hx : pre ++ P ++ askL Q a = pre ++ b :: r:=by rw [List.append_assoc,hbr]
   rw [hx] at j ⊢
   have hs : ((tx (pre ++ b :: r)).size : Int) = (pre.length : Int) + 1 + (r.length : Int):=by rw [tx_size];simp;omega
   rw [hs,bt_at,if_pos (by omega),if_pos (by omega)]
   rcases hb with rfl | rfl
   ·rw [if_pos (show (((47 : UInt8).toNat : Nat) : Int) = 47 from rfl)]
    exact j
   ·rw [if_neg (show ¬ (((63 : UInt8).toNat : Nat) : Int) = 47 by decide),if_pos (show (((63 : UInt8).toNat : Nat) : Int) = 63 from rfl)]
    exact j
 | x :: M,pre,k + 1,he,hk => by
  have hx47 : x ≠ 47:=fun h => hA (by rw [he,h];simp)
  have hx63 : x ≠ 63:=fun h => h63 (by rw [he,h];simp)
  have e1 : pre ++ x :: M = pre ++ [x] ++ M:=by simp
  have ih:=authX_l S H o P Q a hSl hl h63 hP hA hq h58 M (pre ++ [x]) k (by rw [he,e1]) (by simp at hk;omega)
  have e2 : (((pre ++ [x]).length : Nat) : Int) = (pre.length : Int) + 1:=by simp
  rw [e2] at ih
  have e3 : colL H o ++ P ++ askL Q a = pre ++ x :: (M ++ P ++ askL Q a):=by rw [he];simp
  have hs : ((tx (colL H o ++ P ++ askL Q a)).size : Int) = (pre.length : Int) + 1 + ((M ++ P ++ askL Q a).length : Int):=by rw [e3,tx_size];simp;omega
  have e0 : bt (tx (colL H o ++ P ++ askL Q a)) (pre.length : Int) = (x.toNat : Int):=by rw [e3];exact bt_at pre _ x
  have hpl : pre.length ≤ 200:=by rw [e3] at hl;simp only [List.length_append] at hl;omega
  unfold spec_l1Authority.l0
  rw [hs,e0,if_pos (by omega),if_pos (by omega),if_neg (fun hh => hx47 (UInt8.toNat_inj.mp (by show x.toNat = 47;omega))),if_neg (fun hh => hx63 (UInt8.toNat_inj.mp (by show x.toNat = 63;omega))),w64 (by omega) (by omega),ih]
theorem authX_S (k : Nat) (S H : List UInt8) (o : Option (List UInt8)) (P Q : List UInt8) (a : Bool) (hSl : S.length ≤ 5) (hl : (colL H o ++ P ++ askL Q a).length ≤ 200) (h63 : (63 : UInt8) ∉ colL H o ++ P) (hP : P = [] ∨ ∃ p,P = 47 :: p) (hA : (47 : UInt8) ∉ colL H o) (hq : a = false → Q = []) (h58 : (58 : UInt8) ∉ H) (hk : 9000300 ≤ k) :
  spec_l1Authority.f k (tx S) (tx (colL H o ++ P ++ askL Q a)) = some (authX S H o P Q a):=by
 have hHl : (colL H o).length ≤ 200:=by simp only [List.length_append] at hl;omega
 exact authX_l S H o P Q a hSl hl h63 hP hA hq h58 (colL H o) [] k rfl (by omega)
theorem rest_all (R : List UInt8) : ∃ H o P Q a,R = colL H o ++ P ++ askL Q a ∧ (47 : UInt8) ∉ colL H o ∧ (P = [] ∨ ∃ p,P = 47 :: p) ∧ (63 : UInt8) ∉ colL H o ++ P ∧ (a = false → Q = []) ∧ (58 : UInt8) ∉ H:=by
 obtain ⟨T,Q,a,h1,h2,h3⟩:=ask_dec R
 obtain ⟨A,P,h4,h5,h6⟩:=path_dec T
 obtain ⟨H,o,h7,h8⟩:=col_dec A
 subst h7 h4
 exact ⟨H,o,P,Q,a,h1,h5,h6,h2,h3,h8⟩
theorem okS (S H : List UInt8) (n : Int) (P Q : List UInt8) (a : Bool) (hg : goodL S H n P Q a = true) : (S = [104,116,116,112] ∨ S = [104,116,116,112,115]) ∧ (∃ p,P = 47 :: p) ∧ S.length ≤ 5 ∧ H.length ≤ 60 ∧ P.length ≤ 200 ∧ Q.length ≤ 200 ∧ 0 ≤ n ∧ n ≤ 65535:=by
 unfold goodL tailB at hg
 simp only [Bool.and_eq_true,decide_eq_true_eq] at hg
 obtain ⟨hsch,⟨hh0,hh1⟩,hH2,⟨hn0,hn1⟩,hsl,hpP,hpQ,haq,hlen⟩:=hg
 have hS : S = [104,116,116,112] ∨ S = [104,116,116,112,115]:=by
  unfold schB at hsch
  simpa only [Bool.or_eq_true,decide_eq_true_eq] using hsch
 have hl : P.length + (askL Q a).length ≤ 200:=by
  unfold textL at hlen
  simp only [List.length_append] at hlen
  omega
 refine ⟨hS,?_,by rcases hS with h | h <;> rw [h] <;> decide,by omega,by omega,?_,hn0,hn1⟩
 ·unfold slash at hsl
  cases P with
  | nil => cases hsl
  | cons b r => exact ⟨r,by rw [beq_iff_eq.mp hsl]⟩
 ·cases a with
  | true => unfold askL at hl;rw [if_pos rfl,List.length_cons] at hl;omega
  | false =>
   have : Q = []:=by simpa using haq
   rw [this];simp
theorem resolveI_end (k : Nat) (S H : List UInt8) (n : Int) (p Q : List UInt8) (a : Bool) (hS : S.length ≤ 3000000) (hH : H.length ≤ 3000000) (hp : p.length ≤ 2000000) (hQ : Q.length ≤ 3000000) (hk : 20000000 ≤ k) :
  ((impl_dropDots.f k (tx (47 :: p))).bind fun t318 => ((impl_GoodUrl.f k (tx S) (tx H) n t318 (tx Q) a).bind fun t319 => (if t319 = true then (some (tx S,tx H,n,t318,tx Q,a,true)) else (some ((⟨#[]⟩ : ByteArray),(⟨#[]⟩ : ByteArray),0,(⟨#[]⟩ : ByteArray),(⟨#[]⟩ : ByteArray),false,false))))) = some (gRes S H n (dropL p) Q a):=by
 have hl:=dropL_len p
 rw [drop_I p (by omega) k hk,Option.bind_some,goodU_I k S H n (dropL p) Q a hS hH (by omega) hQ (by omega),Option.bind_some]
 unfold gRes
 split <;> rfl
theorem resolveS_end (k : Nat) (S H : List UInt8) (n : Int) (p Q : List UInt8) (a : Bool) (hS : S.length ≤ 3000000) (hH : H.length ≤ 3000000) (hp : p.length ≤ 2000000) (hQ : Q.length ≤ 3000000) (hk : 20000001 ≤ k) :
  spec_ResolveUrl.j4 k true (tx S) (tx H) n (tx (47 :: p)) (tx Q) a = some (gRes S H n (dropL p) Q a):=by
 obtain ⟨m,rfl⟩ : ∃ m,k = m + 1:=⟨k - 1,by omega⟩
 have hl:=dropL_len p
 unfold spec_ResolveUrl.j4
 dsimp only
 rw [if_pos rfl,drop_S p (by omega) m (by omega),Option.bind_some,goodU_S m S H n (dropL p) Q a hS hH (by omega) hQ (by omega),Option.bind_some]
 unfold gRes
 split <;> rfl
theorem list_rev_ind {motive : List UInt8 → Prop} (nil : motive []) (append_singleton : ∀ (M : List UInt8) (x : UInt8),motive M → motive (M ++ [x])) (l : List UInt8) : motive l:=by
 have key : ∀ (n : Nat) (l : List UInt8),l.length = n → motive l:=by
  intro n
  induction n with
  | zero => intro l h;rw [List.eq_nil_of_length_eq_zero h];exact nil
  | succ n ih =>
   intro l h
   rcases List.eq_nil_or_concat l with h1 | ⟨L,b,h1⟩
   ·rw [h1] at h;cases h
   ·rw [List.concat_eq_append] at h1
    rw [h1]
    exact append_singleton L b (ih L (by rw [h1,List.length_append,List.length_singleton] at h;omega))
 exact key l.length l rfl
theorem last_at (c : UInt8) : ∀ l : List UInt8,c ∈ l → ∃ a b,l = a ++ c :: b ∧ c ∉ b
 | [],h => by cases h
 | x :: l,h => by
  by_cases hm : c ∈ l
  ·obtain ⟨a,b,h1,h2⟩:=last_at c l hm
   exact ⟨x :: a,b,by rw [h1];rfl,h2⟩
  ·have : c = x:=(List.mem_cons.mp h).resolve_right hm
   exact ⟨[],l,by rw [this];rfl,hm⟩
theorem lastI_l (c : UInt8) (ci : Int) (hc : ci = (c.toNat : Int)) (A T : List UInt8) : ∀ (M : List UInt8) (K : Nat),c ∉ M → (A ++ c :: M ++ T).length ≤ 90000000 → M.length + 1 < K → bytealg_LastIndexByteString.l0 K (tx (A ++ c :: M ++ T)) ci (((A ++ c :: M).length : Int) - 1) = some (A.length : Int):=by
 intro M
 induction M using list_rev_ind generalizing T with
 | nil =>
  intro K hM hl hK
  cases K with
  | zero => omega
  | succ K =>
   have e : A ++ [c] ++ T = A ++ c :: T:=by simp
   have e2 : (((A ++ [c]).length : Nat) : Int) - 1 = (A.length : Int):=by simp
   have hs : ((tx (A ++ c :: T)).size : Int) = (A.length : Int) + 1 + (T.length : Int):=by rw [tx_size];simp;omega
   unfold bytealg_LastIndexByteString.l0
   rw [e,e2,hs,bt_at,if_pos (by omega),if_pos (by omega),if_pos (by omega),if_pos hc.symm]
 | append_singleton M x ih =>
  intro K hM hl hK
  cases K with
  | zero => omega
  | succ K =>
   have hx : x ≠ c:=fun h => hM (by rw [h];simp)
   have hM2 : c ∉ M:=fun h => hM (List.mem_append_left _ h)
   have e : A ++ c :: (M ++ [x]) ++ T = (A ++ c :: M) ++ x :: T:=by simp
   have e2 : (((A ++ c :: (M ++ [x])).length : Nat) : Int) - 1 = ((A ++ c :: M).length : Int):=by simp;omega
   have hs : ((tx ((A ++ c :: M) ++ x :: T)).size : Int) = ((A ++ c :: M).length : Int) + 1 + (T.length : Int):=by rw [tx_size];simp;omega
   have e3 : A ++ c :: M ++ x :: T = A ++ c :: M ++ (x :: T):=rfl
   have ih2:=ih (x :: T) K hM2 (by rw [e] at hl;exact hl) (by simp at hK;omega)
   have hAl : ((A ++ c :: M).length : Int) ≤ 90000000:=by
    rw [e,List.length_append] at hl;omega
   unfold bytealg_LastIndexByteString.l0
   rw [e,e2,hs,bt_at,if_pos (by omega),if_pos (by omega),if_pos (by omega),if_neg (fun hh => hx (UInt8.toNat_inj.mp (by omega))),w64 (by omega) (by omega)]
   exact ih2
theorem lastI (A M : List UInt8) (k : Nat) (hM : (47 : UInt8) ∉ M) (hl : (A ++ 47 :: M).length ≤ 3000000) (hk : 3000010 ≤ k) : strings_LastIndexByte.f k (tx (A ++ 47 :: M)) 47 = some (A.length : Int):=by
 unfold strings_LastIndexByte.f bytealg_LastIndexByteString.f
 have:=lastI_l 47 47 rfl A [] M k hM (by rw [List.append_nil];omega) (by simp at hl;omega)
 rw [List.append_nil] at this
 rw [tx_size,w64 (by omega) (by omega),this];rfl
theorem lastS (A T R : List UInt8) (S H : List UInt8) (n : Int) (Q : List UInt8) (a : Bool) (X1 X2 : ByteArray) (X3 : Int) (X5 : ByteArray) (X6 : Bool) (hR : R.length ≤ 200) (hS : S.length ≤ 3000000) (hH : H.length ≤ 3000000) (hQ : Q.length ≤ 3000000) (p : List UInt8) (hp : A ++ [47] ++ R = 47 :: p) : ∀ (M : List UInt8) (K : Nat),(47 : UInt8) ∉ M → (A ++ 47 :: M ++ T).length ≤ 600 → M.length + 20000002 < K →
  spec_ResolveUrl.l0 K (tx R) ((A ++ 47 :: M).length : Int) X1 X2 X3 (tx (A ++ 47 :: M ++ T)) X5 X6 (tx S) (tx H) n (tx (A ++ 47 :: M ++ T)) (tx Q) a = some (gRes S H n (dropL p) Q a):=by
 intro M
 induction M using list_rev_ind generalizing T with
 | nil =>
  intro K hM hl hK
  cases K with
  | zero => omega
  | succ K =>
   have hAl : A.length ≤ 600:=by simp only [List.length_append] at hl;omega
   have e : A ++ [47] ++ T = A ++ 47 :: T:=by simp
   have e2 : (((A ++ [47]).length : Nat) : Int) = (A.length : Int) + 1:=by simp
   have hs : ((tx (A ++ 47 :: T)).size : Int) = (A.length : Int) + 1 + (T.length : Int):=by rw [tx_size];simp;omega
   have hc : (tx (A ++ 47 :: T)).extract 0 ((A.length : Int) + 1).toNat = tx (A ++ [47]):=by
    have h1 : ((A.length : Int) + 1).toNat = (A ++ [47]).length:=by simp
    rw [tx_cut,h1,← e,List.drop_zero,Nat.sub_zero,List.take_left]
   have hw : wrap64 ((A.length : Int) + 1 - 1) = (A.length : Int):=by rw [w64 (by omega) (by omega)];omega
   unfold spec_ResolveUrl.l0
   rw [e,e2,hw,hs,bt_at,if_pos (by omega),if_pos (by omega),if_pos (show (((47 : UInt8).toNat : Nat) : Int) = 47 from rfl),if_pos (by omega),if_pos (by omega),hc,tx_size,tx_size,if_pos (by simp;omega),tx_app,hp]
   have hpl : p.length ≤ 2000000:=by
    have : (47 :: p).length = (A ++ [47] ++ R).length:=by rw [hp]
    simp only [List.length_append,List.length_cons,List.length_nil] at this
    omega
   exact resolveS_end K S H n p Q a hS hH hpl hQ (by omega)
 | append_singleton M x ih =>
  intro K hM hl hK
  cases K with
  | zero => omega
  | succ K =>
   have hx : x ≠ 47:=fun h => hM (by rw [h];simp)
   have hM2 : (47 : UInt8) ∉ M:=fun h => hM (List.mem_append_left _ h)
   have e : A ++ 47 :: (M ++ [x]) ++ T = (A ++ 47 :: M) ++ x :: T:=by simp
   have e2 : (((A ++ 47 :: (M ++ [x])).length : Nat) : Int) = ((A ++ 47 :: M).length : Int) + 1:=by simp;omega
   have hs : ((tx ((A ++ 47 :: M) ++ x :: T)).size : Int) = ((A ++ 47 :: M).length : Int) + 1 + (T.length : Int):=by rw [tx_size];simp;omega
   have ih2:=ih (x :: T) K hM2 (by rw [e] at hl;exact hl) (by simp at hK;omega)
   have hAl : ((A ++ 47 :: M).length : Int) ≤ 600:=by
    rw [e,List.length_append] at hl;omega
   have hw : wrap64 (((A ++ 47 :: M).length : Int) + 1 - 1) = ((A ++ 47 :: M).length : Int):=by rw [w64 (by omega) (by omega)];omega
   unfold spec_ResolveUrl.l0
   rw [e,e2,hw,hs,bt_at,if_pos (by omega),if_pos (by omega),if_neg (fun hh => hx (UInt8.toNat_inj.mp (by show x.toNat = 47;omega)))]
   exact ih2
def Form (X : ByteArray × ByteArray × Int × ByteArray × ByteArray × Bool × Bool) : Prop:=X = zeroU ∨ ∃ S H n P Q a,goodL S H n P Q a = true ∧ X = (tx S,tx H,n,tx P,tx Q,a,true)
theorem form_g (S H : List UInt8) (n : Int) (P Q : List UInt8) (a : Bool) : Form (gRes S H n P Q a):=by
 unfold gRes
 cases hg : goodL S H n P Q a with
 | true => rw [if_pos rfl];exact Or.inr ⟨S,H,n,P,Q,a,hg,rfl⟩
 | false => rw [if_neg (by decide)];exact Or.inl rfl
theorem gRes_no (S H : List UInt8) (n : Int) (P Q : List UInt8) (a : Bool) (h : goodL S H n P Q a = false) : gRes S H n P Q a = zeroU:=by
 unfold gRes
 rw [h,if_neg (by decide)]
theorem form_a (S H : List UInt8) (o : Option (List UInt8)) (P Q : List UInt8) (a : Bool) : Form (authX S H o P Q a):=by
 cases o with
 | none => exact form_g S H 0 (pathS P) Q a
 | some D =>
  cases hp : portV D with
  | some u => rw [authX_yes S H D P Q a u hp];exact form_g ..
  | none => rw [authX_no S H D P Q a hp];exact Or.inl rfl
theorem authX_bad (S H : List UInt8) (o : Option (List UInt8)) (P Q : List UInt8) (a : Bool) (h : ∀ n,goodL S H n (pathS P) Q a = false) : authX S H o P Q a = zeroU:=by
 cases o with
 | none => exact gRes_no _ _ _ _ _ _ (h 0)
 | some D =>
  cases hp : portV D with
  | some u => rw [authX_yes S H D P Q a u hp];exact gRes_no _ _ _ _ _ _ (h _)
  | none => exact authX_no S H D P Q a hp
theorem authX_long (S H : List UInt8) (o : Option (List UInt8)) (P Q : List UInt8) (a : Bool) (h : 200 < S.length + 3 + (colL H o ++ P ++ askL Q a).length) : authX S H o P Q a = zeroU:=by
 have hp : P.length ≤ (pathS P).length:=by
  unfold pathS
  split
  ·rename_i h0;rw [h0];exact Nat.zero_le _
  ·exact Nat.le_refl _
 rw [List.length_append,List.length_append] at h
 have key : ∀ n,H.length + (portL n).length = (colL H o).length → goodL S H n (pathS P) Q a = false:=fun n hn => by
  refine Bool.eq_false_iff.mpr fun hg => ?_
  unfold goodL tailB at hg
  simp only [Bool.and_eq_true,decide_eq_true_eq] at hg
  obtain ⟨_,_,_,_,_,_,_,_,hlen⟩:=hg
  rw [text_len] at hlen
  omega
 cases o with
 | none => exact gRes_no _ _ _ _ _ _ (key 0 rfl)
 | some D =>
  cases hp : portV D with
  | none => exact authX_no S H D P Q a hp
  | some u =>
   rw [authX_yes S H D P Q a u hp]
   obtain ⟨_,h2,h3⟩:=port_some D u hp
   refine gRes_no _ _ _ _ _ _ (key _ ?_)
   unfold portL colL
   rw [if_neg (by omega),Lib.itoa_nonneg,h2,List.length_append]
theorem readI_zero (k : Nat) (l S R : List UInt8) (f : Bool) (hc : Lib.cut l [58,47,47] = (S,R,f)) (hl : l.length ≤ 80000000) (h : f = false ∨ 200 < l.length) : impl_ReadUrl.f (k + 1) (tx l) = some zeroU:=by
 have e1 : (⟨#[58,47,47]⟩ : ByteArray) = tx [58,47,47]:=rfl
 unfold impl_ReadUrl.f
 rw [e1,cut_f l _ S R f (by omega) hc,Option.bind_some]
 dsimp only
 cases f with
 | false =>
  rw [if_neg (by decide)]
  unfold impl_ReadUrl.j0
  dsimp only
  rw [if_pos rfl];rfl
 | true =>
  have h2 : 200 < l.length:=h.resolve_left (by decide)
  rw [if_pos rfl,tx_size,decide_eq_true (by omega)]
  unfold impl_ReadUrl.j0
  dsimp only
  rw [if_pos rfl];rfl
theorem ext_hit (sch R : List UInt8) : (tx (sch ++ ([58,47,47] ++ R))).extract 0 ((sch.length : Int) + 3).toNat = tx (sch ++ [58,47,47]):=by
 have e : ((sch.length : Int) + 3).toNat = (sch ++ [58,47,47]).length:=by rw [List.length_append];simp;omega
 rw [tx_cut,e,← List.append_assoc,List.drop_zero,Nat.sub_zero,List.take_left]
theorem ext_rest (sch R : List UInt8) : (tx (sch ++ ([58,47,47] ++ R))).extract ((sch.length : Int) + 3).toNat (tx (sch ++ ([58,47,47] ++ R))).size = tx R:=by
 have e : ((sch.length : Int) + 3).toNat = (sch ++ [58,47,47]).length:=by rw [List.length_append];simp;omega
 rw [tx_cut,tx_size,e,← List.append_assoc,List.drop_left,List.take_of_length_le (by simp;omega)]
theorem read_l (k : Nat) (l sch : List UInt8) (L : List ByteArray) (i : Int) (h0 : 0 ≤ i) (h1 : i < (L.length : Int)) (hr : rdOf ByteArray.empty L i = tx sch) (hs : sch.length ≤ 5) :
  (∀ R,R ≠ [] → l = sch ++ ([58,47,47] ++ R) → spec_l1Read.l0 (k + 1) (tx l) L (L.length : Int) i = spec_l1Authority.f k (tx sch) (tx R)) ∧ ((¬ ∃ R,R ≠ [] ∧ l = sch ++ ([58,47,47] ++ R)) → spec_l1Read.l0 (k + 1) (tx l) L (L.length : Int) i = spec_l1Read.l0 k (tx l) L (L.length : Int) (wrap64 (i + 1))):=by
 have w : wrap64 (((tx sch).size : Int) + 3) = (sch.length : Int) + 3:=by rw [tx_size,w64 (by omega) (by omega)]
 have e1 : (⟨#[58,47,47]⟩ : ByteArray) = tx [58,47,47]:=rfl
 constructor
 ·rintro R hR rfl
  have hR2 : 0 < R.length:=List.length_pos_iff.mpr hR
  have hz : ((tx (sch ++ ([58,47,47] ++ R))).size : Int) = (sch.length : Int) + 3 + (R.length : Int):=by rw [tx_size];simp;omega
  unfold spec_l1Read.l0
  rw [if_pos h1,if_pos h0,if_pos h1,hr,w,hz,if_pos (by omega),if_pos (by omega),if_pos (by omega),if_pos (by rw [tx_size];omega),ext_hit,e1,tx_app,if_pos rfl,ext_rest]
  cases spec_l1Authority.f k (tx sch) (tx R) <;> rfl
 ·intro hn
  conv => lhs;unfold spec_l1Read.l0
  rw [if_pos h1,if_pos h0,if_pos h1,hr,w]
  by_cases c : ((tx l).size : Int) > (sch.length : Int) + 3
  ·rw [if_pos c,if_pos (by omega),if_pos (by omega),if_pos (by rw [tx_size];omega),if_neg ?_]
   intro hh
   rw [e1,tx_app,tx_cut,tx_toList,tx_toList,List.drop_zero,Nat.sub_zero] at hh
   rw [tx_size] at c
   refine hn ⟨l.drop ((sch.length : Int) + 3).toNat,fun h => ?_,?_⟩
   ·have:=congrArg List.length h
    rw [List.length_drop,List.length_nil] at this
    omega
   ·rw [← List.append_assoc,← hh,List.take_append_drop]
  ·rw [if_neg c]
def schL : List ByteArray:=[(⟨#[104,116,116,112]⟩ : ByteArray),(⟨#[104,116,116,112,115]⟩ : ByteArray)]
theorem goodL_S (S H : List UInt8) (n : Int) (P Q : List UInt8) (a : Bool) (h : goodL S H n P Q a = true) : (S = [104,116,116,112] ∨ S = [104,116,116,112,115]) ∧ H ≠ []:=by
 unfold goodL schB at h
 simp only [Bool.and_eq_true,Bool.or_eq_true,decide_eq_true_eq] at h
 refine ⟨h.1,fun hh => ?_⟩
 have:=h.2.1.1
 rw [hh] at this
 exact absurd this (by decide)
theorem read_both (l : List UInt8) (hl : l.length ≤ 200) : ∃ X,Form X ∧ (∀ k,3000020 ≤ k → impl_ReadUrl.f k (tx l) = some X) ∧ ∀ k,9000400 ≤ k → spec_l1Read.f k (tx l) = some X:=by
 have key : ∀ k,spec_l1Read.f k (tx l) = spec_l1Read.l0 k (tx l) schL (schL.length : Int) 0:=fun k => by
  unfold spec_l1Read.f
  rw [if_neg (by rw [tx_size];omega)];rfl
 have A0:=fun k => read_l k l [104,116,116,112] schL 0 (by decide) (by decide) rfl (by decide)
 have A1:=fun k => read_l k l [104,116,116,112,115] schL 1 (by decide) (by decide) rfl (by decide)
 have w1 : wrap64 (0 + 1) = 1:=w64 (by decide) (by decide)
 have w2 : wrap64 (1 + 1) = 2:=w64 (by decide) (by decide)
 have fin : ∀ k,spec_l1Read.l0 (k + 1) (tx l) schL (schL.length : Int) 2 = some zeroU:=fun k => by
  unfold spec_l1Read.l0
  rw [if_neg (by decide)];rfl
 have sp : ∀ (X : ByteArray × ByteArray × Int × ByteArray × ByteArray × Bool × Bool),(∀ m,9000300 ≤ m → spec_l1Read.l0 (m + 3) (tx l) schL (schL.length : Int) 0 = some X) → ∀ k,9000400 ≤ k → spec_l1Read.f k (tx l) = some X:=fun X h k hk => by
  obtain ⟨m,rfl⟩ : ∃ m,k = m + 3:=⟨k - 3,by omega⟩
  rw [key]
  exact h m (by omega)
 by_cases h1 : ∃ R,R ≠ [] ∧ l = [104,116,116,112] ++ ([58,47,47] ++ R)
 ·obtain ⟨R,hR,e⟩:=h1
  obtain ⟨H,o,P,Q,a,e2,g47,gP,g63,gq,g58⟩:=rest_all R
  have hRl : R.length ≤ 200:=by rw [e] at hl;simp only [List.length_append] at hl;omega
  refine ⟨_,form_a [104,116,116,112] H o P Q a,fun k hk => ?_,sp _ fun m hm => ?_⟩
  ·rw [e,e2] at hl ⊢
   exact readX_I k _ H o P Q a (cut_http _) hl g47 gP g63 gq g58 hk
  ·rw [(A0 (m + 2)).1 R hR e]
   rw [e2] at hRl ⊢
   exact authX_S (m + 2) _ H o P Q a (by decide) hRl g63 gP g47 gq g58 (by omega)
 by_cases h2 : ∃ R,R ≠ [] ∧ l = [104,116,116,112,115] ++ ([58,47,47] ++ R)
 ·obtain ⟨R,hR,e⟩:=h2
  obtain ⟨H,o,P,Q,a,e2,g47,gP,g63,gq,g58⟩:=rest_all R
  have hRl : R.length ≤ 200:=by rw [e] at hl;simp only [List.length_append] at hl;omega
  refine ⟨_,form_a [104,116,116,112,115] H o P Q a,fun k hk => ?_,sp _ fun m hm => ?_⟩
  ·rw [e,e2] at hl ⊢
   exact readX_I k _ H o P Q a (cut_https _) hl g47 gP g63 gq g58 hk
  ·rw [(A0 (m + 2)).2 h1,w1,(A1 (m + 1)).1 R hR e]
   rw [e2] at hRl ⊢
   exact authX_S (m + 1) _ H o P Q a (by decide) hRl g63 gP g47 gq g58 (by omega)
 ·refine ⟨zeroU,Or.inl rfl,fun k hk => ?_,sp _ fun m hm => ?_⟩
  ·obtain ⟨S,R,f,hc⟩ : ∃ S R f,Lib.cut l [58,47,47] = (S,R,f):=⟨_,_,_,rfl⟩
   cases f with
   | false =>
    obtain ⟨m,rfl⟩ : ∃ m,k = m + 1:=⟨k - 1,by omega⟩
    exact readI_zero m l S R false hc (by omega) (Or.inl rfl)
   | true =>
    have e:=cut_join l _ S R hc
    obtain ⟨H,o,P,Q,a,e2,g47,gP,g63,gq,g58⟩:=rest_all R
    have bad : authX S H o P Q a = zeroU:=authX_bad S H o P Q a fun n => by
     refine Bool.eq_false_iff.mpr fun hg => ?_
     obtain ⟨hS,hH⟩:=goodL_S _ _ _ _ _ _ hg
     have hR : R ≠ []:=fun hR => hH (by
      rw [hR] at e2
      cases o with
      | none =>
       have:=e2.symm
       rw [List.append_eq_nil_iff,List.append_eq_nil_iff] at this
       exact this.1.1
      | some D =>
       have:=e2.symm
       rw [List.append_eq_nil_iff,List.append_eq_nil_iff] at this
       exact absurd this.1.1 (by unfold colL;simp))
     rcases hS with rfl | rfl
     ·exact h1 ⟨R,hR,e⟩
     ·exact h2 ⟨R,hR,e⟩
    rw [← bad]
    rw [e,e2] at hc hl ⊢
    exact readX_I k S H o P Q a hc hl g47 gP g63 gq g58 hk
  ·rw [(A0 (m + 2)).2 h1,w1,(A1 (m + 1)).2 h2,w2]
   exact fin m
def dbl (l : List UInt8) : Bool:=l.take 2 == [47,47]
theorem dbl_yes (l : List UInt8) (h : dbl l = true) : ∃ r,l = 47 :: 47 :: r:=by
 unfold dbl at h
 have h2:=beq_iff_eq.mp h
 match l,h2 with
 | [],h2 => cases h2
 | [x],h2 => simp at h2
 | x :: y :: r,h2 => simp at h2;exact ⟨r,by rw [h2.1,h2.2]⟩
theorem prefix2_f (l : List UInt8) (h : l.length ≤ 3000000) : strings_HasPrefix.f (tx l) (⟨#[47,47]⟩ : ByteArray) = some (dbl l):=by
 unfold strings_HasPrefix.f stringslite_HasPrefix.f
 have e : (⟨#[47,47]⟩ : ByteArray) = tx [47,47]:=rfl
 have e2 : ((tx [47,47]).size : Int) = 2:=rfl
 rw [e,e2,tx_size,tx_toList [47,47]]
 by_cases c : (l.length : Int) ≥ 2
 ·have hx : (tx l).extract 0 (2 : Int).toNat = tx (l.take 2):=by rw [tx_cut];rfl
  rw [if_pos c,if_pos (by decide),if_pos c,Option.bind_some,hx,tx_toList];rfl
 ·have : dbl l = false:=by
   unfold dbl
   refine beq_eq_false_iff_ne.mpr fun hh => c ?_
   have : (l.take 2).length = 2:=by rw [hh];rfl
   rw [List.length_take] at this
   omega
  rw [if_neg c,Option.bind_some,this]
theorem hpi (a b : ByteArray) : has_prefix_in.f a b = strings_HasPrefix.f a b:=rfl
theorem fa (x y : Nat) : 0 ≤ (x : Int) + 1 ∧ (x : Int) + 1 ≤ (x : Int) + 1 + (y : Int):=by omega
theorem room3 (x y : Nat) (h1 : x ≤ 3000000) (h2 : y ≤ 3000000) : x + y ≤ 9223372036854775807:=by omega
theorem resolve_both (m : Nat) (hm : 40000000 ≤ m) (S H : List UInt8) (n : Int) (P Q : List UInt8) (a : Bool) (r : List UInt8) (hg : goodL S H n P Q a = true) (hl : r.length ≤ 1100000) :
  ∃ X,Form X ∧ impl_ResolveUrl.f (m + 10) (tx S) (tx H) n (tx P) (tx Q) a (tx r) = some X ∧ (r ≠ [] → r.length ≤ 200 → spec_ResolveUrl.f (m + 10) (tx S) (tx H) n (tx P) (tx Q) a (tx r) = some X):=by
 obtain ⟨hS,⟨p,rfl⟩,hSl,hHl,hPl,hQl,hn0,hn1⟩:=okS S H n P Q a hg
 have gI:=goodU_I (m + 10) S H n (47 :: p) Q a (by omega) (by omega) (by omega) (by omega) (by omega)
 have gS:=goodU_S (m + 10) S H n (47 :: p) Q a (by omega) (by omega) (by omega) (by omega) (by omega)
 rw [hg] at gI gS
 by_cases hr : r = []
 ·refine ⟨_,Or.inr ⟨S,H,n,47 :: p,Q,a,hg,rfl⟩,?_,fun h => absurd hr h⟩
  unfold impl_ResolveUrl.f
  rw [gI,Option.bind_some,if_pos rfl,tx_toList,if_pos hr]
 obtain ⟨XR,fR,rI,rS⟩ : ∃ X,Form X ∧ impl_ReadUrl.f (m + 10) (tx r) = some X ∧ (r.length ≤ 200 → spec_l1Read.f (m + 9) (tx r) = some X):=by
  by_cases c : r.length ≤ 200
  ·obtain ⟨X,h1,h2,h3⟩:=read_both r c
   exact ⟨X,h1,h2 _ (by omega),fun _ => h3 _ (by omega)⟩
  ·obtain ⟨A,B,f,hc⟩ : ∃ A B f,Lib.cut r [58,47,47] = (A,B,f):=⟨_,_,_,rfl⟩
   exact ⟨zeroU,Or.inl rfl,readI_zero (m + 9) r A B f hc (by omega) (Or.inr (by omega)),fun h => absurd h c⟩
 have pf:=prefix2_f r (by omega)
 have h2sz : ((tx r).size : Int) = (r.length : Int):=by rw [tx_size]
 have im : ∀ w z,impl_resolved.f (m + 10) (tx S) (tx H) n (tx (47 :: p)) (tx Q) a (tx r) = some w → (if w.2.2.2.2.2.2 = true then ((impl_dropDots.f (m + 10) w.2.2.2.1).bind fun t318 => ((impl_GoodUrl.f (m + 10) w.1 w.2.1 w.2.2.1 t318 w.2.2.2.2.1 w.2.2.2.2.2.1).bind fun t319 => (if t319 = true then (some (w.1,w.2.1,w.2.2.1,t318,w.2.2.2.2.1,w.2.2.2.2.2.1,true)) else (some ((⟨#[]⟩ : ByteArray),(⟨#[]⟩ : ByteArray),0,(⟨#[]⟩ : ByteArray),(⟨#[]⟩ : ByteArray),false,false))))) else (some ((⟨#[]⟩ : ByteArray),(⟨#[]⟩ : ByteArray),0,(⟨#[]⟩ : ByteArray),(⟨#[]⟩ : ByteArray),false,false))) = some z → impl_ResolveUrl.f (m + 10) (tx S) (tx H) n (tx (47 :: p)) (tx Q) a (tx r) = some z:=fun w z h1 h2 => by
  unfold impl_ResolveUrl.f
  rw [gI,Option.bind_some,if_pos rfl,tx_toList,if_neg hr,h1,Option.bind_some]
  exact h2
 rcases fR with rfl | ⟨S2,H2,n2,P2,Q2,a2,g2,rfl⟩
 case inr =>
  obtain ⟨_,⟨p2,rfl⟩,zSl,zHl,zPl,zQl,_,_⟩:=okS S2 H2 n2 P2 Q2 a2 g2
  have hp2 : p2.length ≤ 200:=by rw [List.length_cons] at zPl;omega
  refine ⟨_,form_g S2 H2 n2 (dropL p2) Q2 a2,im (tx S2,tx H2,n2,tx (47 :: p2),tx Q2,a2,true) _ ?_ (resolveI_end (m + 10) S2 H2 n2 p2 Q2 a2 (by omega) (by omega) (by omega) (by omega) (by omega)),fun _ h200 => ?_⟩
  ·unfold impl_resolved.f
   rw [rI,Option.bind_some]
   dsimp only
   rw [if_pos rfl]
  ·have hsz : decide (((tx r).size : Int) > 200) = false:=by rw [tx_size];exact decide_eq_false (by omega)
   unfold spec_ResolveUrl.f
   rw [gS,Option.bind_some,if_pos rfl,hsz]
   unfold spec_ResolveUrl.j0
   dsimp only
   rw [if_neg (by decide),tx_toList,if_neg hr,rS h200,Option.bind_some]
   dsimp only
   rw [if_pos rfl]
   exact resolveS_end (m + 9) S2 H2 n2 p2 Q2 a2 (by omega) (by omega) (by omega) (by omega) (by omega)
 case inl =>
 have sp : ∀ z,r.length ≤ 200 → spec_ResolveUrl.j1 (m + 9) (tx r) (dbl r) (tx S) (tx H) n (tx (47 :: p)) (tx Q) a = some z → spec_ResolveUrl.f (m + 10) (tx S) (tx H) n (tx (47 :: p)) (tx Q) a (tx r) = some z:=fun z h200 hz => by
  have hsz : decide (((tx r).size : Int) > 200) = false:=by rw [tx_size];exact decide_eq_false (by omega)
  unfold spec_ResolveUrl.f
  rw [gS,Option.bind_some,if_pos rfl,hsz]
  unfold spec_ResolveUrl.j0
  dsimp only
  rw [if_neg (by decide),tx_toList,if_neg hr,rS h200,Option.bind_some]
  show (if (false = true) then _ else _) = _
  rw [if_neg (by decide),h2sz]
  by_cases c : (r.length : Int) > 1
  ·have hx : (tx r).extract 0 2 = tx (r.take 2):=by rw [tx_cut];rfl
   rw [if_pos c,if_pos (by decide),if_pos (by omega),hx,tx_toList]
   exact hz
  ·have : dbl r = false:=by
    unfold dbl
    refine beq_eq_false_iff_ne.mpr fun hh => c ?_
    have : (r.take 2).length = 2:=by rw [hh];rfl
    rw [List.length_take] at this
    omega
   rw [this] at hz
   rw [if_neg c]
   exact hz
 by_cases hd : dbl r = true
 ·obtain ⟨rest,rfl⟩:=dbl_yes r hd
  obtain ⟨H2,o2,P2,Q2,a2,e,g47,gP,g63,gq,g58⟩:=rest_all rest
  have hrest : (47 :: 47 :: rest).length = rest.length + 2:=rfl
  have c1 : Lib.cut (S ++ ([58,47,47] ++ (colL H2 o2 ++ P2 ++ askL Q2 a2))) [58,47,47] = (S,colL H2 o2 ++ P2 ++ askL Q2 a2,true):=by
   rcases hS with h | h <;> rw [h]
   ·exact cut_http _
   ·exact cut_https _
  have hlen : (S ++ ([58,47,47] ++ (colL H2 o2 ++ P2 ++ askL Q2 a2))).length = S.length + 3 + (colL H2 o2 ++ P2 ++ askL Q2 a2).length:=by
   rw [List.length_append,List.length_append,Nat.add_assoc];rfl
  have A1 : impl_ReadUrl.f (m + 10) (tx (S ++ ([58,47,47] ++ (colL H2 o2 ++ P2 ++ askL Q2 a2)))) = some (authX S H2 o2 P2 Q2 a2):=by
   rw [← e] at hlen
   by_cases c : S.length + 3 + rest.length ≤ 200
   ·rw [e] at hlen c
    exact readX_I (m + 10) S H2 o2 P2 Q2 a2 c1 (by omega) g47 gP g63 gq g58 (by omega)
   ·rw [authX_long S H2 o2 P2 Q2 a2 (by rw [← e];omega)]
    refine readI_zero (m + 9) _ _ _ _ c1 ?_ (Or.inr ?_)
    ·rw [← e];omega
    ·rw [← e];omega
  have A2 : (47 :: 47 :: rest).length ≤ 200 → spec_l1Authority.f (m + 8) (tx S) (tx (colL H2 o2 ++ P2 ++ askL Q2 a2)) = some (authX S H2 o2 P2 Q2 a2):=fun h =>
   authX_S (m + 8) S H2 o2 P2 Q2 a2 hSl (by rw [← e];omega) g63 gP g47 gq g58 (by omega)
  have hx : (tx (47 :: 47 :: rest)).extract 2 (tx (47 :: 47 :: rest)).size = tx rest:=by
   rw [tx_cut,tx_size]
   show tx (rest.take ((47 :: 47 :: rest).length - 2)) = _
   rw [List.take_of_length_le (by simp)]
  have ht : tx S ++ (⟨#[58]⟩ : ByteArray) ++ tx (47 :: 47 :: rest) = tx (S ++ ([58,47,47] ++ rest)):=by
   have e58 : (⟨#[58]⟩ : ByteArray) = tx [58]:=rfl
   rw [e58,tx_app,tx_app];simp
  have hrs : impl_resolved.f (m + 10) (tx S) (tx H) n (tx (47 :: p)) (tx Q) a (tx (47 :: 47 :: rest)) = some (authX S H2 o2 P2 Q2 a2):=by
   unfold impl_resolved.f
   rw [rI,Option.bind_some]
   show (if (false = true) then _ else _) = _
   have e1 : (tx S ++ (⟨#[58]⟩ : ByteArray)).size = S.length + 1:=by rw [show (⟨#[58]⟩ : ByteArray) = tx [58] from rfl,tx_app,tx_size];simp
   rw [if_neg (by decide),hpi,pf,Option.bind_some,hd,if_pos rfl,e1,tx_size,tx_size,if_pos (by omega),if_pos (by omega),ht,e,A1,Option.bind_some]
  have hj1 : ∀ z,(47 :: 47 :: rest).length ≤ 200 → spec_ResolveUrl.j4 (m + 8) (authX S H2 o2 P2 Q2 a2).2.2.2.2.2.2 (authX S H2 o2 P2 Q2 a2).1 (authX S H2 o2 P2 Q2 a2).2.1 (authX S H2 o2 P2 Q2 a2).2.2.1 (authX S H2 o2 P2 Q2 a2).2.2.2.1 (authX S H2 o2 P2 Q2 a2).2.2.2.2.1 (authX S H2 o2 P2 Q2 a2).2.2.2.2.2.1 = some z → spec_ResolveUrl.j1 (m + 9) (tx (47 :: 47 :: rest)) (dbl (47 :: 47 :: rest)) (tx S) (tx H) n (tx (47 :: p)) (tx Q) a = some z:=fun z h200 hz => by
   unfold spec_ResolveUrl.j1
   dsimp only
   rw [hd,if_pos rfl,if_pos (by rw [tx_size];simp;omega),hx,e,A2 h200,Option.bind_some]
   exact hz
  rcases form_a S H2 o2 P2 Q2 a2 with g | ⟨S3,H3,n3,P3,Q3,a3,g,g2⟩
  ·rw [g] at hrs hj1
   exact ⟨zeroU,Or.inl rfl,im _ _ hrs rfl,fun _ h200 => sp _ h200 (hj1 _ h200 rfl)⟩
  ·rw [g2] at hrs hj1
   obtain ⟨_,⟨p3,rfl⟩,zSl,zHl,zPl,zQl,_,_⟩:=okS S3 H3 n3 P3 Q3 a3 g
   have hp3 : p3.length ≤ 200:=by rw [List.length_cons] at zPl;omega
   exact ⟨_,form_g S3 H3 n3 (dropL p3) Q3 a3,im _ _ hrs (resolveI_end (m + 10) S3 H3 n3 p3 Q3 a3 (by omega) (by omega) (by omega) (by omega) (by omega)),fun _ h200 => sp _ h200 (hj1 _ h200 (resolveS_end (m + 8) S3 H3 n3 p3 Q3 a3 (by omega) (by omega) (by omega) (by omega) (by omega)))⟩
 ·have hd' : dbl r = false:=Bool.eq_false_iff.mpr hd
  obtain ⟨R,Q2,a2,e,h63,hq⟩:=ask_dec r
  have hRl : R.length ≤ r.length:=by rw [e,List.length_append];omega
  have hQ2 : Q2.length ≤ r.length:=by have:=ask_len Q2 a2 hq;rw [e,List.length_append];omega
  have e63 : (⟨#[63]⟩ : ByteArray) = tx [63]:=rfl
  have cI : strings_Cut.f (tx r) (⟨#[63]⟩ : ByteArray) = some (tx R,tx Q2,a2):=by
   rw [e63,cut_f r [63] R Q2 a2 (by omega) (by rw [e];exact cut_ask R Q2 a2 h63 hq)]
  have cS : spec_l1Cut.f (m + 8) (tx r) 63 = some (tx R,tx Q2,a2):=by rw [e];exact cutS_ask (m + 8) R Q2 a2 h63 hq (by omega) (by omega) (by omega)
  have fin : ∀ p2 : List UInt8,p2.length ≤ 2000000 → impl_resolved.f (m + 10) (tx S) (tx H) n (tx (47 :: p)) (tx Q) a (tx r) = some (tx S,tx H,n,tx (47 :: p2),tx Q2,a2,true) → (r.length ≤ 200 → spec_ResolveUrl.j1 (m + 9) (tx r) (dbl r) (tx S) (tx H) n (tx (47 :: p)) (tx Q) a = some (gRes S H n (dropL p2) Q2 a2)) → ∃ X,Form X ∧ impl_ResolveUrl.f (m + 10) (tx S) (tx H) n (tx (47 :: p)) (tx Q) a (tx r) = some X ∧ (r ≠ [] → r.length ≤ 200 → spec_ResolveUrl.f (m + 10) (tx S) (tx H) n (tx (47 :: p)) (tx Q) a (tx r) = some X):=fun p2 hp2 h1 h2 =>
   ⟨_,form_g S H n (dropL p2) Q2 a2,im _ _ h1 (resolveI_end (m + 10) S H n p2 Q2 a2 (by omega) (by omega) hp2 (by omega) (by omega)),fun _ h200 => sp _ h200 (h2 h200)⟩
  have sj1 : ∀ z,(if R = ([] : List UInt8) then (spec_ResolveUrl.j2 (m + 8) (tx R) false (tx S) (tx H) n (tx (47 :: p)) (tx Q) a (tx S) (tx H) n (tx (47 :: p)) (tx Q2) a2) else (if 0 < (R.length : Int) then (spec_ResolveUrl.j2 (m + 8) (tx R) ((bt (tx R) 0) == 47) (tx S) (tx H) n (tx (47 :: p)) (tx Q) a (tx S) (tx H) n (tx (47 :: p)) (tx Q2) a2) else (none))) = some z → spec_ResolveUrl.j1 (m + 9) (tx r) (dbl r) (tx S) (tx H) n (tx (47 :: p)) (tx Q) a = some z:=fun z hz => by
   unfold spec_ResolveUrl.j1
   dsimp only
   rw [hd',if_neg (by decide),cS,Option.bind_some]
   dsimp only
   rw [tx_toList,tx_size]
   exact hz
  have irs : ∀ w,(if slash R = true then (some (tx S,tx H,n,tx R,tx Q2,a2,true)) else (if R = ([] : List UInt8) then (some (tx S,tx H,n,tx (47 :: p),tx Q2,a2,true)) else ((strings_LastIndexByte.f (m + 10) (tx (47 :: p)) 47).bind fun t289 => (if 0 ≤ (wrap64 (t289 + 1)) then (if (wrap64 (t289 + 1)) ≤ ((tx (47 :: p)).size : Int) then (if ((tx (47 :: p)).extract 0 ((wrap64 (t289 + 1)) : Int).toNat).size + (tx R).size ≤ 9223372036854775807 then (some (tx S,tx H,n,((tx (47 :: p)).extract 0 ((wrap64 (t289 + 1)) : Int).toNat) ++ tx R,tx Q2,a2,true)) else (none)) else (none)) else (none))))) = some w → impl_resolved.f (m + 10) (tx S) (tx H) n (tx (47 :: p)) (tx Q) a (tx r) = some w:=fun w hw => by
   unfold impl_resolved.f
   rw [rI,Option.bind_some]
   show (if (false = true) then _ else _) = _
   rw [if_neg (by decide),hpi,pf,Option.bind_some,hd',if_neg (by decide),cI,Option.bind_some]
   dsimp only
   rw [hpi,prefix_f R (by omega),Option.bind_some,tx_toList]
   exact hw
  have hpl : p.length ≤ 200:=by rw [List.length_cons] at hPl;omega
  by_cases cR : R = []
  ·refine fin p (by omega) (irs _ ?_) (fun _ => sj1 _ ?_)
   ·rw [cR,if_neg (by decide),if_pos rfl]
   ·rw [if_pos cR,cR]
    unfold spec_ResolveUrl.j2
    dsimp only
    rw [if_neg (by decide),tx_toList,if_pos rfl]
    exact resolveS_end (m + 7) S H n p Q2 a2 (by omega) (by omega) (by omega) (by omega) (by omega)
  ·obtain ⟨b,R2,hb⟩ : ∃ b R2,R = b :: R2:=by
    cases R with
    | nil => exact absurd rfl cR
    | cons b R2 => exact ⟨b,R2,rfl⟩
   have e0 : bt (tx R) 0 = (b.toNat : Int):=by rw [hb];exact bt_tx (b :: R2) 0 (by simp)
   have hR2 : R.length = R2.length + 1:=by rw [hb,List.length_cons]
   have hpos : 0 < (R.length : Int):=by omega
   by_cases cb : b = 47
   ·subst cb
    refine fin R2 (by omega) (irs _ ?_) (fun _ => sj1 _ ?_)
    ·rw [hb,if_pos (by rfl)]
    ·rw [if_neg cR,if_pos hpos,e0,show ((((47 : UInt8).toNat : Nat) : Int) == 47) = true by decide]
     unfold spec_ResolveUrl.j2
     dsimp only
     rw [if_pos rfl,hb]
     exact resolveS_end (m + 7) S H n R2 Q2 a2 (by omega) (by omega) (by omega) (by omega) (by omega)
   ·obtain ⟨A,B,h1,h2⟩:=last_at 47 (47 :: p) List.mem_cons_self
    have hsl : slash R = false:=by rw [hb];exact beq_eq_false_iff_ne.mpr cb
    have hAB : A.length + (B.length + 1) ≤ 200:=by
     have : (47 :: p).length = A.length + (B.length + 1):=by rw [h1];simp
     rw [← this];exact hPl
    have hA1 : (A ++ [47]).length ≤ 3000000:=by rw [List.length_append,List.length_singleton];omega
    have hR1 : R.length ≤ 3000000:=by omega
    obtain ⟨p2,hp2⟩ : ∃ p2,A ++ [47] ++ R = 47 :: p2:=by
     cases A with
     | nil => exact ⟨R,rfl⟩
     | cons x A2 =>
      have : x = 47:=by have:=List.cons.inj h1;exact this.1.symm
      exact ⟨A2 ++ [47] ++ R,by rw [this];rfl⟩
    have hp2l : p2.length ≤ 2000000:=by
     have : (47 :: p2).length = (A ++ [47] ++ R).length:=by rw [hp2]
     simp only [List.length_append,List.length_cons,List.length_nil] at this
     omega
    refine fin p2 hp2l (irs _ ?_) (fun h200 => sj1 _ ?_)
    ·have hli:=lastI A B (m + 10) h2 (by simp;omega) (by omega)
     have hw : wrap64 ((A.length : Int) + 1) = (A.length : Int) + 1:=w64 (by omega) (by omega)
     have hx : (tx (A ++ 47 :: B)).extract 0 ((A.length : Int) + 1).toNat = tx (A ++ [47]):=by
      have h3 : ((A.length : Int) + 1).toNat = (A ++ [47]).length:=by simp
      have h4 : A ++ 47 :: B = (A ++ [47]) ++ B:=by simp
      rw [tx_cut,h3,h4,List.drop_zero,Nat.sub_zero,List.take_left]
     have hz : ((tx (A ++ 47 :: B)).size : Int) = (A.length : Int) + 1 + (B.length : Int):=by rw [tx_size];simp;omega
     rw [hsl,if_neg (by decide),if_neg cR,h1,hli,Option.bind_some,hw,hz,if_pos (fa A.length B.length).1,if_pos (fa A.length B.length).2,hx,tx_size,tx_size,if_pos (room3 _ _ hA1 hR1),tx_app,hp2]
    ·rw [if_neg cR,if_pos hpos,e0,beq_eq_false_iff_ne.mpr (fun hh => cb (UInt8.toNat_inj.mp (by show b.toNat = 47;omega)))]
     unfold spec_ResolveUrl.j2
     dsimp only
     rw [if_neg (by decide),tx_toList,if_neg cR]
     have:=lastS A [] R S H n Q2 a2 (tx S) (tx H) n (tx Q) a (by omega) (by omega) (by omega) (by omega) p2 hp2 B (m + 7) h2 (by simp;omega) (by omega)
     rw [List.append_nil,← h1] at this
     rw [tx_size]
     exact this
theorem szUrl_f (A B : ByteArray) (n : Int) (C D : ByteArray) (a : Bool) (hA : A.size ≤ maxLen) (hB : B.size ≤ maxLen) (hC : C.size ≤ maxLen) (hD : D.size ≤ maxLen) :
  ∃ z,laws_szUrl.f A B n C D a 1048576 = some z ∧ z ≤ 1048576 ∧ (0 ≤ z → A.size + B.size + C.size + D.size ≤ 1048576):=by
 have hmx : maxLen = 9223372036854775807:=by decide
 unfold laws_szUrl.f
 rw [w64 (x:=1048576 - (A.size : Int)) (by omega) (by omega)]
 by_cases c : 1048576 - (A.size : Int) < 0
 ·exact ⟨-1,by rw [if_pos c],by omega,fun h => by omega⟩
 rw [w64 (x:=1048576 - (A.size : Int) - (B.size : Int)) (by omega) (by omega)]
 by_cases c1 : 1048576 - (A.size : Int) - (B.size : Int) < 0
 ·exact ⟨-1,by rw [if_neg c,if_pos c1],by omega,fun h => by omega⟩
 rw [w64 (x:=1048576 - (A.size : Int) - (B.size : Int) - (C.size : Int)) (by omega) (by omega)]
 by_cases c2 : 1048576 - (A.size : Int) - (B.size : Int) - (C.size : Int) < 0
 ·exact ⟨-1,by rw [if_neg c,if_neg c1,if_pos c2],by omega,fun h => by omega⟩
 rw [w64 (x:=1048576 - (A.size : Int) - (B.size : Int) - (C.size : Int) - (D.size : Int)) (by omega) (by omega)]
 by_cases c3 : 1048576 - (A.size : Int) - (B.size : Int) - (C.size : Int) - (D.size : Int) < 0
 ·exact ⟨-1,by rw [if_neg c,if_neg c1,if_neg c2,if_pos c3],by omega,fun h => by omega⟩
 ·exact ⟨_,by rw [if_neg c,if_neg c1,if_neg c2,if_neg c3],by omega,fun h => by omega⟩
theorem url_end (k1 k2 : Nat) (h1 : 30000000 ≤ k1) (h2 : 30000000 ≤ k2) (S H : List UInt8) (n : Int) (P Q : List UInt8) (a : Bool) (hg : goodL S H n P Q a = true) : ∃ T,
  ((impl_normal.f k1 (tx S) (tx H) n (tx P) (tx Q) a).bind fun x => ((impl_UrlText.f k1 x.1 x.2.1 x.2.2.1 x.2.2.2.1 x.2.2.2.2.1 x.2.2.2.2.2).bind fun y => (some (y.1,y.2)))) = some (T,true) ∧
  ((spec_l1Normal.f k2 (tx S) (tx H) n (tx P) (tx Q) a).bind fun x => ((spec_l1Text.f k2 x.1 x.2.1 x.2.2.1 x.2.2.2.1 x.2.2.2.2.1 x.2.2.2.2.2).bind fun y => (some (y,true)))) = some (T,true):=by
 obtain ⟨p,m,rfl,hm1,g2,_,_,_⟩:=good_norm S H n P Q a hg
 obtain ⟨_,_,s1,s2,s3,s4,_,_⟩:=okS S H n (47 :: p) Q a hg
 obtain ⟨_,_,t1,t2,t3,t4,t5,t6⟩:=okS S (H.map lowB) (portN S n) (47 :: m) (npL Q) a g2
 have gI:=goodU_I k1 S (H.map lowB) (portN S n) (47 :: m) (npL Q) a (by omega) (by omega) (by omega) (by omega) (by omega)
 rw [g2] at gI
 obtain ⟨j,rfl⟩ : ∃ j,k2 = j + 7:=⟨k2 - 7,by omega⟩
 refine ⟨tx (textL S (H.map lowB) (portN S n) (47 :: m) (npL Q) a),?_,?_⟩
 ·rw [norm_I k1 S H n p Q a (by omega) (by omega) (by omega) h1,hm1,Option.bind_some]
  unfold impl_UrlText.f
  dsimp only
  rw [gI,Option.bind_some,if_pos rfl,text_I S (H.map lowB) (portN S n) (47 :: m) (npL Q) a (by omega) (by omega) (by omega) (by omega) t5 (by omega),Option.bind_some,Option.bind_some]
 ·rw [norm_S (j + 7) S H n p Q a (by omega) (by omega) (by omega) h2,hm1,Option.bind_some]
  dsimp only
  rw [text_S j S (H.map lowB) (portN S n) (47 :: m) (npL Q) a (by omega) (by omega) (by omega) (by omega) t5 (by omega),Option.bind_some]
theorem key_both (S H : List UInt8) (n : Int) (P Q : List UInt8) (a : Bool) (m : ByteArray) (t : List UInt8) (l : List S105) (b : ByteArray) (hS : S.length ≤ 1048576) (hH : H.length ≤ 1048576) (hP : P.length ≤ 1048576) (hQ : Q.length ≤ 1048576) (hm : m.size ≤ 100000000) (ht : t.length ≤ 1048576) (hb : l.length ≤ 100000000) (hf : Fits l) :
  ∃ N,∀ K,N ≤ K → ∃ v,impl_KeyOf.f K (tx S) (tx H) n (tx P) (tx Q) a m (tx t) l b = some v ∧ spec_KeyOf.f K (tx S) (tx H) n (tx P) (tx Q) a m (tx t) l b = some v:=by
 obtain ⟨N1,e1⟩:=req_I m (tx t) l b
 obtain ⟨N2,e2⟩:=req_S m (tx t) l b hm (by rw [tx_size];omega) hb hf
 refine ⟨N1 + N2 + 50000000,fun K hK => ?_⟩
 have f1 : impl_GoodRequest.f K m (tx t) l b = some (goodReq m (tx t) l b):=e1 K (by omega)
 have f2 : spec_GoodRequest.f K m (tx t) l b = some (goodReq m (tx t) l b):=e2 K (by omega)
 have gI:=goodU_I K S H n P Q a (by omega) (by omega) (by omega) (by omega) (by omega)
 have gS:=goodU_S K S H n P Q a (by omega) (by omega) (by omega) (by omega) (by omega)
 obtain ⟨j,rfl⟩ : ∃ j,K = j + 10:=⟨K - 10,by omega⟩
 clear e1 e2
 cases hg : goodL S H n P Q a with
 | false =>
  rw [hg] at gI gS
  refine ⟨((⟨#[]⟩ : ByteArray),false),?_,?_⟩
  ·have e : impl_ResolveUrl.f (j + 10) (tx S) (tx H) n (tx P) (tx Q) a (tx t) = some zeroU:=by
    unfold impl_ResolveUrl.f
    rw [gI,Option.bind_some,if_neg (by decide)];rfl
   unfold impl_KeyOf.f
   rw [e,Option.bind_some];rfl
  ·unfold spec_KeyOf.f
   rw [gS,Option.bind_some,if_neg (by decide)]
 | true =>
  rw [hg] at gS
  obtain ⟨X,fX,h1,h2⟩:=resolve_both j (by omega) S H n P Q a t hg (by omega)
  cases hq : goodReq m (tx t) l b with
  | false =>
   rw [hq] at f1 f2
   refine ⟨((⟨#[]⟩ : ByteArray),false),?_,?_⟩
   ·unfold impl_KeyOf.f
    rw [h1,Option.bind_some]
    obtain ⟨A,B,C,D,E,F,G⟩:=X
    dsimp only
    cases G with
    | false => rfl
    | true => rw [if_pos rfl,f1,Option.bind_some];rfl
   ·unfold spec_KeyOf.f
    rw [gS,Option.bind_some,if_pos rfl,f2,Option.bind_some,if_neg (by decide)]
  | true =>
   have hT : t ≠ [] ∧ t.length ≤ 200:=by
    have h:=hq
    unfold goodReq at h
    simp only [Bool.and_eq_true] at h
    have h3:=h.2.1
    unfold tgL at h3
    simp only [Bool.and_eq_true,decide_eq_true_eq] at h3
    refine ⟨fun hh => ?_,by omega⟩
    have:=h3.1.1
    rw [hh] at this
    exact absurd this (by decide)
   rw [hq] at f1 f2
   have h3:=h2 hT.1 hT.2
   rcases fX with rfl | ⟨S2,H2,n2,P2,Q2,a2,g,rfl⟩
   ·refine ⟨((⟨#[]⟩ : ByteArray),false),?_,?_⟩
    ·unfold impl_KeyOf.f
     rw [h1,Option.bind_some];rfl
    ·unfold spec_KeyOf.f spec_l9Key.f
     rw [gS,Option.bind_some,if_pos rfl,f2,Option.bind_some,if_pos rfl,h3,Option.bind_some];rfl
   ·obtain ⟨T,u1,u2⟩:=url_end (j + 9) (j + 10) (by omega) (by omega) S2 H2 n2 P2 Q2 a2 g
    refine ⟨(T,true),?_,?_⟩
    ·unfold impl_KeyOf.f
     rw [h1,Option.bind_some]
     dsimp only
     rw [if_pos rfl,f1,Option.bind_some]
     unfold impl_KeyOf.j0
     dsimp only
     rw [if_neg (by decide)]
     exact u1
    ·unfold spec_KeyOf.f spec_l9Key.f
     rw [gS,Option.bind_some,if_pos rfl,f2,Option.bind_some,if_pos rfl,h3,Option.bind_some]
     dsimp only
     rw [if_pos rfl,u2,Option.bind_some]
theorem keyFits (l : List S97) (h : szL l ≤ 1048576) : Fits (l.map toE):=fun x hx => by
 obtain ⟨y,hy,rfl⟩:=List.mem_map.mp hx
 have:=szL_mem l y hy
 show y.f0.data.toList.length ≤ _ ∧ y.f1.data.toList.length ≤ _
 rw [Array.length_toList,Array.length_toList]
 show y.f0.size ≤ _ ∧ y.f1.size ≤ _
 omega
theorem FnExactKeyOf : laws_FnExactKeyOf.Pure:=by
 intro A B n C D a m t fs b hA hB _ hC hD hm0 ht0 hfm hfw hbd
 obtain ⟨z,hz,hz1,hz2⟩:=szUrl_f A B n C D a hA hB hC hD
 by_cases c : z < 0
 ·refine ⟨0,?_⟩
  unfold laws_FnExactKeyOf.f
  rw [hz,Option.bind_some,if_pos c]
 obtain ⟨u,hu,hu2⟩:=szReq_f m t fs b hm0 ht0 hfm hfw hbd z (by omega) hz1
 by_cases c2 : u < 0
 ·refine ⟨1048577,?_⟩
  unfold laws_FnExactKeyOf.f
  rw [hz,Option.bind_some,if_neg c,hu _ (by omega),Option.bind_some,if_pos c2]
 have hu3:=hu2 (by omega)
 have hz3:=hz2 (by omega)
 have hfl : (fs.map toE).length ≤ 1048576:=by rw [List.length_map];omega
 have hFf:=keyFits fs (by omega)
 obtain ⟨N,hN⟩:=key_both A.data.toList B.data.toList n C.data.toList D.data.toList a m t.data.toList (fs.map toE) b (by rw [Array.length_toList];show A.size ≤ _;omega) (by rw [Array.length_toList];show B.size ≤ _;omega) (by rw [Array.length_toList];show C.size ≤ _;omega) (by rw [Array.length_toList];show D.size ≤ _;omega) (by omega) (by rw [Array.length_toList];show t.size ≤ _;omega) (by omega) hFf
 obtain ⟨q,hq⟩ : ∃ q,q = N + 3000000:=⟨_,rfl⟩
 obtain ⟨⟨y1,y2⟩,e1,e2⟩:=hN (q + 1) (by omega)
 simp only [tx_data] at e1 e2
 have t2 : ∀ j,laws_toRequest.f (q + j) m t fs b = some (m,t,fs.map toE,b):=fun j => toReq_f m t fs b (by omega) _ (by omega)
 have t3:=t2 0
 have s2 : laws_szRequest.f (q + 1) m t fs b z = some u:=hu _ (by omega)
 have q2 : laws_eqRequest.f q m t (fs.map toE) b m t (fs.map toE) b = some true:=eqReq_f m t _ b hfl _ (by omega)
 rw [Nat.add_zero] at t3
 clear hz2 hu hu2 hN
 refine ⟨q + 1,?_⟩
 unfold laws_FnExactKeyOf.f laws_toUrl.f
 simp only [hz,s2,t2,t3,e1,e2,q2,c,c2,Option.bind_some,if_true,if_false,bne_self_eq_false,Bool.false_eq_true,laws_FnExactKeyOf.j0]
end Go.Proofs.YtpggepjfhgalkaaGreatDoor.Pure
