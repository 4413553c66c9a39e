-- Written by a program of this project (xprint.py) out of the translation; Lean checks it.
import Derived.Test.YtklicdjbihmbiaaGreatDoorPFnResolvedx0
import Derived.Test.YtklicdjbihmbiaaGreatDoorPFnResolvedx3
import Derived.Test.YtklicdjbihmbiaaGreatDoorPFnResolvedx4
namespace Go.Proofs.YtklicdjbihmbiaaGreatDoor.PFnResolved
open Go.RowKit Go.Proofs.YtklicdjbihmbiaaGreatDoorW.PrintWords Go.Proofs.YtklicdjbihmbiaaGreatDoorW.PrintLast Go.Proofs.YtklicdjbihmbiaaGreatDoorW.PrintMore
attribute [local go_sem] max2_int min2_int max_two min_two max_three min_three max_four min_four   -- for this text's walks alone
set_option linter.unusedVariables false
set_option linter.unusedSimpArgs false

/-! ### impl_GoodUrl: function 13 -/
def impl_GoodUrl.f (k : Nat) (a0_0 : ByteArray) (a0_1 : ByteArray) (a0_2 : Int) (a0_3 : ByteArray) (a0_4 : ByteArray) (a0_5 : Bool) : Option (Bool) := if a0_0.toList = ([104, 116, 116, 112] : List UInt8) then ((impl_within.f (a0_1.size : Int) 1 60).bind fun t233 => (if t233 = true then ((xBytes_impl_GoodUrl_1.f a0_1).bind fun t234 => (if t234 = true then ((impl_within.f a0_2 0 65535).bind fun t235 => (if t235 = true then ((strings_HasPrefix.f a0_3 (⟨#[47]⟩ : ByteArray)).bind fun t236 => (if t236 = true then ((impl_arePchars.f k a0_3 (⟨#[47]⟩ : ByteArray)).bind fun t237 => (if t237 = true then ((impl_arePchars.f k a0_4 (⟨#[47, 63]⟩ : ByteArray)).bind fun t238 => (if t238 = true then (if a0_5 = true then ((impl_urlText.f a0_0 a0_1 a0_2 a0_3 a0_4 a0_5).bind fun t239 => (some (decide ((t239.size : Int) ≤ 200)))) else (if a0_4.toList = ([] : List UInt8) then ((impl_urlText.f a0_0 a0_1 a0_2 a0_3 a0_4 a0_5).bind fun t240 => (some (decide ((t240.size : Int) ≤ 200)))) else (some false))) else (some false))) else (some false))) else (some false))) else (some false))) else (some false))) else (some false))) else (if a0_0.toList = ([104, 116, 116, 112, 115] : List UInt8) then ((impl_within.f (a0_1.size : Int) 1 60).bind fun t241 => (if t241 = true then ((xBytes_impl_GoodUrl_1.f a0_1).bind fun t242 => (if t242 = true then ((impl_within.f a0_2 0 65535).bind fun t243 => (if t243 = true then ((strings_HasPrefix.f a0_3 (⟨#[47]⟩ : ByteArray)).bind fun t244 => (if t244 = true then ((impl_arePchars.f k a0_3 (⟨#[47]⟩ : ByteArray)).bind fun t245 => (if t245 = true then ((impl_arePchars.f k a0_4 (⟨#[47, 63]⟩ : ByteArray)).bind fun t246 => (if t246 = true then (if a0_5 = true then ((impl_urlText.f a0_0 a0_1 a0_2 a0_3 a0_4 a0_5).bind fun t247 => (some (decide ((t247.size : Int) ≤ 200)))) else (if a0_4.toList = ([] : List UInt8) then ((impl_urlText.f a0_0 a0_1 a0_2 a0_3 a0_4 a0_5).bind fun t248 => (some (decide ((t248.size : Int) ≤ 200)))) else (some false))) else (some false))) else (some false))) else (some false))) else (some false))) else (some false))) else (some false))) else (some false))
theorem impl_GoodUrl.mono : ∀ a0 a1 a2 a3 a4 a5 k, LeO (impl_GoodUrl.f k a0 a1 a2 a3 a4 a5) (impl_GoodUrl.f (k + 1) a0 a1 a2 a3 a4 a5) := by
 intro a0 a1 a2 a3 a4 a5 k
 unfold impl_GoodUrl.f
 repeat' first
   | (with_reducible exact impl_arePchars.mono _ _ _)
   | (with_reducible exact LeO.refl _)
   | (with_reducible exact LeO.none _)
   | (with_reducible refine LeO.ite ?_ ?_)
   | (with_reducible refine LeO.bind ?_ (fun _ => ?_))
   | exact impl_arePchars.mono _ _ _
   | exact LeO.none _
   | refine LeO.ite ?_ ?_
   | refine LeO.bind ?_ (fun _ => ?_)
set_option maxHeartbeats 8000000 in
set_option maxRecDepth 100000 in
theorem impl_GoodUrl.calls (k : Nat) (a0_0 : ByteArray) (a0_1 : ByteArray) (a0_2 : Int) (a0_3 : ByteArray) (a0_4 : ByteArray) (a0_5 : Bool) (r : Bool) (w : World) (h : impl_GoodUrl.f k a0_0 a0_1 a0_2 a0_3 a0_4 a0_5 = some r) (hT_ : TabOk w) :
  Calls Tryz.prog 13 #[.agg #[.string a0_0, .string a0_1, .int .i64 a0_2, .string a0_3, .string a0_4, .bool a0_5]] w fun e w' => e = .returned (.bool r) ∧ Below w.heap.size w w' := by
 have HTB_ := Aside0.mk hT_
 clear hT_
 have hu24 := Tryz.underlying24
 have HB := Aside0.mk (Below.refl w.heap.size w)
 have H : (if a0_0.toList = ([104, 116, 116, 112] : List UInt8) then ((impl_within.f (a0_1.size : Int) 1 60).bind fun t233 => (if t233 = true then ((xBytes_impl_GoodUrl_1.f a0_1).bind fun t234 => (if t234 = true then ((impl_within.f a0_2 0 65535).bind fun t235 => (if t235 = true then ((strings_HasPrefix.f a0_3 (⟨#[47]⟩ : ByteArray)).bind fun t236 => (if t236 = true then ((impl_arePchars.f k a0_3 (⟨#[47]⟩ : ByteArray)).bind fun t237 => (if t237 = true then ((impl_arePchars.f k a0_4 (⟨#[47, 63]⟩ : ByteArray)).bind fun t238 => (if t238 = true then (if a0_5 = true then ((impl_urlText.f a0_0 a0_1 a0_2 a0_3 a0_4 a0_5).bind fun t239 => (some (decide ((t239.size : Int) ≤ 200)))) else (if a0_4.toList = ([] : List UInt8) then ((impl_urlText.f a0_0 a0_1 a0_2 a0_3 a0_4 a0_5).bind fun t240 => (some (decide ((t240.size : Int) ≤ 200)))) else (some false))) else (some false))) else (some false))) else (some false))) else (some false))) else (some false))) else (some false))) else (if a0_0.toList = ([104, 116, 116, 112, 115] : List UInt8) then ((impl_within.f (a0_1.size : Int) 1 60).bind fun t241 => (if t241 = true then ((xBytes_impl_GoodUrl_1.f a0_1).bind fun t242 => (if t242 = true then ((impl_within.f a0_2 0 65535).bind fun t243 => (if t243 = true then ((strings_HasPrefix.f a0_3 (⟨#[47]⟩ : ByteArray)).bind fun t244 => (if t244 = true then ((impl_arePchars.f k a0_3 (⟨#[47]⟩ : ByteArray)).bind fun t245 => (if t245 = true then ((impl_arePchars.f k a0_4 (⟨#[47, 63]⟩ : ByteArray)).bind fun t246 => (if t246 = true then (if a0_5 = true then ((impl_urlText.f a0_0 a0_1 a0_2 a0_3 a0_4 a0_5).bind fun t247 => (some (decide ((t247.size : Int) ≤ 200)))) else (if a0_4.toList = ([] : List UInt8) then ((impl_urlText.f a0_0 a0_1 a0_2 a0_3 a0_4 a0_5).bind fun t248 => (some (decide ((t248.size : Int) ≤ 200)))) else (some false))) else (some false))) else (some false))) else (some false))) else (some false))) else (some false))) else (some false))) else (some false))) = some r := h
 clear h
 by_cases c2 : a0_0.toList = ([104, 116, 116, 112] : List UInt8)
 ·rw [if_pos c2] at H
  have c2b0 : (a0_0.toList == ([104, 116, 116, 112] : List UInt8)) = true := beq_iff_eq.mpr c2
  have c2b1 : (a0_0.toList != ([104, 116, 116, 112] : List UInt8)) = false := bne_eq_false_iff_eq.mpr c2
  clear c2
  replace H := Option.bind_eq_some_iff.mp H
  obtain ⟨t233, A30, H⟩ := H
  replace H : (if t233 = true then ((xBytes_impl_GoodUrl_1.f a0_1).bind fun t234 => (if t234 = true then ((impl_within.f a0_2 0 65535).bind fun t235 => (if t235 = true then ((strings_HasPrefix.f a0_3 (⟨#[47]⟩ : ByteArray)).bind fun t236 => (if t236 = true then ((impl_arePchars.f k a0_3 (⟨#[47]⟩ : ByteArray)).bind fun t237 => (if t237 = true then ((impl_arePchars.f k a0_4 (⟨#[47, 63]⟩ : ByteArray)).bind fun t238 => (if t238 = true then (if a0_5 = true then ((impl_urlText.f a0_0 a0_1 a0_2 a0_3 a0_4 a0_5).bind fun t239 => (some (decide ((t239.size : Int) ≤ 200)))) else (if a0_4.toList = ([] : List UInt8) then ((impl_urlText.f a0_0 a0_1 a0_2 a0_3 a0_4 a0_5).bind fun t240 => (some (decide ((t240.size : Int) ≤ 200)))) else (some false))) else (some false))) else (some false))) else (some false))) else (some false))) else (some false))) else (some false)) = some r := H
  have A3 := Aside0.mk A30
  clear A30
  by_cases c4 : t233 = true
  ·subst c4
   have H1 : ((xBytes_impl_GoodUrl_1.f a0_1).bind fun t234 => (if t234 = true then ((impl_within.f a0_2 0 65535).bind fun t235 => (if t235 = true then ((strings_HasPrefix.f a0_3 (⟨#[47]⟩ : ByteArray)).bind fun t236 => (if t236 = true then ((impl_arePchars.f k a0_3 (⟨#[47]⟩ : ByteArray)).bind fun t237 => (if t237 = true then ((impl_arePchars.f k a0_4 (⟨#[47, 63]⟩ : ByteArray)).bind fun t238 => (if t238 = true then (if a0_5 = true then ((impl_urlText.f a0_0 a0_1 a0_2 a0_3 a0_4 a0_5).bind fun t239 => (some (decide ((t239.size : Int) ≤ 200)))) else (if a0_4.toList = ([] : List UInt8) then ((impl_urlText.f a0_0 a0_1 a0_2 a0_3 a0_4 a0_5).bind fun t240 => (some (decide ((t240.size : Int) ≤ 200)))) else (some false))) else (some false))) else (some false))) else (some false))) else (some false))) else (some false))) = some r := by rw [if_pos rfl] at H; exact H
   clear H
   have H := H1
   clear H1
   replace H := Option.bind_eq_some_iff.mp H
   obtain ⟨t234, A50, H⟩ := H
   replace H : (if t234 = true then ((impl_within.f a0_2 0 65535).bind fun t235 => (if t235 = true then ((strings_HasPrefix.f a0_3 (⟨#[47]⟩ : ByteArray)).bind fun t236 => (if t236 = true then ((impl_arePchars.f k a0_3 (⟨#[47]⟩ : ByteArray)).bind fun t237 => (if t237 = true then ((impl_arePchars.f k a0_4 (⟨#[47, 63]⟩ : ByteArray)).bind fun t238 => (if t238 = true then (if a0_5 = true then ((impl_urlText.f a0_0 a0_1 a0_2 a0_3 a0_4 a0_5).bind fun t239 => (some (decide ((t239.size : Int) ≤ 200)))) else (if a0_4.toList = ([] : List UInt8) then ((impl_urlText.f a0_0 a0_1 a0_2 a0_3 a0_4 a0_5).bind fun t240 => (some (decide ((t240.size : Int) ≤ 200)))) else (some false))) else (some false))) else (some false))) else (some false))) else (some false))) else (some false)) = some r := H
   have A5 := Aside0.mk A50
   clear A50
   by_cases c6 : t234 = true
   ·subst c6
    have H1 : ((impl_within.f a0_2 0 65535).bind fun t235 => (if t235 = true then ((strings_HasPrefix.f a0_3 (⟨#[47]⟩ : ByteArray)).bind fun t236 => (if t236 = true then ((impl_arePchars.f k a0_3 (⟨#[47]⟩ : ByteArray)).bind fun t237 => (if t237 = true then ((impl_arePchars.f k a0_4 (⟨#[47, 63]⟩ : ByteArray)).bind fun t238 => (if t238 = true then (if a0_5 = true then ((impl_urlText.f a0_0 a0_1 a0_2 a0_3 a0_4 a0_5).bind fun t239 => (some (decide ((t239.size : Int) ≤ 200)))) else (if a0_4.toList = ([] : List UInt8) then ((impl_urlText.f a0_0 a0_1 a0_2 a0_3 a0_4 a0_5).bind fun t240 => (some (decide ((t240.size : Int) ≤ 200)))) else (some false))) else (some false))) else (some false))) else (some false))) else (some false))) = some r := by rw [if_pos rfl] at H; exact H
    clear H
    have H := H1
    clear H1
    replace H := Option.bind_eq_some_iff.mp H
    obtain ⟨t235, A70, H⟩ := H
    replace H : (if t235 = true then ((strings_HasPrefix.f a0_3 (⟨#[47]⟩ : ByteArray)).bind fun t236 => (if t236 = true then ((impl_arePchars.f k a0_3 (⟨#[47]⟩ : ByteArray)).bind fun t237 => (if t237 = true then ((impl_arePchars.f k a0_4 (⟨#[47, 63]⟩ : ByteArray)).bind fun t238 => (if t238 = true then (if a0_5 = true then ((impl_urlText.f a0_0 a0_1 a0_2 a0_3 a0_4 a0_5).bind fun t239 => (some (decide ((t239.size : Int) ≤ 200)))) else (if a0_4.toList = ([] : List UInt8) then ((impl_urlText.f a0_0 a0_1 a0_2 a0_3 a0_4 a0_5).bind fun t240 => (some (decide ((t240.size : Int) ≤ 200)))) else (some false))) else (some false))) else (some false))) else (some false))) else (some false)) = some r := H
    have A7 := Aside0.mk A70
    clear A70
    by_cases c8 : t235 = true
    ·subst c8
     have H1 : ((strings_HasPrefix.f a0_3 (⟨#[47]⟩ : ByteArray)).bind fun t236 => (if t236 = true then ((impl_arePchars.f k a0_3 (⟨#[47]⟩ : ByteArray)).bind fun t237 => (if t237 = true then ((impl_arePchars.f k a0_4 (⟨#[47, 63]⟩ : ByteArray)).bind fun t238 => (if t238 = true then (if a0_5 = true then ((impl_urlText.f a0_0 a0_1 a0_2 a0_3 a0_4 a0_5).bind fun t239 => (some (decide ((t239.size : Int) ≤ 200)))) else (if a0_4.toList = ([] : List UInt8) then ((impl_urlText.f a0_0 a0_1 a0_2 a0_3 a0_4 a0_5).bind fun t240 => (some (decide ((t240.size : Int) ≤ 200)))) else (some false))) else (some false))) else (some false))) else (some false))) = some r := by rw [if_pos rfl] at H; exact H
     clear H
     have H := H1
     clear H1
     replace H := Option.bind_eq_some_iff.mp H
     obtain ⟨t236, A90, H⟩ := H
     replace H : (if t236 = true then ((impl_arePchars.f k a0_3 (⟨#[47]⟩ : ByteArray)).bind fun t237 => (if t237 = true then ((impl_arePchars.f k a0_4 (⟨#[47, 63]⟩ : ByteArray)).bind fun t238 => (if t238 = true then (if a0_5 = true then ((impl_urlText.f a0_0 a0_1 a0_2 a0_3 a0_4 a0_5).bind fun t239 => (some (decide ((t239.size : Int) ≤ 200)))) else (if a0_4.toList = ([] : List UInt8) then ((impl_urlText.f a0_0 a0_1 a0_2 a0_3 a0_4 a0_5).bind fun t240 => (some (decide ((t240.size : Int) ≤ 200)))) else (some false))) else (some false))) else (some false))) else (some false)) = some r := H
     have A9 := Aside0.mk A90
     clear A90
     by_cases c10 : t236 = true
     ·subst c10
      have H1 : ((impl_arePchars.f k a0_3 (⟨#[47]⟩ : ByteArray)).bind fun t237 => (if t237 = true then ((impl_arePchars.f k a0_4 (⟨#[47, 63]⟩ : ByteArray)).bind fun t238 => (if t238 = true then (if a0_5 = true then ((impl_urlText.f a0_0 a0_1 a0_2 a0_3 a0_4 a0_5).bind fun t239 => (some (decide ((t239.size : Int) ≤ 200)))) else (if a0_4.toList = ([] : List UInt8) then ((impl_urlText.f a0_0 a0_1 a0_2 a0_3 a0_4 a0_5).bind fun t240 => (some (decide ((t240.size : Int) ≤ 200)))) else (some false))) else (some false))) else (some false))) = some r := by rw [if_pos rfl] at H; exact H
      clear H
      have H := H1
      clear H1
      replace H := Option.bind_eq_some_iff.mp H
      obtain ⟨t237, A110, H⟩ := H
      replace H : (if t237 = true then ((impl_arePchars.f k a0_4 (⟨#[47, 63]⟩ : ByteArray)).bind fun t238 => (if t238 = true then (if a0_5 = true then ((impl_urlText.f a0_0 a0_1 a0_2 a0_3 a0_4 a0_5).bind fun t239 => (some (decide ((t239.size : Int) ≤ 200)))) else (if a0_4.toList = ([] : List UInt8) then ((impl_urlText.f a0_0 a0_1 a0_2 a0_3 a0_4 a0_5).bind fun t240 => (some (decide ((t240.size : Int) ≤ 200)))) else (some false))) else (some false))) else (some false)) = some r := H
      have A11 := Aside0.mk A110
      clear A110
      by_cases c12 : t237 = true
      ·subst c12
       have H1 : ((impl_arePchars.f k a0_4 (⟨#[47, 63]⟩ : ByteArray)).bind fun t238 => (if t238 = true then (if a0_5 = true then ((impl_urlText.f a0_0 a0_1 a0_2 a0_3 a0_4 a0_5).bind fun t239 => (some (decide ((t239.size : Int) ≤ 200)))) else (if a0_4.toList = ([] : List UInt8) then ((impl_urlText.f a0_0 a0_1 a0_2 a0_3 a0_4 a0_5).bind fun t240 => (some (decide ((t240.size : Int) ≤ 200)))) else (some false))) else (some false))) = some r := by rw [if_pos rfl] at H; exact H
       clear H
       have H := H1
       clear H1
       replace H := Option.bind_eq_some_iff.mp H
       obtain ⟨t238, A130, H⟩ := H
       replace H : (if t238 = true then (if a0_5 = true then ((impl_urlText.f a0_0 a0_1 a0_2 a0_3 a0_4 a0_5).bind fun t239 => (some (decide ((t239.size : Int) ≤ 200)))) else (if a0_4.toList = ([] : List UInt8) then ((impl_urlText.f a0_0 a0_1 a0_2 a0_3 a0_4 a0_5).bind fun t240 => (some (decide ((t240.size : Int) ≤ 200)))) else (some false))) else (some false)) = some r := H
       have A13 := Aside0.mk A130
       clear A130
       by_cases c14 : t238 = true
       ·subst c14
        have H1 : (if a0_5 = true then ((impl_urlText.f a0_0 a0_1 a0_2 a0_3 a0_4 a0_5).bind fun t239 => (some (decide ((t239.size : Int) ≤ 200)))) else (if a0_4.toList = ([] : List UInt8) then ((impl_urlText.f a0_0 a0_1 a0_2 a0_3 a0_4 a0_5).bind fun t240 => (some (decide ((t240.size : Int) ≤ 200)))) else (some false))) = some r := by rw [if_pos rfl] at H; exact H
        clear H
        have H := H1
        clear H1
        by_cases c15 : a0_5 = true
        ·subst c15
         have H1 : ((impl_urlText.f a0_0 a0_1 a0_2 a0_3 a0_4 true).bind fun t239 => (some (decide ((t239.size : Int) ≤ 200)))) = some r := by rw [if_pos rfl] at H; exact H
         clear H
         have H := H1
         clear H1
         replace H := Option.bind_eq_some_iff.mp H
         obtain ⟨t239, A160, H⟩ := H
         replace H : (some (decide ((t239.size : Int) ≤ 200))) = some r := H
         have A16 := Aside0.mk A160
         clear A160
         obtain rfl := Option.some.inj H
         go_enter Tryz.func13, Tryz.ntmps13
         go_wp2_with (first | ((with_reducible refine gate_dst (N := 1) rfl ?_); (try (refine gate_guard (by rfl) ?_; dsimp only)); refine xbe_ (N := 1) (cs := #[.string a0_0, .string a0_1, .int .i64 a0_2, .string a0_3, .string a0_4, .bool true]) (t := 24) ?_; intro gb232 hg w17 hbox hb; have BK232 := Aside0.mk (hbox); have GW232 := xge_ HB hg; have GE232 := xge_ HB hg; replace HB := xws_ HB hb; clear hb hbox hg; have ⟨_, _, _, _, _, _, _, _, _, _, _, _⟩ := c6_ BK232) | (go_at_call 25; (with_reducible refine (impl_within.calls (a0_1.size : Int) 1 60 true _ A3.out).mono ?_); rintro e w' ⟨rfl, ⟨nd, rfl⟩⟩) | (go_at_call 26; (with_reducible refine (xBytes_impl_GoodUrl_1.calls a0_1  true _ A5.out).mono ?_); rintro e w19 ⟨rfl, hb⟩; replace BK232 := xbb_ BK232 hb; replace HB := xws_ HB hb; (try clear hb); (try clear hb2); (try clear hk); (try clear hi); have ⟨_, _, _, _, _, _, _, _, _, _, _, _⟩ := c6_ BK232) | (go_at_call 25; (with_reducible refine (impl_within.calls a0_2 0 65535 true _ A7.out).mono ?_); rintro e w' ⟨rfl, ⟨nd, rfl⟩⟩) | (go_at_call 22; (with_reducible refine (strings_HasPrefix.calls a0_3 (⟨#[47]⟩ : ByteArray) true _ A9.out).mono ?_); rintro e w' ⟨rfl, ⟨nd, rfl⟩⟩) | (go_at_call 29; (with_reducible refine (impl_arePchars.calls k a0_3 (⟨#[47]⟩ : ByteArray) true _ A11.out).mono ?_); rintro e w' ⟨rfl, ⟨nd, rfl⟩⟩) | (go_at_call 29; (with_reducible refine (impl_arePchars.calls k a0_4 (⟨#[47, 63]⟩ : ByteArray) true _ A13.out).mono ?_); rintro e w' ⟨rfl, ⟨nd, rfl⟩⟩) | (go_at_call 21; (with_reducible refine (impl_urlText.calls a0_0 a0_1 a0_2 a0_3 a0_4 true t239 _ A16.out (HTB_.out.below (by first | (with_reducible exact Below.refl _ _) | (repeat (first | (with_reducible first | exact HB.out | exact Below.refl _ _ | apply below_alloc | apply pw_below_drewN | apply below_drew1 | refine below_set ?_ GE232.out) | exact HB.out)) | (repeat (first | exact Below.refl _ _ | apply below_alloc | apply pw_below_drewN | apply below_drew1 | refine below_set ?_ GE232.out))))).mono ?_); rintro e w21 ⟨rfl, hb⟩; replace BK232 := xbb_ BK232 hb; replace HB := xws_ HB hb; (try clear hb); (try clear hb2); (try clear hk); (try clear hi)))
         go_ret
         exact ⟨by first | rfl | (simp [errW_none, errW_some] <;> rfl) | (simp [*, errW_none, errW_some] <;> rfl), xw_ HB⟩
        ·replace c15 := Bool.eq_false_iff.mpr c15
         subst c15
         have H1 : (if a0_4.toList = ([] : List UInt8) then ((impl_urlText.f a0_0 a0_1 a0_2 a0_3 a0_4 false).bind fun t240 => (some (decide ((t240.size : Int) ≤ 200)))) else (some false)) = some r := by rw [if_neg (show ¬ (false = true) by decide)] at H; exact H
         clear H
         have H := H1
         clear H1
         by_cases c22 : a0_4.toList = ([] : List UInt8)
         ·rw [if_pos c22] at H
          have c22b0 : (a0_4.toList == ([] : List UInt8)) = true := beq_iff_eq.mpr c22
          have c22b1 : (a0_4.toList != ([] : List UInt8)) = false := bne_eq_false_iff_eq.mpr c22
          clear c22
          replace H := Option.bind_eq_some_iff.mp H
          obtain ⟨t240, A230, H⟩ := H
          replace H : (some (decide ((t240.size : Int) ≤ 200))) = some r := H
          have A23 := Aside0.mk A230
          clear A230
          obtain rfl := Option.some.inj H
          go_enter Tryz.func13, Tryz.ntmps13
          go_wp2_with (first | ((with_reducible refine gate_dst (N := 1) rfl ?_); (try (refine gate_guard (by rfl) ?_; dsimp only)); refine xbe_ (N := 1) (cs := #[.string a0_0, .string a0_1, .int .i64 a0_2, .string a0_3, .string a0_4, .bool false]) (t := 24) ?_; intro gb232 hg w24 hbox hb; have BK232 := Aside0.mk (hbox); have GW232 := xge_ HB hg; have GE232 := xge_ HB hg; replace HB := xws_ HB hb; clear hb hbox hg; have ⟨_, _, _, _, _, _, _, _, _, _, _, _⟩ := c6_ BK232) | (go_at_call 25; (with_reducible refine (impl_within.calls (a0_1.size : Int) 1 60 true _ A3.out).mono ?_); rintro e w' ⟨rfl, ⟨nd, rfl⟩⟩) | (go_at_call 26; (with_reducible refine (xBytes_impl_GoodUrl_1.calls a0_1  true _ A5.out).mono ?_); rintro e w26 ⟨rfl, hb⟩; replace BK232 := xbb_ BK232 hb; replace HB := xws_ HB hb; (try clear hb); (try clear hb2); (try clear hk); (try clear hi); have ⟨_, _, _, _, _, _, _, _, _, _, _, _⟩ := c6_ BK232) | (go_at_call 25; (with_reducible refine (impl_within.calls a0_2 0 65535 true _ A7.out).mono ?_); rintro e w' ⟨rfl, ⟨nd, rfl⟩⟩) | (go_at_call 22; (with_reducible refine (strings_HasPrefix.calls a0_3 (⟨#[47]⟩ : ByteArray) true _ A9.out).mono ?_); rintro e w' ⟨rfl, ⟨nd, rfl⟩⟩) | (go_at_call 29; (with_reducible refine (impl_arePchars.calls k a0_3 (⟨#[47]⟩ : ByteArray) true _ A11.out).mono ?_); rintro e w' ⟨rfl, ⟨nd, rfl⟩⟩) | (go_at_call 29; (with_reducible refine (impl_arePchars.calls k a0_4 (⟨#[47, 63]⟩ : ByteArray) true _ A13.out).mono ?_); rintro e w' ⟨rfl, ⟨nd, rfl⟩⟩) | (go_at_call 21; (with_reducible refine (impl_urlText.calls a0_0 a0_1 a0_2 a0_3 a0_4 false t240 _ A23.out (HTB_.out.below (by first | (with_reducible exact Below.refl _ _) | (repeat (first | (with_reducible first | exact HB.out | exact Below.refl _ _ | apply below_alloc | apply pw_below_drewN | apply below_drew1 | refine below_set ?_ GE232.out) | exact HB.out)) | (repeat (first | exact Below.refl _ _ | apply below_alloc | apply pw_below_drewN | apply below_drew1 | refine below_set ?_ GE232.out))))).mono ?_); rintro e w28 ⟨rfl, hb⟩; replace BK232 := xbb_ BK232 hb; replace HB := xws_ HB hb; (try clear hb); (try clear hb2); (try clear hk); (try clear hi)))
          go_ret
          exact ⟨by first | rfl | (simp [errW_none, errW_some] <;> rfl) | (simp [*, errW_none, errW_some] <;> rfl), xw_ HB⟩
         ·rw [if_neg c22] at H
          have c22b0 : (a0_4.toList == ([] : List UInt8)) = false := beq_eq_false_iff_ne.mpr c22
          have c22b1 : (a0_4.toList != ([] : List UInt8)) = true := bne_iff_ne.mpr c22
          obtain rfl := Option.some.inj H
          go_enter Tryz.func13, Tryz.ntmps13
          go_wp2_with (first | ((with_reducible refine gate_dst (N := 1) rfl ?_); (try (refine gate_guard (by rfl) ?_; dsimp only)); refine xbe_ (N := 1) (cs := #[.string a0_0, .string a0_1, .int .i64 a0_2, .string a0_3, .string a0_4, .bool false]) (t := 24) ?_; intro gb232 hg w29 hbox hb; have BK232 := Aside0.mk (hbox); have GW232 := xge_ HB hg; have GE232 := xge_ HB hg; replace HB := xws_ HB hb; clear hb hbox hg; have ⟨_, _, _, _, _, _, _, _, _, _, _, _⟩ := c6_ BK232) | (go_at_call 25; (with_reducible refine (impl_within.calls (a0_1.size : Int) 1 60 true _ A3.out).mono ?_); rintro e w' ⟨rfl, ⟨nd, rfl⟩⟩) | (go_at_call 26; (with_reducible refine (xBytes_impl_GoodUrl_1.calls a0_1  true _ A5.out).mono ?_); rintro e w31 ⟨rfl, hb⟩; replace BK232 := xbb_ BK232 hb; replace HB := xws_ HB hb; (try clear hb); (try clear hb2); (try clear hk); (try clear hi); have ⟨_, _, _, _, _, _, _, _, _, _, _, _⟩ := c6_ BK232) | (go_at_call 25; (with_reducible refine (impl_within.calls a0_2 0 65535 true _ A7.out).mono ?_); rintro e w' ⟨rfl, ⟨nd, rfl⟩⟩) | (go_at_call 22; (with_reducible refine (strings_HasPrefix.calls a0_3 (⟨#[47]⟩ : ByteArray) true _ A9.out).mono ?_); rintro e w' ⟨rfl, ⟨nd, rfl⟩⟩) | (go_at_call 29; (with_reducible refine (impl_arePchars.calls k a0_3 (⟨#[47]⟩ : ByteArray) true _ A11.out).mono ?_); rintro e w' ⟨rfl, ⟨nd, rfl⟩⟩) | (go_at_call 29; (with_reducible refine (impl_arePchars.calls k a0_4 (⟨#[47, 63]⟩ : ByteArray) true _ A13.out).mono ?_); rintro e w' ⟨rfl, ⟨nd, rfl⟩⟩))
          go_ret
          exact ⟨by first | rfl | (simp [errW_none, errW_some] <;> rfl) | (simp [*, errW_none, errW_some] <;> rfl), xw_ HB⟩
       ·replace c14 := Bool.eq_false_iff.mpr c14
        subst c14
        have H1 : (some false) = some r := by rw [if_neg (show ¬ (false = true) by decide)] at H; exact H
        clear H
        have H := H1
        clear H1
        obtain rfl := Option.some.inj H
        go_enter Tryz.func13, Tryz.ntmps13
        go_wp2_with (first | ((with_reducible refine gate_dst (N := 1) rfl ?_); (try (refine gate_guard (by rfl) ?_; dsimp only)); refine xbe_ (N := 1) (cs := #[.string a0_0, .string a0_1, .int .i64 a0_2, .string a0_3, .string a0_4, .bool a0_5]) (t := 24) ?_; intro gb232 hg w33 hbox hb; have BK232 := Aside0.mk (hbox); have GW232 := xge_ HB hg; have GE232 := xge_ HB hg; replace HB := xws_ HB hb; clear hb hbox hg; have ⟨_, _, _, _, _, _, _, _, _, _, _, _⟩ := c6_ BK232) | (go_at_call 25; (with_reducible refine (impl_within.calls (a0_1.size : Int) 1 60 true _ A3.out).mono ?_); rintro e w' ⟨rfl, ⟨nd, rfl⟩⟩) | (go_at_call 26; (with_reducible refine (xBytes_impl_GoodUrl_1.calls a0_1  true _ A5.out).mono ?_); rintro e w35 ⟨rfl, hb⟩; replace BK232 := xbb_ BK232 hb; replace HB := xws_ HB hb; (try clear hb); (try clear hb2); (try clear hk); (try clear hi); have ⟨_, _, _, _, _, _, _, _, _, _, _, _⟩ := c6_ BK232) | (go_at_call 25; (with_reducible refine (impl_within.calls a0_2 0 65535 true _ A7.out).mono ?_); rintro e w' ⟨rfl, ⟨nd, rfl⟩⟩) | (go_at_call 22; (with_reducible refine (strings_HasPrefix.calls a0_3 (⟨#[47]⟩ : ByteArray) true _ A9.out).mono ?_); rintro e w' ⟨rfl, ⟨nd, rfl⟩⟩) | (go_at_call 29; (with_reducible refine (impl_arePchars.calls k a0_3 (⟨#[47]⟩ : ByteArray) true _ A11.out).mono ?_); rintro e w' ⟨rfl, ⟨nd, rfl⟩⟩) | (go_at_call 29; (with_reducible refine (impl_arePchars.calls k a0_4 (⟨#[47, 63]⟩ : ByteArray) false _ A13.out).mono ?_); rintro e w' ⟨rfl, ⟨nd, rfl⟩⟩))
        go_ret
        exact ⟨by first | rfl | (simp [errW_none, errW_some] <;> rfl) | (simp [*, errW_none, errW_some] <;> rfl), xw_ HB⟩
      ·replace c12 := Bool.eq_false_iff.mpr c12
       subst c12
       have H1 : (some false) = some r := by rw [if_neg (show ¬ (false = true) by decide)] at H; exact H
       clear H
       have H := H1
       clear H1
       obtain rfl := Option.some.inj H
       go_enter Tryz.func13, Tryz.ntmps13
       go_wp2_with (first | ((with_reducible refine gate_dst (N := 1) rfl ?_); (try (refine gate_guard (by rfl) ?_; dsimp only)); refine xbe_ (N := 1) (cs := #[.string a0_0, .string a0_1, .int .i64 a0_2, .string a0_3, .string a0_4, .bool a0_5]) (t := 24) ?_; intro gb232 hg w37 hbox hb; have BK232 := Aside0.mk (hbox); have GW232 := xge_ HB hg; have GE232 := xge_ HB hg; replace HB := xws_ HB hb; clear hb hbox hg; have ⟨_, _, _, _, _, _, _, _, _, _, _, _⟩ := c6_ BK232) | (go_at_call 25; (with_reducible refine (impl_within.calls (a0_1.size : Int) 1 60 true _ A3.out).mono ?_); rintro e w' ⟨rfl, ⟨nd, rfl⟩⟩) | (go_at_call 26; (with_reducible refine (xBytes_impl_GoodUrl_1.calls a0_1  true _ A5.out).mono ?_); rintro e w39 ⟨rfl, hb⟩; replace BK232 := xbb_ BK232 hb; replace HB := xws_ HB hb; (try clear hb); (try clear hb2); (try clear hk); (try clear hi); have ⟨_, _, _, _, _, _, _, _, _, _, _, _⟩ := c6_ BK232) | (go_at_call 25; (with_reducible refine (impl_within.calls a0_2 0 65535 true _ A7.out).mono ?_); rintro e w' ⟨rfl, ⟨nd, rfl⟩⟩) | (go_at_call 22; (with_reducible refine (strings_HasPrefix.calls a0_3 (⟨#[47]⟩ : ByteArray) true _ A9.out).mono ?_); rintro e w' ⟨rfl, ⟨nd, rfl⟩⟩) | (go_at_call 29; (with_reducible refine (impl_arePchars.calls k a0_3 (⟨#[47]⟩ : ByteArray) false _ A11.out).mono ?_); rintro e w' ⟨rfl, ⟨nd, rfl⟩⟩))
       go_ret
       exact ⟨by first | rfl | (simp [errW_none, errW_some] <;> rfl) | (simp [*, errW_none, errW_some] <;> rfl), xw_ HB⟩
     ·replace c10 := Bool.eq_false_iff.mpr c10
      subst c10
      have H1 : (some false) = some r := by rw [if_neg (show ¬ (false = true) by decide)] at H; exact H
      clear H
      have H := H1
      clear H1
      obtain rfl := Option.some.inj H
      go_enter Tryz.func13, Tryz.ntmps13
      go_wp2_with (first | ((with_reducible refine gate_dst (N := 1) rfl ?_); (try (refine gate_guard (by rfl) ?_; dsimp only)); refine xbe_ (N := 1) (cs := #[.string a0_0, .string a0_1, .int .i64 a0_2, .string a0_3, .string a0_4, .bool a0_5]) (t := 24) ?_; intro gb232 hg w41 hbox hb; have BK232 := Aside0.mk (hbox); have GW232 := xge_ HB hg; have GE232 := xge_ HB hg; replace HB := xws_ HB hb; clear hb hbox hg; have ⟨_, _, _, _, _, _, _, _, _, _, _, _⟩ := c6_ BK232) | (go_at_call 25; (with_reducible refine (impl_within.calls (a0_1.size : Int) 1 60 true _ A3.out).mono ?_); rintro e w' ⟨rfl, ⟨nd, rfl⟩⟩) | (go_at_call 26; (with_reducible refine (xBytes_impl_GoodUrl_1.calls a0_1  true _ A5.out).mono ?_); rintro e w43 ⟨rfl, hb⟩; replace BK232 := xbb_ BK232 hb; replace HB := xws_ HB hb; (try clear hb); (try clear hb2); (try clear hk); (try clear hi); have ⟨_, _, _, _, _, _, _, _, _, _, _, _⟩ := c6_ BK232) | (go_at_call 25; (with_reducible refine (impl_within.calls a0_2 0 65535 true _ A7.out).mono ?_); rintro e w' ⟨rfl, ⟨nd, rfl⟩⟩) | (go_at_call 22; (with_reducible refine (strings_HasPrefix.calls a0_3 (⟨#[47]⟩ : ByteArray) false _ A9.out).mono ?_); rintro e w' ⟨rfl, ⟨nd, rfl⟩⟩))
      go_ret
      exact ⟨by first | rfl | (simp [errW_none, errW_some] <;> rfl) | (simp [*, errW_none, errW_some] <;> rfl), xw_ HB⟩
    ·replace c8 := Bool.eq_false_iff.mpr c8
     subst c8
     have H1 : (some false) = some r := by rw [if_neg (show ¬ (false = true) by decide)] at H; exact H
     clear H
     have H := H1
     clear H1
     obtain rfl := Option.some.inj H
     go_enter Tryz.func13, Tryz.ntmps13
     go_wp2_with (first | ((with_reducible refine gate_dst (N := 1) rfl ?_); (try (refine gate_guard (by rfl) ?_; dsimp only)); refine xbe_ (N := 1) (cs := #[.string a0_0, .string a0_1, .int .i64 a0_2, .string a0_3, .string a0_4, .bool a0_5]) (t := 24) ?_; intro gb232 hg w45 hbox hb; have BK232 := Aside0.mk (hbox); have GW232 := xge_ HB hg; have GE232 := xge_ HB hg; replace HB := xws_ HB hb; clear hb hbox hg; have ⟨_, _, _, _, _, _, _, _, _, _, _, _⟩ := c6_ BK232) | (go_at_call 25; (with_reducible refine (impl_within.calls (a0_1.size : Int) 1 60 true _ A3.out).mono ?_); rintro e w' ⟨rfl, ⟨nd, rfl⟩⟩) | (go_at_call 26; (with_reducible refine (xBytes_impl_GoodUrl_1.calls a0_1  true _ A5.out).mono ?_); rintro e w47 ⟨rfl, hb⟩; replace BK232 := xbb_ BK232 hb; replace HB := xws_ HB hb; (try clear hb); (try clear hb2); (try clear hk); (try clear hi); have ⟨_, _, _, _, _, _, _, _, _, _, _, _⟩ := c6_ BK232) | (go_at_call 25; (with_reducible refine (impl_within.calls a0_2 0 65535 false _ A7.out).mono ?_); rintro e w' ⟨rfl, ⟨nd, rfl⟩⟩))
     go_ret
     exact ⟨by first | rfl | (simp [errW_none, errW_some] <;> rfl) | (simp [*, errW_none, errW_some] <;> rfl), xw_ HB⟩
   ·replace c6 := Bool.eq_false_iff.mpr c6
    subst c6
    have H1 : (some false) = some r := by rw [if_neg (show ¬ (false = true) by decide)] at H; exact H
    clear H
    have H := H1
    clear H1
    obtain rfl := Option.some.inj H
    go_enter Tryz.func13, Tryz.ntmps13
    go_wp2_with (first | ((with_reducible refine gate_dst (N := 1) rfl ?_); (try (refine gate_guard (by rfl) ?_; dsimp only)); refine xbe_ (N := 1) (cs := #[.string a0_0, .string a0_1, .int .i64 a0_2, .string a0_3, .string a0_4, .bool a0_5]) (t := 24) ?_; intro gb232 hg w49 hbox hb; have BK232 := Aside0.mk (hbox); have GW232 := xge_ HB hg; have GE232 := xge_ HB hg; replace HB := xws_ HB hb; clear hb hbox hg; have ⟨_, _, _, _, _, _, _, _, _, _, _, _⟩ := c6_ BK232) | (go_at_call 25; (with_reducible refine (impl_within.calls (a0_1.size : Int) 1 60 true _ A3.out).mono ?_); rintro e w' ⟨rfl, ⟨nd, rfl⟩⟩) | (go_at_call 26; (with_reducible refine (xBytes_impl_GoodUrl_1.calls a0_1  false _ A5.out).mono ?_); rintro e w51 ⟨rfl, hb⟩; replace BK232 := xbb_ BK232 hb; replace HB := xws_ HB hb; (try clear hb); (try clear hb2); (try clear hk); (try clear hi)))
    go_ret
    exact ⟨by first | rfl | (simp [errW_none, errW_some] <;> rfl) | (simp [*, errW_none, errW_some] <;> rfl), xw_ HB⟩
  ·replace c4 := Bool.eq_false_iff.mpr c4
   subst c4
   have H1 : (some false) = some r := by rw [if_neg (show ¬ (false = true) by decide)] at H; exact H
   clear H
   have H := H1
   clear H1
   obtain rfl := Option.some.inj H
   go_enter Tryz.func13, Tryz.ntmps13
   go_wp2_with (first | ((with_reducible refine gate_dst (N := 1) rfl ?_); (try (refine gate_guard (by rfl) ?_; dsimp only)); refine xbe_ (N := 1) (cs := #[.string a0_0, .string a0_1, .int .i64 a0_2, .string a0_3, .string a0_4, .bool a0_5]) (t := 24) ?_; intro gb232 hg w52 hbox hb; have BK232 := Aside0.mk (hbox); have GW232 := xge_ HB hg; have GE232 := xge_ HB hg; replace HB := xws_ HB hb; clear hb hbox hg; have ⟨_, _, _, _, _, _, _, _, _, _, _, _⟩ := c6_ BK232) | (go_at_call 25; (with_reducible refine (impl_within.calls (a0_1.size : Int) 1 60 false _ A3.out).mono ?_); rintro e w' ⟨rfl, ⟨nd, rfl⟩⟩))
   go_ret
   exact ⟨by first | rfl | (simp [errW_none, errW_some] <;> rfl) | (simp [*, errW_none, errW_some] <;> rfl), xw_ HB⟩
 ·rw [if_neg c2] at H
  have c2b0 : (a0_0.toList == ([104, 116, 116, 112] : List UInt8)) = false := beq_eq_false_iff_ne.mpr c2
  have c2b1 : (a0_0.toList != ([104, 116, 116, 112] : List UInt8)) = true := bne_iff_ne.mpr c2
  by_cases c54 : a0_0.toList = ([104, 116, 116, 112, 115] : List UInt8)
  ·rw [if_pos c54] at H
   have c54b0 : (a0_0.toList == ([104, 116, 116, 112, 115] : List UInt8)) = true := beq_iff_eq.mpr c54
   have c54b1 : (a0_0.toList != ([104, 116, 116, 112, 115] : List UInt8)) = false := bne_eq_false_iff_eq.mpr c54
   clear c54
   replace H := Option.bind_eq_some_iff.mp H
   obtain ⟨t241, A550, H⟩ := H
   replace H : (if t241 = true then ((xBytes_impl_GoodUrl_1.f a0_1).bind fun t242 => (if t242 = true then ((impl_within.f a0_2 0 65535).bind fun t243 => (if t243 = true then ((strings_HasPrefix.f a0_3 (⟨#[47]⟩ : ByteArray)).bind fun t244 => (if t244 = true then ((impl_arePchars.f k a0_3 (⟨#[47]⟩ : ByteArray)).bind fun t245 => (if t245 = true then ((impl_arePchars.f k a0_4 (⟨#[47, 63]⟩ : ByteArray)).bind fun t246 => (if t246 = true then (if a0_5 = true then ((impl_urlText.f a0_0 a0_1 a0_2 a0_3 a0_4 a0_5).bind fun t247 => (some (decide ((t247.size : Int) ≤ 200)))) else (if a0_4.toList = ([] : List UInt8) then ((impl_urlText.f a0_0 a0_1 a0_2 a0_3 a0_4 a0_5).bind fun t248 => (some (decide ((t248.size : Int) ≤ 200)))) else (some false))) else (some false))) else (some false))) else (some false))) else (some false))) else (some false))) else (some false)) = some r := H
   have A55 := Aside0.mk A550
   clear A550
   by_cases c56 : t241 = true
   ·subst c56
    have H1 : ((xBytes_impl_GoodUrl_1.f a0_1).bind fun t242 => (if t242 = true then ((impl_within.f a0_2 0 65535).bind fun t243 => (if t243 = true then ((strings_HasPrefix.f a0_3 (⟨#[47]⟩ : ByteArray)).bind fun t244 => (if t244 = true then ((impl_arePchars.f k a0_3 (⟨#[47]⟩ : ByteArray)).bind fun t245 => (if t245 = true then ((impl_arePchars.f k a0_4 (⟨#[47, 63]⟩ : ByteArray)).bind fun t246 => (if t246 = true then (if a0_5 = true then ((impl_urlText.f a0_0 a0_1 a0_2 a0_3 a0_4 a0_5).bind fun t247 => (some (decide ((t247.size : Int) ≤ 200)))) else (if a0_4.toList = ([] : List UInt8) then ((impl_urlText.f a0_0 a0_1 a0_2 a0_3 a0_4 a0_5).bind fun t248 => (some (decide ((t248.size : Int) ≤ 200)))) else (some false))) else (some false))) else (some false))) else (some false))) else (some false))) else (some false))) = some r := by rw [if_pos rfl] at H; exact H
    clear H
    have H := H1
    clear H1
    replace H := Option.bind_eq_some_iff.mp H
    obtain ⟨t242, A570, H⟩ := H
    replace H : (if t242 = true then ((impl_within.f a0_2 0 65535).bind fun t243 => (if t243 = true then ((strings_HasPrefix.f a0_3 (⟨#[47]⟩ : ByteArray)).bind fun t244 => (if t244 = true then ((impl_arePchars.f k a0_3 (⟨#[47]⟩ : ByteArray)).bind fun t245 => (if t245 = true then ((impl_arePchars.f k a0_4 (⟨#[47, 63]⟩ : ByteArray)).bind fun t246 => (if t246 = true then (if a0_5 = true then ((impl_urlText.f a0_0 a0_1 a0_2 a0_3 a0_4 a0_5).bind fun t247 => (some (decide ((t247.size : Int) ≤ 200)))) else (if a0_4.toList = ([] : List UInt8) then ((impl_urlText.f a0_0 a0_1 a0_2 a0_3 a0_4 a0_5).bind fun t248 => (some (decide ((t248.size : Int) ≤ 200)))) else (some false))) else (some false))) else (some false))) else (some false))) else (some false))) else (some false)) = some r := H
    have A57 := Aside0.mk A570
    clear A570
    by_cases c58 : t242 = true
    ·subst c58
     have H1 : ((impl_within.f a0_2 0 65535).bind fun t243 => (if t243 = true then ((strings_HasPrefix.f a0_3 (⟨#[47]⟩ : ByteArray)).bind fun t244 => (if t244 = true then ((impl_arePchars.f k a0_3 (⟨#[47]⟩ : ByteArray)).bind fun t245 => (if t245 = true then ((impl_arePchars.f k a0_4 (⟨#[47, 63]⟩ : ByteArray)).bind fun t246 => (if t246 = true then (if a0_5 = true then ((impl_urlText.f a0_0 a0_1 a0_2 a0_3 a0_4 a0_5).bind fun t247 => (some (decide ((t247.size : Int) ≤ 200)))) else (if a0_4.toList = ([] : List UInt8) then ((impl_urlText.f a0_0 a0_1 a0_2 a0_3 a0_4 a0_5).bind fun t248 => (some (decide ((t248.size : Int) ≤ 200)))) else (some false))) else (some false))) else (some false))) else (some false))) else (some false))) = some r := by rw [if_pos rfl] at H; exact H
     clear H
     have H := H1
     clear H1
     replace H := Option.bind_eq_some_iff.mp H
     obtain ⟨t243, A590, H⟩ := H
     replace H : (if t243 = true then ((strings_HasPrefix.f a0_3 (⟨#[47]⟩ : ByteArray)).bind fun t244 => (if t244 = true then ((impl_arePchars.f k a0_3 (⟨#[47]⟩ : ByteArray)).bind fun t245 => (if t245 = true then ((impl_arePchars.f k a0_4 (⟨#[47, 63]⟩ : ByteArray)).bind fun t246 => (if t246 = true then (if a0_5 = true then ((impl_urlText.f a0_0 a0_1 a0_2 a0_3 a0_4 a0_5).bind fun t247 => (some (decide ((t247.size : Int) ≤ 200)))) else (if a0_4.toList = ([] : List UInt8) then ((impl_urlText.f a0_0 a0_1 a0_2 a0_3 a0_4 a0_5).bind fun t248 => (some (decide ((t248.size : Int) ≤ 200)))) else (some false))) else (some false))) else (some false))) else (some false))) else (some false)) = some r := H
     have A59 := Aside0.mk A590
     clear A590
     by_cases c60 : t243 = true
     ·subst c60
      have H1 : ((strings_HasPrefix.f a0_3 (⟨#[47]⟩ : ByteArray)).bind fun t244 => (if t244 = true then ((impl_arePchars.f k a0_3 (⟨#[47]⟩ : ByteArray)).bind fun t245 => (if t245 = true then ((impl_arePchars.f k a0_4 (⟨#[47, 63]⟩ : ByteArray)).bind fun t246 => (if t246 = true then (if a0_5 = true then ((impl_urlText.f a0_0 a0_1 a0_2 a0_3 a0_4 a0_5).bind fun t247 => (some (decide ((t247.size : Int) ≤ 200)))) else (if a0_4.toList = ([] : List UInt8) then ((impl_urlText.f a0_0 a0_1 a0_2 a0_3 a0_4 a0_5).bind fun t248 => (some (decide ((t248.size : Int) ≤ 200)))) else (some false))) else (some false))) else (some false))) else (some false))) = some r := by rw [if_pos rfl] at H; exact H
      clear H
      have H := H1
      clear H1
      replace H := Option.bind_eq_some_iff.mp H
      obtain ⟨t244, A610, H⟩ := H
      replace H : (if t244 = true then ((impl_arePchars.f k a0_3 (⟨#[47]⟩ : ByteArray)).bind fun t245 => (if t245 = true then ((impl_arePchars.f k a0_4 (⟨#[47, 63]⟩ : ByteArray)).bind fun t246 => (if t246 = true then (if a0_5 = true then ((impl_urlText.f a0_0 a0_1 a0_2 a0_3 a0_4 a0_5).bind fun t247 => (some (decide ((t247.size : Int) ≤ 200)))) else (if a0_4.toList = ([] : List UInt8) then ((impl_urlText.f a0_0 a0_1 a0_2 a0_3 a0_4 a0_5).bind fun t248 => (some (decide ((t248.size : Int) ≤ 200)))) else (some false))) else (some false))) else (some false))) else (some false)) = some r := H
      have A61 := Aside0.mk A610
      clear A610
      by_cases c62 : t244 = true
      ·subst c62
       have H1 : ((impl_arePchars.f k a0_3 (⟨#[47]⟩ : ByteArray)).bind fun t245 => (if t245 = true then ((impl_arePchars.f k a0_4 (⟨#[47, 63]⟩ : ByteArray)).bind fun t246 => (if t246 = true then (if a0_5 = true then ((impl_urlText.f a0_0 a0_1 a0_2 a0_3 a0_4 a0_5).bind fun t247 => (some (decide ((t247.size : Int) ≤ 200)))) else (if a0_4.toList = ([] : List UInt8) then ((impl_urlText.f a0_0 a0_1 a0_2 a0_3 a0_4 a0_5).bind fun t248 => (some (decide ((t248.size : Int) ≤ 200)))) else (some false))) else (some false))) else (some false))) = some r := by rw [if_pos rfl] at H; exact H
       clear H
       have H := H1
       clear H1
       replace H := Option.bind_eq_some_iff.mp H
       obtain ⟨t245, A630, H⟩ := H
       replace H : (if t245 = true then ((impl_arePchars.f k a0_4 (⟨#[47, 63]⟩ : ByteArray)).bind fun t246 => (if t246 = true then (if a0_5 = true then ((impl_urlText.f a0_0 a0_1 a0_2 a0_3 a0_4 a0_5).bind fun t247 => (some (decide ((t247.size : Int) ≤ 200)))) else (if a0_4.toList = ([] : List UInt8) then ((impl_urlText.f a0_0 a0_1 a0_2 a0_3 a0_4 a0_5).bind fun t248 => (some (decide ((t248.size : Int) ≤ 200)))) else (some false))) else (some false))) else (some false)) = some r := H
       have A63 := Aside0.mk A630
       clear A630
       by_cases c64 : t245 = true
       ·subst c64
        have H1 : ((impl_arePchars.f k a0_4 (⟨#[47, 63]⟩ : ByteArray)).bind fun t246 => (if t246 = true then (if a0_5 = true then ((impl_urlText.f a0_0 a0_1 a0_2 a0_3 a0_4 a0_5).bind fun t247 => (some (decide ((t247.size : Int) ≤ 200)))) else (if a0_4.toList = ([] : List UInt8) then ((impl_urlText.f a0_0 a0_1 a0_2 a0_3 a0_4 a0_5).bind fun t248 => (some (decide ((t248.size : Int) ≤ 200)))) else (some false))) else (some false))) = some r := by rw [if_pos rfl] at H; exact H
        clear H
        have H := H1
        clear H1
        replace H := Option.bind_eq_some_iff.mp H
        obtain ⟨t246, A650, H⟩ := H
        replace H : (if t246 = true then (if a0_5 = true then ((impl_urlText.f a0_0 a0_1 a0_2 a0_3 a0_4 a0_5).bind fun t247 => (some (decide ((t247.size : Int) ≤ 200)))) else (if a0_4.toList = ([] : List UInt8) then ((impl_urlText.f a0_0 a0_1 a0_2 a0_3 a0_4 a0_5).bind fun t248 => (some (decide ((t248.size : Int) ≤ 200)))) else (some false))) else (some false)) = some r := H
        have A65 := Aside0.mk A650
        clear A650
        by_cases c66 : t246 = true
        ·subst c66
         have H1 : (if a0_5 = true then ((impl_urlText.f a0_0 a0_1 a0_2 a0_3 a0_4 a0_5).bind fun t247 => (some (decide ((t247.size : Int) ≤ 200)))) else (if a0_4.toList = ([] : List UInt8) then ((impl_urlText.f a0_0 a0_1 a0_2 a0_3 a0_4 a0_5).bind fun t248 => (some (decide ((t248.size : Int) ≤ 200)))) else (some false))) = some r := by rw [if_pos rfl] at H; exact H
         clear H
         have H := H1
         clear H1
         by_cases c67 : a0_5 = true
         ·subst c67
          have H1 : ((impl_urlText.f a0_0 a0_1 a0_2 a0_3 a0_4 true).bind fun t247 => (some (decide ((t247.size : Int) ≤ 200)))) = some r := by rw [if_pos rfl] at H; exact H
          clear H
          have H := H1
          clear H1
          replace H := Option.bind_eq_some_iff.mp H
          obtain ⟨t247, A680, H⟩ := H
          replace H : (some (decide ((t247.size : Int) ≤ 200))) = some r := H
          have A68 := Aside0.mk A680
          clear A680
          obtain rfl := Option.some.inj H
          go_enter Tryz.func13, Tryz.ntmps13
          go_wp2_with (first | ((with_reducible refine gate_dst (N := 1) rfl ?_); (try (refine gate_guard (by rfl) ?_; dsimp only)); refine xbe_ (N := 1) (cs := #[.string a0_0, .string a0_1, .int .i64 a0_2, .string a0_3, .string a0_4, .bool true]) (t := 24) ?_; intro gb232 hg w69 hbox hb; have BK232 := Aside0.mk (hbox); have GW232 := xge_ HB hg; have GE232 := xge_ HB hg; replace HB := xws_ HB hb; clear hb hbox hg; have ⟨_, _, _, _, _, _, _, _, _, _, _, _⟩ := c6_ BK232) | (go_at_call 25; (with_reducible refine (impl_within.calls (a0_1.size : Int) 1 60 true _ A55.out).mono ?_); rintro e w' ⟨rfl, ⟨nd, rfl⟩⟩) | (go_at_call 26; (with_reducible refine (xBytes_impl_GoodUrl_1.calls a0_1  true _ A57.out).mono ?_); rintro e w71 ⟨rfl, hb⟩; replace BK232 := xbb_ BK232 hb; replace HB := xws_ HB hb; (try clear hb); (try clear hb2); (try clear hk); (try clear hi); have ⟨_, _, _, _, _, _, _, _, _, _, _, _⟩ := c6_ BK232) | (go_at_call 25; (with_reducible refine (impl_within.calls a0_2 0 65535 true _ A59.out).mono ?_); rintro e w' ⟨rfl, ⟨nd, rfl⟩⟩) | (go_at_call 22; (with_reducible refine (strings_HasPrefix.calls a0_3 (⟨#[47]⟩ : ByteArray) true _ A61.out).mono ?_); rintro e w' ⟨rfl, ⟨nd, rfl⟩⟩) | (go_at_call 29; (with_reducible refine (impl_arePchars.calls k a0_3 (⟨#[47]⟩ : ByteArray) true _ A63.out).mono ?_); rintro e w' ⟨rfl, ⟨nd, rfl⟩⟩) | (go_at_call 29; (with_reducible refine (impl_arePchars.calls k a0_4 (⟨#[47, 63]⟩ : ByteArray) true _ A65.out).mono ?_); rintro e w' ⟨rfl, ⟨nd, rfl⟩⟩) | (go_at_call 21; (with_reducible refine (impl_urlText.calls a0_0 a0_1 a0_2 a0_3 a0_4 true t247 _ A68.out (HTB_.out.below (by first | (with_reducible exact Below.refl _ _) | (repeat (first | (with_reducible first | exact HB.out | exact Below.refl _ _ | apply below_alloc | apply pw_below_drewN | apply below_drew1 | refine below_set ?_ GE232.out) | exact HB.out)) | (repeat (first | exact Below.refl _ _ | apply below_alloc | apply pw_below_drewN | apply below_drew1 | refine below_set ?_ GE232.out))))).mono ?_); rintro e w73 ⟨rfl, hb⟩; replace BK232 := xbb_ BK232 hb; replace HB := xws_ HB hb; (try clear hb); (try clear hb2); (try clear hk); (try clear hi)))
          go_ret
          exact ⟨by first | rfl | (simp [errW_none, errW_some] <;> rfl) | (simp [*, errW_none, errW_some] <;> rfl), xw_ HB⟩
         ·replace c67 := Bool.eq_false_iff.mpr c67
          subst c67
          have H1 : (if a0_4.toList = ([] : List UInt8) then ((impl_urlText.f a0_0 a0_1 a0_2 a0_3 a0_4 false).bind fun t248 => (some (decide ((t248.size : Int) ≤ 200)))) else (some false)) = some r := by rw [if_neg (show ¬ (false = true) by decide)] at H; exact H
          clear H
          have H := H1
          clear H1
          by_cases c74 : a0_4.toList = ([] : List UInt8)
          ·rw [if_pos c74] at H
           have c74b0 : (a0_4.toList == ([] : List UInt8)) = true := beq_iff_eq.mpr c74
           have c74b1 : (a0_4.toList != ([] : List UInt8)) = false := bne_eq_false_iff_eq.mpr c74
           clear c74
           replace H := Option.bind_eq_some_iff.mp H
           obtain ⟨t248, A750, H⟩ := H
           replace H : (some (decide ((t248.size : Int) ≤ 200))) = some r := H
           have A75 := Aside0.mk A750
           clear A750
           obtain rfl := Option.some.inj H
           go_enter Tryz.func13, Tryz.ntmps13
           go_wp2_with (first | ((with_reducible refine gate_dst (N := 1) rfl ?_); (try (refine gate_guard (by rfl) ?_; dsimp only)); refine xbe_ (N := 1) (cs := #[.string a0_0, .string a0_1, .int .i64 a0_2, .string a0_3, .string a0_4, .bool false]) (t := 24) ?_; intro gb232 hg w76 hbox hb; have BK232 := Aside0.mk (hbox); have GW232 := xge_ HB hg; have GE232 := xge_ HB hg; replace HB := xws_ HB hb; clear hb hbox hg; have ⟨_, _, _, _, _, _, _, _, _, _, _, _⟩ := c6_ BK232) | (go_at_call 25; (with_reducible refine (impl_within.calls (a0_1.size : Int) 1 60 true _ A55.out).mono ?_); rintro e w' ⟨rfl, ⟨nd, rfl⟩⟩) | (go_at_call 26; (with_reducible refine (xBytes_impl_GoodUrl_1.calls a0_1  true _ A57.out).mono ?_); rintro e w78 ⟨rfl, hb⟩; replace BK232 := xbb_ BK232 hb; replace HB := xws_ HB hb; (try clear hb); (try clear hb2); (try clear hk); (try clear hi); have ⟨_, _, _, _, _, _, _, _, _, _, _, _⟩ := c6_ BK232) | (go_at_call 25; (with_reducible refine (impl_within.calls a0_2 0 65535 true _ A59.out).mono ?_); rintro e w' ⟨rfl, ⟨nd, rfl⟩⟩) | (go_at_call 22; (with_reducible refine (strings_HasPrefix.calls a0_3 (⟨#[47]⟩ : ByteArray) true _ A61.out).mono ?_); rintro e w' ⟨rfl, ⟨nd, rfl⟩⟩) | (go_at_call 29; (with_reducible refine (impl_arePchars.calls k a0_3 (⟨#[47]⟩ : ByteArray) true _ A63.out).mono ?_); rintro e w' ⟨rfl, ⟨nd, rfl⟩⟩) | (go_at_call 29; (with_reducible refine (impl_arePchars.calls k a0_4 (⟨#[47, 63]⟩ : ByteArray) true _ A65.out).mono ?_); rintro e w' ⟨rfl, ⟨nd, rfl⟩⟩) | (go_at_call 21; (with_reducible refine (impl_urlText.calls a0_0 a0_1 a0_2 a0_3 a0_4 false t248 _ A75.out (HTB_.out.below (by first | (with_reducible exact Below.refl _ _) | (repeat (first | (with_reducible first | exact HB.out | exact Below.refl _ _ | apply below_alloc | apply pw_below_drewN | apply below_drew1 | refine below_set ?_ GE232.out) | exact HB.out)) | (repeat (first | exact Below.refl _ _ | apply below_alloc | apply pw_below_drewN | apply below_drew1 | refine below_set ?_ GE232.out))))).mono ?_); rintro e w80 ⟨rfl, hb⟩; replace BK232 := xbb_ BK232 hb; replace HB := xws_ HB hb; (try clear hb); (try clear hb2); (try clear hk); (try clear hi)))
           go_ret
           exact ⟨by first | rfl | (simp [errW_none, errW_some] <;> rfl) | (simp [*, errW_none, errW_some] <;> rfl), xw_ HB⟩
          ·rw [if_neg c74] at H
           have c74b0 : (a0_4.toList == ([] : List UInt8)) = false := beq_eq_false_iff_ne.mpr c74
           have c74b1 : (a0_4.toList != ([] : List UInt8)) = true := bne_iff_ne.mpr c74
           obtain rfl := Option.some.inj H
           go_enter Tryz.func13, Tryz.ntmps13
           go_wp2_with (first | ((with_reducible refine gate_dst (N := 1) rfl ?_); (try (refine gate_guard (by rfl) ?_; dsimp only)); refine xbe_ (N := 1) (cs := #[.string a0_0, .string a0_1, .int .i64 a0_2, .string a0_3, .string a0_4, .bool false]) (t := 24) ?_; intro gb232 hg w81 hbox hb; have BK232 := Aside0.mk (hbox); have GW232 := xge_ HB hg; have GE232 := xge_ HB hg; replace HB := xws_ HB hb; clear hb hbox hg; have ⟨_, _, _, _, _, _, _, _, _, _, _, _⟩ := c6_ BK232) | (go_at_call 25; (with_reducible refine (impl_within.calls (a0_1.size : Int) 1 60 true _ A55.out).mono ?_); rintro e w' ⟨rfl, ⟨nd, rfl⟩⟩) | (go_at_call 26; (with_reducible refine (xBytes_impl_GoodUrl_1.calls a0_1  true _ A57.out).mono ?_); rintro e w83 ⟨rfl, hb⟩; replace BK232 := xbb_ BK232 hb; replace HB := xws_ HB hb; (try clear hb); (try clear hb2); (try clear hk); (try clear hi); have ⟨_, _, _, _, _, _, _, _, _, _, _, _⟩ := c6_ BK232) | (go_at_call 25; (with_reducible refine (impl_within.calls a0_2 0 65535 true _ A59.out).mono ?_); rintro e w' ⟨rfl, ⟨nd, rfl⟩⟩) | (go_at_call 22; (with_reducible refine (strings_HasPrefix.calls a0_3 (⟨#[47]⟩ : ByteArray) true _ A61.out).mono ?_); rintro e w' ⟨rfl, ⟨nd, rfl⟩⟩) | (go_at_call 29; (with_reducible refine (impl_arePchars.calls k a0_3 (⟨#[47]⟩ : ByteArray) true _ A63.out).mono ?_); rintro e w' ⟨rfl, ⟨nd, rfl⟩⟩) | (go_at_call 29; (with_reducible refine (impl_arePchars.calls k a0_4 (⟨#[47, 63]⟩ : ByteArray) true _ A65.out).mono ?_); rintro e w' ⟨rfl, ⟨nd, rfl⟩⟩))
           go_ret
           exact ⟨by first | rfl | (simp [errW_none, errW_some] <;> rfl) | (simp [*, errW_none, errW_some] <;> rfl), xw_ HB⟩
        ·replace c66 := Bool.eq_false_iff.mpr c66
         subst c66
         have H1 : (some false) = some r := by rw [if_neg (show ¬ (false = true) by decide)] at H; exact H
         clear H
         have H := H1
         clear H1
         obtain rfl := Option.some.inj H
         go_enter Tryz.func13, Tryz.ntmps13
         go_wp2_with (first | ((with_reducible refine gate_dst (N := 1) rfl ?_); (try (refine gate_guard (by rfl) ?_; dsimp only)); refine xbe_ (N := 1) (cs := #[.string a0_0, .string a0_1, .int .i64 a0_2, .string a0_3, .string a0_4, .bool a0_5]) (t := 24) ?_; intro gb232 hg w85 hbox hb; have BK232 := Aside0.mk (hbox); have GW232 := xge_ HB hg; have GE232 := xge_ HB hg; replace HB := xws_ HB hb; clear hb hbox hg; have ⟨_, _, _, _, _, _, _, _, _, _, _, _⟩ := c6_ BK232) | (go_at_call 25; (with_reducible refine (impl_within.calls (a0_1.size : Int) 1 60 true _ A55.out).mono ?_); rintro e w' ⟨rfl, ⟨nd, rfl⟩⟩) | (go_at_call 26; (with_reducible refine (xBytes_impl_GoodUrl_1.calls a0_1  true _ A57.out).mono ?_); rintro e w87 ⟨rfl, hb⟩; replace BK232 := xbb_ BK232 hb; replace HB := xws_ HB hb; (try clear hb); (try clear hb2); (try clear hk); (try clear hi); have ⟨_, _, _, _, _, _, _, _, _, _, _, _⟩ := c6_ BK232) | (go_at_call 25; (with_reducible refine (impl_within.calls a0_2 0 65535 true _ A59.out).mono ?_); rintro e w' ⟨rfl, ⟨nd, rfl⟩⟩) | (go_at_call 22; (with_reducible refine (strings_HasPrefix.calls a0_3 (⟨#[47]⟩ : ByteArray) true _ A61.out).mono ?_); rintro e w' ⟨rfl, ⟨nd, rfl⟩⟩) | (go_at_call 29; (with_reducible refine (impl_arePchars.calls k a0_3 (⟨#[47]⟩ : ByteArray) true _ A63.out).mono ?_); rintro e w' ⟨rfl, ⟨nd, rfl⟩⟩) | (go_at_call 29; (with_reducible refine (impl_arePchars.calls k a0_4 (⟨#[47, 63]⟩ : ByteArray) false _ A65.out).mono ?_); rintro e w' ⟨rfl, ⟨nd, rfl⟩⟩))
         go_ret
         exact ⟨by first | rfl | (simp [errW_none, errW_some] <;> rfl) | (simp [*, errW_none, errW_some] <;> rfl), xw_ HB⟩
       ·replace c64 := Bool.eq_false_iff.mpr c64
        subst c64
        have H1 : (some false) = some r := by rw [if_neg (show ¬ (false = true) by decide)] at H; exact H
        clear H
        have H := H1
        clear H1
        obtain rfl := Option.some.inj H
        go_enter Tryz.func13, Tryz.ntmps13
        go_wp2_with (first | ((with_reducible refine gate_dst (N := 1) rfl ?_); (try (refine gate_guard (by rfl) ?_; dsimp only)); refine xbe_ (N := 1) (cs := #[.string a0_0, .string a0_1, .int .i64 a0_2, .string a0_3, .string a0_4, .bool a0_5]) (t := 24) ?_; intro gb232 hg w89 hbox hb; have BK232 := Aside0.mk (hbox); have GW232 := xge_ HB hg; have GE232 := xge_ HB hg; replace HB := xws_ HB hb; clear hb hbox hg; have ⟨_, _, _, _, _, _, _, _, _, _, _, _⟩ := c6_ BK232) | (go_at_call 25; (with_reducible refine (impl_within.calls (a0_1.size : Int) 1 60 true _ A55.out).mono ?_); rintro e w' ⟨rfl, ⟨nd, rfl⟩⟩) | (go_at_call 26; (with_reducible refine (xBytes_impl_GoodUrl_1.calls a0_1  true _ A57.out).mono ?_); rintro e w91 ⟨rfl, hb⟩; replace BK232 := xbb_ BK232 hb; replace HB := xws_ HB hb; (try clear hb); (try clear hb2); (try clear hk); (try clear hi); have ⟨_, _, _, _, _, _, _, _, _, _, _, _⟩ := c6_ BK232) | (go_at_call 25; (with_reducible refine (impl_within.calls a0_2 0 65535 true _ A59.out).mono ?_); rintro e w' ⟨rfl, ⟨nd, rfl⟩⟩) | (go_at_call 22; (with_reducible refine (strings_HasPrefix.calls a0_3 (⟨#[47]⟩ : ByteArray) true _ A61.out).mono ?_); rintro e w' ⟨rfl, ⟨nd, rfl⟩⟩) | (go_at_call 29; (with_reducible refine (impl_arePchars.calls k a0_3 (⟨#[47]⟩ : ByteArray) false _ A63.out).mono ?_); rintro e w' ⟨rfl, ⟨nd, rfl⟩⟩))
        go_ret
        exact ⟨by first | rfl | (simp [errW_none, errW_some] <;> rfl) | (simp [*, errW_none, errW_some] <;> rfl), xw_ HB⟩
      ·replace c62 := Bool.eq_false_iff.mpr c62
       subst c62
       have H1 : (some false) = some r := by rw [if_neg (show ¬ (false = true) by decide)] at H; exact H
       clear H
       have H := H1
       clear H1
       obtain rfl := Option.some.inj H
       go_enter Tryz.func13, Tryz.ntmps13
       go_wp2_with (first | ((with_reducible refine gate_dst (N := 1) rfl ?_); (try (refine gate_guard (by rfl) ?_; dsimp only)); refine xbe_ (N := 1) (cs := #[.string a0_0, .string a0_1, .int .i64 a0_2, .string a0_3, .string a0_4, .bool a0_5]) (t := 24) ?_; intro gb232 hg w93 hbox hb; have BK232 := Aside0.mk (hbox); have GW232 := xge_ HB hg; have GE232 := xge_ HB hg; replace HB := xws_ HB hb; clear hb hbox hg; have ⟨_, _, _, _, _, _, _, _, _, _, _, _⟩ := c6_ BK232) | (go_at_call 25; (with_reducible refine (impl_within.calls (a0_1.size : Int) 1 60 true _ A55.out).mono ?_); rintro e w' ⟨rfl, ⟨nd, rfl⟩⟩) | (go_at_call 26; (with_reducible refine (xBytes_impl_GoodUrl_1.calls a0_1  true _ A57.out).mono ?_); rintro e w95 ⟨rfl, hb⟩; replace BK232 := xbb_ BK232 hb; replace HB := xws_ HB hb; (try clear hb); (try clear hb2); (try clear hk); (try clear hi); have ⟨_, _, _, _, _, _, _, _, _, _, _, _⟩ := c6_ BK232) | (go_at_call 25; (with_reducible refine (impl_within.calls a0_2 0 65535 true _ A59.out).mono ?_); rintro e w' ⟨rfl, ⟨nd, rfl⟩⟩) | (go_at_call 22; (with_reducible refine (strings_HasPrefix.calls a0_3 (⟨#[47]⟩ : ByteArray) false _ A61.out).mono ?_); rintro e w' ⟨rfl, ⟨nd, rfl⟩⟩))
       go_ret
       exact ⟨by first | rfl | (simp [errW_none, errW_some] <;> rfl) | (simp [*, errW_none, errW_some] <;> rfl), xw_ HB⟩
     ·replace c60 := Bool.eq_false_iff.mpr c60
      subst c60
      have H1 : (some false) = some r := by rw [if_neg (show ¬ (false = true) by decide)] at H; exact H
      clear H
      have H := H1
      clear H1
      obtain rfl := Option.some.inj H
      go_enter Tryz.func13, Tryz.ntmps13
      go_wp2_with (first | ((with_reducible refine gate_dst (N := 1) rfl ?_); (try (refine gate_guard (by rfl) ?_; dsimp only)); refine xbe_ (N := 1) (cs := #[.string a0_0, .string a0_1, .int .i64 a0_2, .string a0_3, .string a0_4, .bool a0_5]) (t := 24) ?_; intro gb232 hg w97 hbox hb; have BK232 := Aside0.mk (hbox); have GW232 := xge_ HB hg; have GE232 := xge_ HB hg; replace HB := xws_ HB hb; clear hb hbox hg; have ⟨_, _, _, _, _, _, _, _, _, _, _, _⟩ := c6_ BK232) | (go_at_call 25; (with_reducible refine (impl_within.calls (a0_1.size : Int) 1 60 true _ A55.out).mono ?_); rintro e w' ⟨rfl, ⟨nd, rfl⟩⟩) | (go_at_call 26; (with_reducible refine (xBytes_impl_GoodUrl_1.calls a0_1  true _ A57.out).mono ?_); rintro e w99 ⟨rfl, hb⟩; replace BK232 := xbb_ BK232 hb; replace HB := xws_ HB hb; (try clear hb); (try clear hb2); (try clear hk); (try clear hi); have ⟨_, _, _, _, _, _, _, _, _, _, _, _⟩ := c6_ BK232) | (go_at_call 25; (with_reducible refine (impl_within.calls a0_2 0 65535 false _ A59.out).mono ?_); rintro e w' ⟨rfl, ⟨nd, rfl⟩⟩))
      go_ret
      exact ⟨by first | rfl | (simp [errW_none, errW_some] <;> rfl) | (simp [*, errW_none, errW_some] <;> rfl), xw_ HB⟩
    ·replace c58 := Bool.eq_false_iff.mpr c58
     subst c58
     have H1 : (some false) = some r := by rw [if_neg (show ¬ (false = true) by decide)] at H; exact H
     clear H
     have H := H1
     clear H1
     obtain rfl := Option.some.inj H
     go_enter Tryz.func13, Tryz.ntmps13
     go_wp2_with (first | ((with_reducible refine gate_dst (N := 1) rfl ?_); (try (refine gate_guard (by rfl) ?_; dsimp only)); refine xbe_ (N := 1) (cs := #[.string a0_0, .string a0_1, .int .i64 a0_2, .string a0_3, .string a0_4, .bool a0_5]) (t := 24) ?_; intro gb232 hg w101 hbox hb; have BK232 := Aside0.mk (hbox); have GW232 := xge_ HB hg; have GE232 := xge_ HB hg; replace HB := xws_ HB hb; clear hb hbox hg; have ⟨_, _, _, _, _, _, _, _, _, _, _, _⟩ := c6_ BK232) | (go_at_call 25; (with_reducible refine (impl_within.calls (a0_1.size : Int) 1 60 true _ A55.out).mono ?_); rintro e w' ⟨rfl, ⟨nd, rfl⟩⟩) | (go_at_call 26; (with_reducible refine (xBytes_impl_GoodUrl_1.calls a0_1  false _ A57.out).mono ?_); rintro e w103 ⟨rfl, hb⟩; replace BK232 := xbb_ BK232 hb; replace HB := xws_ HB hb; (try clear hb); (try clear hb2); (try clear hk); (try clear hi)))
     go_ret
     exact ⟨by first | rfl | (simp [errW_none, errW_some] <;> rfl) | (simp [*, errW_none, errW_some] <;> rfl), xw_ HB⟩
   ·replace c56 := Bool.eq_false_iff.mpr c56
    subst c56
    have H1 : (some false) = some r := by rw [if_neg (show ¬ (false = true) by decide)] at H; exact H
    clear H
    have H := H1
    clear H1
    obtain rfl := Option.some.inj H
    go_enter Tryz.func13, Tryz.ntmps13
    go_wp2_with (first | ((with_reducible refine gate_dst (N := 1) rfl ?_); (try (refine gate_guard (by rfl) ?_; dsimp only)); refine xbe_ (N := 1) (cs := #[.string a0_0, .string a0_1, .int .i64 a0_2, .string a0_3, .string a0_4, .bool a0_5]) (t := 24) ?_; intro gb232 hg w104 hbox hb; have BK232 := Aside0.mk (hbox); have GW232 := xge_ HB hg; have GE232 := xge_ HB hg; replace HB := xws_ HB hb; clear hb hbox hg; have ⟨_, _, _, _, _, _, _, _, _, _, _, _⟩ := c6_ BK232) | (go_at_call 25; (with_reducible refine (impl_within.calls (a0_1.size : Int) 1 60 false _ A55.out).mono ?_); rintro e w' ⟨rfl, ⟨nd, rfl⟩⟩))
    go_ret
    exact ⟨by first | rfl | (simp [errW_none, errW_some] <;> rfl) | (simp [*, errW_none, errW_some] <;> rfl), xw_ HB⟩
  ·rw [if_neg c54] at H
   have c54b0 : (a0_0.toList == ([104, 116, 116, 112, 115] : List UInt8)) = false := beq_eq_false_iff_ne.mpr c54
   have c54b1 : (a0_0.toList != ([104, 116, 116, 112, 115] : List UInt8)) = true := bne_iff_ne.mpr c54
   obtain rfl := Option.some.inj H
   go_enter Tryz.func13, Tryz.ntmps13
   go_wp2_with (first | ((with_reducible refine gate_dst (N := 1) rfl ?_); (try (refine gate_guard (by rfl) ?_; dsimp only)); refine xbe_ (N := 1) (cs := #[.string a0_0, .string a0_1, .int .i64 a0_2, .string a0_3, .string a0_4, .bool a0_5]) (t := 24) ?_; intro gb232 hg w106 hbox hb; have BK232 := Aside0.mk (hbox); have GW232 := xge_ HB hg; have GE232 := xge_ HB hg; replace HB := xws_ HB hb; clear hb hbox hg; have ⟨_, _, _, _, _, _, _, _, _, _, _, _⟩ := c6_ BK232))
   go_ret
   exact ⟨by first | rfl | (simp [errW_none, errW_some] <;> rfl) | (simp [*, errW_none, errW_some] <;> rfl), xw_ HB⟩

/-! ### strings_Cut: function 31 -/
def strings_Cut.f (a0 a1 : ByteArray) : Option (ByteArray × ByteArray × Bool) := if a0.size < 1000000000 then some (⟨(Lib.cut a0.data.toList a1.data.toList).1.toArray⟩, ⟨(Lib.cut a0.data.toList a1.data.toList).2.1.toArray⟩, (Lib.cut a0.data.toList a1.data.toList).2.2) else none
theorem strings_Cut.calls (a0 a1 : ByteArray) (r1 r2 : ByteArray) (r3 : Bool) (w : World) (h : strings_Cut.f a0 a1 = some (r1, r2, r3)) (hT : TabOk w) :
    Calls Tryz.prog 31 #[.string a0, .string a1] w fun e w' => e = .returned (.tuple #[.string r1, .string r2, .bool r3]) ∧ Below w.heap.size w w' := by
  unfold strings_Cut.f at h
  by_cases c : a0.size < 1000000000
  · rw [if_pos c] at h
    obtain ⟨rfl, rfl, rfl⟩ := (show _ = _ ∧ _ = _ ∧ _ = _ from by simpa using Option.some.inj h)
    obtain ⟨m, hm⟩ := hT.1
    exact (Tryz.strings_Cut a0 a1 m w (by omega) hm).mono fun e w' hq => ⟨hq.1, (Drawn0.mk hq.2).below⟩
  · rw [if_neg c] at h; cases h

/-! ### impl_number: function 48 -/
def impl_number.f (a0 : ByteArray) : Option (Int × Bool) := if a0.size ≤ 18 then (match Lib.atoi a0.data.toList with | some n => (if 0 ≤ n then (if n < 1000000 then some (n, decide ((⟨(Lib.itoa n).toArray⟩ : ByteArray) = a0)) else none) else none) | none => none) else none
set_option maxHeartbeats 2000000 in
theorem impl_number.calls (a0 : ByteArray) (r1 : Int) (r2 : Bool) (w : World) (h : impl_number.f a0 = some (r1, r2)) (hT : TabOk w) :
    Calls Tryz.prog 48 #[.string a0] w fun e w' => e = .returned (.tuple #[.int .i64 r1, .bool r2]) ∧ Below w.heap.size w w' := by
  unfold impl_number.f at h
  by_cases c : a0.size ≤ 18
  · rw [if_pos c] at h
    cases hn : Lib.atoi a0.data.toList with
    | none => rw [hn] at h; cases h
    | some n =>
      rw [hn] at h
      simp only at h
      by_cases c1 : 0 ≤ n
      · rw [if_pos c1] at h
        by_cases c2 : n < 1000000
        · rw [if_pos c2] at h
          obtain ⟨rfl, rfl⟩ := (show _ = _ ∧ _ = _ from by simpa using Option.some.inj h)
          have hA := Tryz.strconv_Atoi a0 n c hn w
          have hI : ∀ W, Below w.heap.size w W → Calls Tryz.prog 40 #[.int .i64 n] W fun e w' => e = .returned (.string ⟨(Lib.itoa n).toArray⟩) ∧ Below W.heap.size W w' := fun W hW => strconv_Itoa.calls n _ W (by unfold strconv_Itoa.f; rw [if_pos c1, if_pos c2]) (hT.below hW)
          have c1b : decide (n ≥ 0) = true := decide_eq_true c1
          have c1d : decide (0 ≤ n) = true := decide_eq_true c1
          obtain ⟨r, hr⟩ : ∃ r : ByteArray, r = ⟨(Lib.itoa n).toArray⟩ := ⟨_, rfl⟩
          rw [← hr] at hI ⊢
          have HI := Aside0.mk hI
          have hd : decide (r = a0) = (r.toList == a0.toList) := by
            rw [Bool.eq_iff_iff, decide_eq_true_iff, beq_iff_eq]
            exact ⟨fun hh => by rw [hh], fun hh => by rw [ByteArray.toList_eq] at hh; rw [ByteArray.toList_eq] at hh; exact ByteArray.ext (Array.ext' hh)⟩
          rw [hd]
          have hp2 : (r.toList == a0.toList && true) = (r.toList == a0.toList) := by simp
          clear h hn c hr hI hT hd
          go_enter Tryz.func48, Tryz.ntmps48
          go_wp2_with (first | (go_at_call 66; (refine hA.mono ?_; rintro e w1 ⟨rfl, t, rfl⟩; have hb1 := Lib.bytesWorld_below w 5 t; have hc := HI.out _ hb1; generalize Lib.bytesWorld w 5 t = W1 at hb1 hc ⊢)) | (go_at_call 40; (refine hc.mono ?_; rintro e w2 ⟨rfl, hb2⟩)))
          all_goals (go_ret2; exact ⟨by first | rfl | (simp [*]; done), hb1.trans (hb2.mono hb1.size)⟩)
        · rw [if_neg c2] at h; cases h
      · rw [if_neg c1] at h; cases h
  · rw [if_neg c] at h; cases h

/-! ### strings.IndexByte, its world named anew -/
def index_byte_in.f (a0 : ByteArray) (a1 : Int) : Option (Int) := strings_IndexByte.f a0 a1
theorem index_byte_in.calls (a0 : ByteArray) (a1 : Int) (r : Int) (w : World) (h : index_byte_in.f a0 a1 = some r) :
    Calls Tryz.prog 46 #[.string a0, .int .u8 a1] w fun e w' => e = .returned (.int .i64 r) ∧ Below w.heap.size w w' :=
  (strings_IndexByte.calls a0 a1 r w h).mono fun e w' hq => ⟨hq.1, hq.2.below⟩

end Go.Proofs.YtklicdjbihmbiaaGreatDoor.PFnResolved
