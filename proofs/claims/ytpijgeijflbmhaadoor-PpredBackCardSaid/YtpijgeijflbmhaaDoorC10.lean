/- Go functions of the given program come to what plain Lean functions say: walks, printed by a program of this session's (after the kit's print); no conditions beyond each theorem's own. -/
import Derived.Test.YtpijgeijflbmhaaDoorC1
import Derived.Test.YtpijgeijflbmhaaDoorC8
import Derived.Test.YtpijgeijflbmhaaDoorC9
import Derived.Test.YtpijgeijflbmhaaDoorC7
import Derived.Test.YtpijgeijflbmhaaDoorC6
import Derived.SizedLaws
import Derived.ChangeSlices
import Derived.Test.YtpijgeijflbmhaaDoorCards
import Derived.Test.YtpijgeijflbmhaaDoorTie
import Derived.Test.YtpijgeijflbmhaaDoorC0
import Derived.WalkKit
import Derived.ShutString
import Derived.ChangeOld
import Derived.Below
namespace Go.Proofs.YtpijgeijflbmhaaDoor.P
open Go.RowKit Go.Proofs.YtpijgeijflbmhaaDoorW.PrintWords Go.Proofs.YtpijgeijflbmhaaDoorW.PrintLast Go.Proofs.YtpijgeijflbmhaaDoorW.PrintMore
attribute [local go_sem] max2_int min2_int max_two min_two max_three min_three max_four min_four   -- for this text's walks alone
set_option linter.unusedVariables false
set_option linter.unusedSimpArgs false

attribute [local go_sem high] eqA53
/-! ### lamplighterref11_Same: function 14 -/
def lamplighterref11_Same.l0 : Nat → List (S53) → List (S53) → Int → Option (Bool)
 | 0, _, _, _ => none
 | k + 1, x0, x1, x5 => if x5 < (x0.length : Int) then (if 0 ≤ x5 then (if x5 < (x1.length : Int) then (if (!(((rd_T53 x0 x5).f0) == ((rd_T53 x1 x5).f0)) || ((!(((rd_T53 x0 x5).f1.f0) == ((rd_T53 x1 x5).f1.f0)) || (!(((rd_T53 x0 x5).f1.f1) == ((rd_T53 x1 x5).f1.f1)) || (!((((rd_T53 x0 x5).f1.f2).toList) == (((rd_T53 x1 x5).f1.f2).toList)) || (!(((rd_T53 x0 x5).f1.f3) == ((rd_T53 x1 x5).f1.f3)))))) || (!((((rd_T53 x0 x5).f2).toList) == (((rd_T53 x1 x5).f2).toList)) || (!((((rd_T53 x0 x5).f3).toList) == (((rd_T53 x1 x5).f3).toList)))))) = true then (some false) else (lamplighterref11_Same.l0 k x0 x1 (wrap64 (x5 + 1)))) else (none)) else (none)) else (some true)
def lamplighterref11_Same.f (k : Nat) (l0 : List (S53)) (l1 : List (S53)) : Option (Bool) := if (l0.length : Int) = (l1.length : Int) then (lamplighterref11_Same.l0 k l0 l1 0) else (some false)
set_option maxHeartbeats 8000000 in
set_option maxRecDepth 100000 in
theorem lamplighterref11_Same.calls (k : Nat) (A0 : Option Addr) (c0 : Nat) (l0 : List (S53)) (A1 : Option Addr) (c1 : Nat) (l1 : List (S53)) (r : Bool) (w : World) (hr0 : Kd.C k53 w A0 l0.length l0) (hc0 : l0.length ≤ c0) (hr1 : Kd.C k53 w A1 l1.length l1) (hc1 : l1.length ≤ c1) (h : lamplighterref11_Same.f k l0 l1 = some r) :
  Calls Tryd.prog 14 #[.slice A0 l0.length c0, .slice A1 l1.length c1] w fun e w' => e = .returned (.bool r) ∧ Drawn0 w w' := by
 have hu53 := Tryd.underlying53
 have HR0 := As.mk hr0
 have HC0 := As.mk hc0
 clear hr0 hc0
 have HR1 := As.mk hr1
 have HC1 := As.mk hc1
 clear hr1 hc1
 have H : (if (l0.length : Int) = (l1.length : Int) then (lamplighterref11_Same.l0 k l0 l1 0) else (some false)) = some r := h
 clear h
 by_cases c3 : (l0.length : Int) = (l1.length : Int)
 ·
  rw [if_pos c3] at H
  have c3b0 : ((l0.length : Int) == (l1.length : Int)) = true := beq_iff_eq.mpr c3
  have c3b1 : ((l0.length : Int) != (l1.length : Int)) = false := bne_eq_false_iff_eq.mpr c3
  have c3b2 : (l0.length == l1.length) = true := by first | simpa using c3 | (simp at c3 ⊢; omega)
  clear c3
  have H' := As.mk H
  clear H
  go_enter Tryd.func14, Tryd.ntmps14
  go_wp2
  repeat (go_quiet (fail); try go_wp2)
  go_loopg [5] k (fun kq v5 w' => ∃ (x5_1 : Int), v5 = .int .i64 x5_1 ∧ As (lamplighterref11_Same.l0 kq l0 l1 x5_1 = some r) ∧ As (kq ≤ k) ∧ Drawn0 w w')
  case atStart => exact ⟨(0), (by first | rfl | (simp; done) | (simp [*]; done)), H', ⟨Nat.le_refl _⟩, by repeat (first | exact Drawn0.refl _ | apply Drawn0.step)⟩
  case round =>
   clear H'
   try clear c1
   try clear p2
   try clear c3
   try clear c3b0
   try clear c3b1
   try clear c3b2
   obtain ⟨x5_1, rfl, HA, HK1, ⟨m1, rfl⟩⟩ := hrel
   cases gk with
   | zero => exact absurd HA.out (by simp [lamplighterref11_Same.l0])
   | succ k1 =>
    have H := HA.out
    clear HA
    simp only [lamplighterref11_Same.l0] at H
    by_cases c4 : x5_1 < (l0.length : Int)
    ·
     rw [if_pos c4] at H
     have c4b0 : decide (x5_1 < (l0.length : Int)) = true := decide_eq_true c4
     clear c4
     replace H := ite_some H
     obtain ⟨c5, H⟩ := H
     have c5b0 : decide (0 ≤ x5_1) = true := decide_eq_true c5
     clear c5
     replace H := ite_some H
     obtain ⟨c6, H⟩ := H
     have c6b0 : decide (x5_1 < (l1.length : Int)) = true := decide_eq_true c6
     clear c6
     by_cases c7 : (!(((rd_T53 l0 x5_1).f0) == ((rd_T53 l1 x5_1).f0)) || ((!(((rd_T53 l0 x5_1).f1.f0) == ((rd_T53 l1 x5_1).f1.f0)) || (!(((rd_T53 l0 x5_1).f1.f1) == ((rd_T53 l1 x5_1).f1.f1)) || (!((((rd_T53 l0 x5_1).f1.f2).toList) == (((rd_T53 l1 x5_1).f1.f2).toList)) || (!(((rd_T53 l0 x5_1).f1.f3) == ((rd_T53 l1 x5_1).f1.f3)))))) || (!((((rd_T53 l0 x5_1).f2).toList) == (((rd_T53 l1 x5_1).f2).toList)) || (!((((rd_T53 l0 x5_1).f3).toList) == (((rd_T53 l1 x5_1).f3).toList)))))) = true
     ·
      rw [if_pos c7] at H
      have c7b0 : (!(((rd_T53 l0 x5_1).f0) == ((rd_T53 l1 x5_1).f0)) || ((!(((rd_T53 l0 x5_1).f1.f0) == ((rd_T53 l1 x5_1).f1.f0)) || (!(((rd_T53 l0 x5_1).f1.f1) == ((rd_T53 l1 x5_1).f1.f1)) || (!((((rd_T53 l0 x5_1).f1.f2).toList) == (((rd_T53 l1 x5_1).f1.f2).toList)) || (!(((rd_T53 l0 x5_1).f1.f3) == ((rd_T53 l1 x5_1).f1.f3)))))) || (!((((rd_T53 l0 x5_1).f2).toList) == (((rd_T53 l1 x5_1).f2).toList)) || (!((((rd_T53 l0 x5_1).f3).toList) == (((rd_T53 l1 x5_1).f3).toList)))))) = true := c7
      clear c7
      obtain rfl := Option.some.inj H
      have p427 : 0 ≤ (x5_1 : Int) := of_decide_eq_true (by first | (with_reducible assumption) | assumption)
      have q427 : x5_1 < (l0.length : Int) := of_decide_eq_true (by first | (with_reducible assumption) | assumption)
      obtain ⟨ad427, e427, hx427_0, hx427_1, hx427_2, hx427_3, hx427_4, hx427_5, hx427_6⟩ := at_T53 HR0.out x5_1 p427 q427
      cases e427
      replace p427 := eq_true p427
      replace q427 := eq_true q427
      have p428 : 0 ≤ (x5_1 : Int) := of_decide_eq_true (by first | (with_reducible assumption) | assumption)
      have q428 : x5_1 < (l1.length : Int) := of_decide_eq_true (by first | (with_reducible assumption) | assumption)
      obtain ⟨ad428, e428, hx428_0, hx428_1, hx428_2, hx428_3, hx428_4, hx428_5, hx428_6⟩ := at_T53 HR1.out x5_1 p428 q428
      cases e428
      replace p428 := eq_true p428
      replace q428 := eq_true q428
      go_wp2
      repeat (go_quiet (fail); try go_wp2)
      go_ret
      exact ⟨by first | rfl | (simp; done) | (simp [*]; done), by repeat (first | exact Drawn0.refl _ | apply Drawn0.step)⟩
     ·
      rw [if_neg c7] at H
      have c7b0 : (!(((rd_T53 l0 x5_1).f0) == ((rd_T53 l1 x5_1).f0)) || ((!(((rd_T53 l0 x5_1).f1.f0) == ((rd_T53 l1 x5_1).f1.f0)) || (!(((rd_T53 l0 x5_1).f1.f1) == ((rd_T53 l1 x5_1).f1.f1)) || (!((((rd_T53 l0 x5_1).f1.f2).toList) == (((rd_T53 l1 x5_1).f1.f2).toList)) || (!(((rd_T53 l0 x5_1).f1.f3) == ((rd_T53 l1 x5_1).f1.f3)))))) || (!((((rd_T53 l0 x5_1).f2).toList) == (((rd_T53 l1 x5_1).f2).toList)) || (!((((rd_T53 l0 x5_1).f3).toList) == (((rd_T53 l1 x5_1).f3).toList)))))) = false := by simpa using c7
      clear c7
      have H' := As.mk H
      clear H
      have p427 : 0 ≤ (x5_1 : Int) := of_decide_eq_true (by first | (with_reducible assumption) | assumption)
      have q427 : x5_1 < (l0.length : Int) := of_decide_eq_true (by first | (with_reducible assumption) | assumption)
      obtain ⟨ad427, e427, hx427_0, hx427_1, hx427_2, hx427_3, hx427_4, hx427_5, hx427_6⟩ := at_T53 HR0.out x5_1 p427 q427
      cases e427
      replace p427 := eq_true p427
      replace q427 := eq_true q427
      have p428 : 0 ≤ (x5_1 : Int) := of_decide_eq_true (by first | (with_reducible assumption) | assumption)
      have q428 : x5_1 < (l1.length : Int) := of_decide_eq_true (by first | (with_reducible assumption) | assumption)
      obtain ⟨ad428, e428, hx428_0, hx428_1, hx428_2, hx428_3, hx428_4, hx428_5, hx428_6⟩ := at_T53 HR1.out x5_1 p428 q428
      cases e428
      replace p428 := eq_true p428
      replace q428 := eq_true q428
      go_wp2
      repeat (go_quiet (fail); try go_wp2)
      go_roundg k1
      case measure => have := HK1.out; omega
      case rel => exact ⟨(wrap64 (x5_1 + 1)), (by first | rfl | (simp; done) | (simp [*]; done)), H', ⟨by have := HK1.out; omega⟩, by repeat (first | exact Drawn0.refl _ | apply Drawn0.step)⟩
    ·
     rw [if_neg c4] at H
     have c4b0 : decide (x5_1 < (l0.length : Int)) = false := decide_eq_false c4
     clear c4
     obtain rfl := Option.some.inj H
     go_wp2
     repeat (go_quiet (fail); try go_wp2)
     go_ret
     exact ⟨by first | rfl | (simp; done) | (simp [*]; done), by repeat (first | exact Drawn0.refl _ | apply Drawn0.step)⟩
 ·
  rw [if_neg c3] at H
  have c3b0 : ((l0.length : Int) == (l1.length : Int)) = false := beq_eq_false_iff_ne.mpr c3
  have c3b1 : ((l0.length : Int) != (l1.length : Int)) = true := bne_iff_ne.mpr c3
  have c3b2 : (l0.length == l1.length) = false := by first | simpa using c3 | (simp at c3 ⊢; omega)
  obtain rfl := Option.some.inj H
  go_enter Tryd.func14, Tryd.ntmps14
  go_wp2
  repeat (go_quiet (fail); try go_wp2)
  go_ret
  exact ⟨by first | rfl | (simp; done) | (simp [*]; done), by repeat (first | exact Drawn0.refl _ | apply Drawn0.step)⟩

/-! ### lamplighterlaw15_PpredBack: function 3 -/
def lamplighterlaw15_PpredBack.j0 : Nat → List (S53) → List (S53) → Bool → Option (Bool)
 | 0, _, _, _ => none
 | k + 1, x3, x5, x28 => if x28 = true then ((lamplighterlaw15_awake.f).bind fun t437 => (some t437)) else ((lamplighterref11_Show.f k x3).bind fun t438 => ((ppred_Parse.f t438).bind fun bt439 => ((lamplighterref11_Show.f k x5).bind fun t443 => ((ppred_Parse.f t443).bind fun bt444 => ((lamplighterlaw15_awake.f).bind fun t448 => (if t448 = true then (if bt439.2 = 0 then ((lamplighterref11_Same.f k bt439.1 x3).bind fun t449 => (if t449 = true then (if bt444.2 = 0 then ((lamplighterref11_Same.f k bt444.1 x5).bind fun t450 => (some t450)) else (some false)) else (some false))) else (some false)) else (some false)))))))
def lamplighterlaw15_PpredBack.f (k : Nat) (l0 : List Int) : Option (Bool) := (lamplighterref11_Truth.f k l0 0 3).bind fun bt429 => ((lamplighterref11_Number.f k l0 0 4).bind fun bt433 => (if (bt429.1.length : Int) > 60 then (lamplighterlaw15_PpredBack.j0 k bt429.1 bt433.1 true) else (lamplighterlaw15_PpredBack.j0 k bt429.1 bt433.1 (decide ((bt433.1.length : Int) > 60)))))
set_option maxHeartbeats 8000000 in
set_option maxRecDepth 100000 in
theorem lamplighterlaw15_PpredBack.calls (k : Nat) (A0 : Option Addr) (c0 : Nat) (l0 : List Int) (r : Bool) (w : World) (hr0 : Kd.C (Kd.int .i64) w A0 l0.length l0) (hc0 : l0.length ≤ c0) (hG : Glob w) (h : lamplighterlaw15_PpredBack.f k l0 = some r) :
  Calls Tryd.prog 3 #[.slice A0 l0.length c0] w fun e w' => e = .returned (.bool r) ∧ Below w.heap.size w w' := by
 have HR0 := As.mk hr0
 have HC0 := As.mk hc0
 clear hr0 hc0
 have HG := As.mk hG
 clear hG
 have HB := As.mk (Below.refl w.heap.size w)
 have H : ((lamplighterref11_Truth.f k l0 0 3).bind fun bt429 => ((lamplighterref11_Number.f k l0 0 4).bind fun bt433 => (if (bt429.1.length : Int) > 60 then (lamplighterlaw15_PpredBack.j0 k bt429.1 bt433.1 true) else (lamplighterlaw15_PpredBack.j0 k bt429.1 bt433.1 (decide ((bt433.1.length : Int) > 60)))))) = some r := h
 clear h
 replace H := Option.bind_eq_some_iff.mp H
 obtain ⟨⟨t429, t430⟩, A20, H⟩ := H
 replace H : ((lamplighterref11_Number.f k l0 0 4).bind fun bt433 => (if (t429.length : Int) > 60 then (lamplighterlaw15_PpredBack.j0 k t429 bt433.1 true) else (lamplighterlaw15_PpredBack.j0 k t429 bt433.1 (decide ((bt433.1.length : Int) > 60))))) = some r := H
 have A2 := As.mk A20
 clear A20
 replace H := Option.bind_eq_some_iff.mp H
 obtain ⟨⟨t433, t434⟩, A30, H⟩ := H
 replace H : (if (t429.length : Int) > 60 then (lamplighterlaw15_PpredBack.j0 k t429 t433 true) else (lamplighterlaw15_PpredBack.j0 k t429 t433 (decide ((t433.length : Int) > 60)))) = some r := H
 have A3 := As.mk A30
 clear A30
 have HC4 := As.mk H
 clear H
 go_enter Tryd.func3, Tryd.ntmps3
 go_upto_region 3 with (first | ((with_reducible refine gaC (f := 9) rfl ?_); refine goesL_ (some 13) rfl rfl Tryd.func9 (by kernel_rfl) rfl #[.slice A0 l0.length c0, .int .i64 0, .int .i64 3] rfl (by simp only [List.map_toArray, List.map_cons, List.map_nil]; try rfl) ?_; (with_reducible refine (lamplighterref11_Truth.calls k _ _ l0 0 3 t429 t430 _ ?side1 ?side2 A2.out).mono ?_); (case side1 => repeat (first | exact HR0.out | (with_reducible refine Kd.C_alloc ?_ _) | (with_reducible refine Kd.C_drewN ?_ _) | (with_reducible refine Kd.C_drew ?_))); (case side2 => exact HC0.out); rintro e w5 ⟨v431, rfl, ho0, hb⟩; refine ⟨_, rfl, ?_⟩; have n0_ := As.mk (Kd.R_lower ho0 (bwZ (by repeat (first | (with_reducible first | exact HB.out | apply bwA | apply bwN | apply bwD) | exact HB.out)))); have n1_ := As.mk (bwS (by repeat (first | (with_reducible first | exact HB.out | apply bwA | apply bwN | apply bwD) | exact HB.out)) hb); clear HB; have HO432 := n0_; have HB := n1_; clear n0_ n1_; (try clear hb); (try clear hb2); (try clear hk); (try clear hi); (try clear ho0)) | ((with_reducible refine gaC (f := 10) rfl ?_); refine goesL_ (some 18) rfl rfl Tryd.func10 (by kernel_rfl) rfl #[.slice A0 l0.length c0, .int .i64 0, .int .i64 4] rfl (by simp only [List.map_toArray, List.map_cons, List.map_nil]; try rfl) ?_; (with_reducible refine (lamplighterref11_Number.calls k _ _ l0 0 4 t433 t434 _ ?side1 ?side2 A3.out).mono ?_); (case side1 => repeat (first | exact (Kd.C_below HR0.out HB.out) | (with_reducible refine Kd.C_alloc ?_ _) | (with_reducible refine Kd.C_drewN ?_ _) | (with_reducible refine Kd.C_drew ?_))); (case side2 => exact HC0.out); rintro e w6 ⟨v435, rfl, ho0, hb⟩; refine ⟨_, rfl, ?_⟩; have n0_ := As.mk (Kd.R_elder' (by (with_reducible repeat (first | apply Kd.rA | apply Kd.rN | apply Kd.rD)); exact HO432.out) (Kd.R_base ho0) hb); have n1_ := As.mk (Kd.R_lower (Kd.R_new' ho0 (Kd.R_lt (by (with_reducible repeat (first | apply Kd.rA | apply Kd.rN | apply Kd.rD)); exact HO432.out))) (bwZ (by repeat (first | (with_reducible first | exact HB.out | apply bwA | apply bwN | apply bwD) | exact HB.out)))); have n2_ := As.mk (bwS (by repeat (first | (with_reducible first | exact HB.out | apply bwA | apply bwN | apply bwD) | exact HB.out)) hb); clear HO432; clear HB; have HO432 := n0_; have HO436 := n1_; have HB := n2_; clear n0_ n1_ n2_; (try clear hb); (try clear hb2); (try clear hk); (try clear hi); (try clear ho0)))
 (try simp only [Act.put, List.setIfInBounds_toArray, List.set_cons_zero, List.set_cons_succ])
 go_cut [28] (fun v28 wc => ∃ (kq : Nat) (x28_3 : Bool), v28 = .bool x28_3 ∧ As (lamplighterlaw15_PpredBack.j0 kq t429 t433 x28_3 = some r) ∧ As (kq ≤ k) ∧ As (Kd.R k53 53 wc w.heap.size (fun k_ => some k_ ≠ (v435 : Value).ownBlock) v431 t429) ∧ As (Kd.R k53 53 wc w.heap.size (fun k_ => some k_ ≠ (v431 : Value).ownBlock) v435 t433) ∧ As (Below w.heap.size w wc))
 case first =>
  have H := HC4.out
  clear HC4
  by_cases c7 : (t429.length : Int) > 60
  ·
   rw [if_pos c7] at H
   have c7b0 : decide (60 < (t429.length : Int)) = true := decide_eq_true c7
   have c7b1 : decide (60 < t429.length) = true := decide_eq_true (by omega)
   clear c7
   (first | rw [c7b0] | (simp only [i64_w, i32_w]; rw [c7b0]) | skip)
   have H' := As.mk H
   clear H
   obtain ⟨Ao8, co8, eo8⟩ := Kd.R_slice HO432.out
   subst eo8
   go_wp2
   go_meet
   case rel => exact ⟨_, (true), (by first | rfl | (simp; done) | (simp [*]; done)), H', ⟨by first | omega | exact Nat.le_refl _⟩, ⟨by (with_reducible repeat (first | apply Kd.rA | apply Kd.rN | apply Kd.rD)); exact Kd.R_mono HO432.out (fun _ hk => hk.2)⟩, ⟨by (with_reducible repeat (first | apply Kd.rA | apply Kd.rN | apply Kd.rD)); exact Kd.R_mono HO436.out (fun _ hk => hk.2)⟩, ⟨by repeat (first | (with_reducible first | exact HB.out | apply bwA | apply bwN | apply bwD) | exact HB.out)⟩⟩
  ·
   rw [if_neg c7] at H
   have c7b0 : decide (60 < (t429.length : Int)) = false := decide_eq_false c7
   have c7b1 : decide (60 < t429.length) = false := decide_eq_false (by omega)
   clear c7
   (first | rw [c7b0] | (simp only [i64_w, i32_w]; rw [c7b0]) | skip)
   have H' := As.mk H
   clear H
   obtain ⟨Ao9, co9, eo9⟩ := Kd.R_slice HO432.out
   subst eo9
   obtain ⟨Ao10, co10, eo10⟩ := Kd.R_slice HO436.out
   subst eo10
   go_wp2
   go_meet
   case rel => exact ⟨_, (decide ((t433.length : Int) > 60)), (by first | rfl | (simp; done) | (simp [*]; done)), H', ⟨by first | omega | exact Nat.le_refl _⟩, ⟨by (with_reducible repeat (first | apply Kd.rA | apply Kd.rN | apply Kd.rD)); exact Kd.R_mono HO432.out (fun _ hk => hk.2)⟩, ⟨by (with_reducible repeat (first | apply Kd.rA | apply Kd.rN | apply Kd.rD)); exact Kd.R_mono HO436.out (fun _ hk => hk.2)⟩, ⟨by repeat (first | (with_reducible first | exact HB.out | apply bwA | apply bwN | apply bwD) | exact HB.out)⟩⟩
 case rest =>
  clear HC4
  try clear c1
  try clear p2
  try clear c3
  try clear c7
  try clear c7b0
  try clear c7b1
  try clear c9
  try clear c10
  obtain ⟨kq, x28_3, rfl, HA, HJ3, HO_3, HO_5, HB⟩ := hcut
  cases kq with
  | zero => exact absurd HA.out (by simp [lamplighterlaw15_PpredBack.j0])
  | succ kj3 =>
   have H := HA.out
   clear HA
   simp only [lamplighterlaw15_PpredBack.j0] at H
   by_cases c11 : x28_3 = true
   ·
    subst c11
    have H1 : ((lamplighterlaw15_awake.f).bind fun t437 => (some t437)) = some r := by rw [if_pos rfl] at H; exact H
    clear H
    have H := H1
    clear H1
    replace H := Option.bind_eq_some_iff.mp H
    obtain ⟨t437, A120, H⟩ := H
    replace H : (some t437) = some r := H
    have A12 := As.mk A120
    clear A120
    obtain rfl := Option.some.inj H
    go_wp2_with (first | ((with_reducible refine gaC (f := 11) rfl ?_); refine goesL_ (some 29) rfl rfl Tryd.func11 (by kernel_rfl) rfl #[] rfl (by simp only [List.map_toArray, List.map_cons, List.map_nil]; try rfl) ?_; (with_reducible refine (lamplighterlaw15_awake.calls  t437 _ ?side1 A12.out).mono ?_); (case side1 => exact Glob.below HG.out (by repeat (first | (with_reducible first | exact HB.out | apply bwA | apply bwN | apply bwD) | exact HB.out)) rfl); rintro e w13 ⟨rfl, hb⟩; refine ⟨_, rfl, ?_⟩; have n0_ := As.mk (Kd.R_below (by (with_reducible repeat (first | apply Kd.rA | apply Kd.rN | apply Kd.rD)); exact HO_3.out) hb); have n1_ := As.mk (Kd.R_below (by (with_reducible repeat (first | apply Kd.rA | apply Kd.rN | apply Kd.rD)); exact HO_5.out) hb); have n2_ := As.mk (bwS (by repeat (first | (with_reducible first | exact HB.out | apply bwA | apply bwN | apply bwD) | exact HB.out)) hb); clear HO_3; clear HO_5; clear HB; have HO_3 := n0_; have HO_5 := n1_; have HB := n2_; clear n0_ n1_ n2_; (try clear hb); (try clear hb2); (try clear hk); (try clear hi)))
    go_ret
    exact ⟨by first | rfl | (simp [errW_none, errW_some] <;> rfl) | (simp [*, errW_none, errW_some] <;> rfl), by repeat (first | (with_reducible first | exact HB.out | apply bwA | apply bwN | apply bwD) | exact HB.out)⟩
   ·
    replace c11 := Bool.eq_false_iff.mpr c11
    subst c11
    have H1 : ((lamplighterref11_Show.f kj3 t429).bind fun t438 => ((ppred_Parse.f t438).bind fun bt439 => ((lamplighterref11_Show.f kj3 t433).bind fun t443 => ((ppred_Parse.f t443).bind fun bt444 => ((lamplighterlaw15_awake.f).bind fun t448 => (if t448 = true then (if bt439.2 = 0 then ((lamplighterref11_Same.f kj3 bt439.1 t429).bind fun t449 => (if t449 = true then (if bt444.2 = 0 then ((lamplighterref11_Same.f kj3 bt444.1 t433).bind fun t450 => (some t450)) else (some false)) else (some false))) else (some false)) else (some false))))))) = some r := by rw [if_neg (show ¬ (false = true) by decide)] at H; exact H
    clear H
    have H := H1
    clear H1
    replace H := Option.bind_eq_some_iff.mp H
    obtain ⟨t438, A140, H⟩ := H
    replace H : ((ppred_Parse.f t438).bind fun bt439 => ((lamplighterref11_Show.f kj3 t433).bind fun t443 => ((ppred_Parse.f t443).bind fun bt444 => ((lamplighterlaw15_awake.f).bind fun t448 => (if t448 = true then (if bt439.2 = 0 then ((lamplighterref11_Same.f kj3 bt439.1 t429).bind fun t449 => (if t449 = true then (if bt444.2 = 0 then ((lamplighterref11_Same.f kj3 bt444.1 t433).bind fun t450 => (some t450)) else (some false)) else (some false))) else (some false)) else (some false)))))) = some r := H
    have A14 := As.mk A140
    clear A140
    replace H := Option.bind_eq_some_iff.mp H
    obtain ⟨⟨t439, t440⟩, A150, H⟩ := H
    replace H : ((lamplighterref11_Show.f kj3 t433).bind fun t443 => ((ppred_Parse.f t443).bind fun bt444 => ((lamplighterlaw15_awake.f).bind fun t448 => (if t448 = true then (if t440 = 0 then ((lamplighterref11_Same.f kj3 t439 t429).bind fun t449 => (if t449 = true then (if bt444.2 = 0 then ((lamplighterref11_Same.f kj3 bt444.1 t433).bind fun t450 => (some t450)) else (some false)) else (some false))) else (some false)) else (some false))))) = some r := H
    have A15 := As.mk A150
    clear A150
    replace H := Option.bind_eq_some_iff.mp H
    obtain ⟨t443, A160, H⟩ := H
    replace H : ((ppred_Parse.f t443).bind fun bt444 => ((lamplighterlaw15_awake.f).bind fun t448 => (if t448 = true then (if t440 = 0 then ((lamplighterref11_Same.f kj3 t439 t429).bind fun t449 => (if t449 = true then (if bt444.2 = 0 then ((lamplighterref11_Same.f kj3 bt444.1 t433).bind fun t450 => (some t450)) else (some false)) else (some false))) else (some false)) else (some false)))) = some r := H
    have A16 := As.mk A160
    clear A160
    replace H := Option.bind_eq_some_iff.mp H
    obtain ⟨⟨t444, t445⟩, A170, H⟩ := H
    replace H : ((lamplighterlaw15_awake.f).bind fun t448 => (if t448 = true then (if t440 = 0 then ((lamplighterref11_Same.f kj3 t439 t429).bind fun t449 => (if t449 = true then (if t445 = 0 then ((lamplighterref11_Same.f kj3 t444 t433).bind fun t450 => (some t450)) else (some false)) else (some false))) else (some false)) else (some false))) = some r := H
    have A17 := As.mk A170
    clear A170
    replace H := Option.bind_eq_some_iff.mp H
    obtain ⟨t448, A180, H⟩ := H
    replace H : (if t448 = true then (if t440 = 0 then ((lamplighterref11_Same.f kj3 t439 t429).bind fun t449 => (if t449 = true then (if t445 = 0 then ((lamplighterref11_Same.f kj3 t444 t433).bind fun t450 => (some t450)) else (some false)) else (some false))) else (some false)) else (some false)) = some r := H
    have A18 := As.mk A180
    clear A180
    by_cases c19 : t448 = true
    ·
     subst c19
     have H1 : (if t440 = 0 then ((lamplighterref11_Same.f kj3 t439 t429).bind fun t449 => (if t449 = true then (if t445 = 0 then ((lamplighterref11_Same.f kj3 t444 t433).bind fun t450 => (some t450)) else (some false)) else (some false))) else (some false)) = some r := by rw [if_pos rfl] at H; exact H
     clear H
     have H := H1
     clear H1
     by_cases c20 : t440 = 0
     ·
      rw [if_pos c20] at H
      have c20b0 : (t440 == 0) = true := beq_iff_eq.mpr c20
      have c20b1 : (t440 != 0) = false := bne_eq_false_iff_eq.mpr c20
      clear c20
      replace H := Option.bind_eq_some_iff.mp H
      obtain ⟨t449, A210, H⟩ := H
      replace H : (if t449 = true then (if t445 = 0 then ((lamplighterref11_Same.f kj3 t444 t433).bind fun t450 => (some t450)) else (some false)) else (some false)) = some r := H
      have A21 := As.mk A210
      clear A210
      by_cases c22 : t449 = true
      ·
       subst c22
       have H1 : (if t445 = 0 then ((lamplighterref11_Same.f kj3 t444 t433).bind fun t450 => (some t450)) else (some false)) = some r := by rw [if_pos rfl] at H; exact H
       clear H
       have H := H1
       clear H1
       by_cases c23 : t445 = 0
       ·
        rw [if_pos c23] at H
        have c23b0 : (t445 == 0) = true := beq_iff_eq.mpr c23
        have c23b1 : (t445 != 0) = false := bne_eq_false_iff_eq.mpr c23
        clear c23
        replace H := Option.bind_eq_some_iff.mp H
        obtain ⟨t450, A240, H⟩ := H
        replace H : (some t450) = some r := H
        have A24 := As.mk A240
        clear A240
        obtain rfl := Option.some.inj H
        obtain ⟨Ao25, co25, eo25⟩ := Kd.R_slice HO_3.out
        subst eo25
        go_wp2_with (first | ((with_reducible refine gaC (f := 13) rfl ?_); refine goesL_ (some 32) rfl rfl Tryd.func13 (by kernel_rfl) rfl #[.slice Ao25 t429.length co25] rfl (by simp only [List.map_toArray, List.map_cons, List.map_nil]; try rfl) ?_; (with_reducible refine (lamplighterref11_Show.calls kj3 _ _ t429 t438 _ ?side1 ?side2 A14.out).mono ?_); (case side1 => repeat (first | exact (Kd.R_reads' HO_3.out).2.2 | (with_reducible refine Kd.C_alloc ?_ _) | (with_reducible refine Kd.C_drewN ?_ _) | (with_reducible refine Kd.C_drew ?_))); (case side2 => exact (Kd.R_reads' HO_3.out).2.1); rintro e w26 ⟨rfl, hb⟩; refine ⟨_, rfl, ?_⟩; have n0_ := As.mk (Kd.R_below (by (with_reducible repeat (first | apply Kd.rA | apply Kd.rN | apply Kd.rD)); exact HO_3.out) hb); have n1_ := As.mk (Kd.R_below (by (with_reducible repeat (first | apply Kd.rA | apply Kd.rN | apply Kd.rD)); exact HO_5.out) hb); have n2_ := As.mk (bwS (by repeat (first | (with_reducible first | exact HB.out | apply bwA | apply bwN | apply bwD) | exact HB.out)) hb); clear HO_3; clear HO_5; clear HB; have HO_3 := n0_; have HO_5 := n1_; have HB := n2_; clear n0_ n1_ n2_; (try clear hb); (try clear hb2); (try clear hk); (try clear hi)) | ((with_reducible refine gaC (f := 12) rfl ?_); refine goesL_ (some 33) rfl rfl Tryd.func12 (by kernel_rfl) rfl #[.string t438] rfl (by simp only [List.map_toArray, List.map_cons, List.map_nil]; try rfl) ?_; (with_reducible refine (ppred_Parse.calls t438 t439 t440 _ ?side1 A15.out).mono ?_); (case side1 => exact Glob.below HG.out (by repeat (first | (with_reducible first | exact HB.out | apply bwA | apply bwN | apply bwD) | exact HB.out)) rfl); rintro e w27 ⟨v441, rfl, ho0, hb⟩; refine ⟨_, rfl, ?_⟩; have n0_ := As.mk (Kd.R_elder' (by (with_reducible repeat (first | apply Kd.rA | apply Kd.rN | apply Kd.rD)); exact HO_3.out) (Kd.R_base ho0) hb); have n1_ := As.mk (Kd.R_elder' (by (with_reducible repeat (first | apply Kd.rA | apply Kd.rN | apply Kd.rD)); exact HO_5.out) (Kd.R_base ho0) hb); have n2_ := As.mk (Kd.R_lower (Kd.R_new' (Kd.R_new' ho0 (Kd.R_lt (by (with_reducible repeat (first | apply Kd.rA | apply Kd.rN | apply Kd.rD)); exact HO_3.out))) (Kd.R_lt (by (with_reducible repeat (first | apply Kd.rA | apply Kd.rN | apply Kd.rD)); exact HO_5.out))) (bwZ (by repeat (first | (with_reducible first | exact HB.out | apply bwA | apply bwN | apply bwD) | exact HB.out)))); have n3_ := As.mk (bwS (by repeat (first | (with_reducible first | exact HB.out | apply bwA | apply bwN | apply bwD) | exact HB.out)) hb); clear HO_3; clear HO_5; clear HB; have HO_3 := n0_; have HO_5 := n1_; have HO442 := n2_; have HB := n3_; clear n0_ n1_ n2_ n3_; (try clear hb); (try clear hb2); (try clear hk); (try clear hi); (try clear ho0); obtain ⟨Ao28, co28, eo28⟩ := Kd.R_slice HO_5.out; subst eo28) | ((with_reducible refine gaC (f := 13) rfl ?_); refine goesL_ (some 38) rfl rfl Tryd.func13 (by kernel_rfl) rfl #[.slice Ao28 t433.length co28] rfl (by simp only [List.map_toArray, List.map_cons, List.map_nil]; try rfl) ?_; (with_reducible refine (lamplighterref11_Show.calls kj3 _ _ t433 t443 _ ?side1 ?side2 A16.out).mono ?_); (case side1 => repeat (first | exact (Kd.R_reads' HO_5.out).2.2 | (with_reducible refine Kd.C_alloc ?_ _) | (with_reducible refine Kd.C_drewN ?_ _) | (with_reducible refine Kd.C_drew ?_))); (case side2 => exact (Kd.R_reads' HO_5.out).2.1); rintro e w29 ⟨rfl, hb⟩; refine ⟨_, rfl, ?_⟩; have n0_ := As.mk (Kd.R_below (by (with_reducible repeat (first | apply Kd.rA | apply Kd.rN | apply Kd.rD)); exact HO_3.out) hb); have n1_ := As.mk (Kd.R_below (by (with_reducible repeat (first | apply Kd.rA | apply Kd.rN | apply Kd.rD)); exact HO_5.out) hb); have n2_ := As.mk (Kd.R_below (by (with_reducible repeat (first | apply Kd.rA | apply Kd.rN | apply Kd.rD)); exact HO442.out) hb); have n3_ := As.mk (bwS (by repeat (first | (with_reducible first | exact HB.out | apply bwA | apply bwN | apply bwD) | exact HB.out)) hb); clear HO_3; clear HO_5; clear HO442; clear HB; have HO_3 := n0_; have HO_5 := n1_; have HO442 := n2_; have HB := n3_; clear n0_ n1_ n2_ n3_; (try clear hb); (try clear hb2); (try clear hk); (try clear hi)) | ((with_reducible refine gaC (f := 12) rfl ?_); refine goesL_ (some 39) rfl rfl Tryd.func12 (by kernel_rfl) rfl #[.string t443] rfl (by simp only [List.map_toArray, List.map_cons, List.map_nil]; try rfl) ?_; (with_reducible refine (ppred_Parse.calls t443 t444 t445 _ ?side1 A17.out).mono ?_); (case side1 => exact Glob.below HG.out (by repeat (first | (with_reducible first | exact HB.out | apply bwA | apply bwN | apply bwD) | exact HB.out)) rfl); rintro e w30 ⟨v446, rfl, ho0, hb⟩; refine ⟨_, rfl, ?_⟩; have n0_ := As.mk (Kd.R_elder' (by (with_reducible repeat (first | apply Kd.rA | apply Kd.rN | apply Kd.rD)); exact HO_3.out) (Kd.R_base ho0) hb); have n1_ := As.mk (Kd.R_elder' (by (with_reducible repeat (first | apply Kd.rA | apply Kd.rN | apply Kd.rD)); exact HO_5.out) (Kd.R_base ho0) hb); have n2_ := As.mk (Kd.R_elder' (by (with_reducible repeat (first | apply Kd.rA | apply Kd.rN | apply Kd.rD)); exact HO442.out) (Kd.R_base ho0) hb); have n3_ := As.mk (Kd.R_lower (Kd.R_new' (Kd.R_new' (Kd.R_new' ho0 (Kd.R_lt (by (with_reducible repeat (first | apply Kd.rA | apply Kd.rN | apply Kd.rD)); exact HO_3.out))) (Kd.R_lt (by (with_reducible repeat (first | apply Kd.rA | apply Kd.rN | apply Kd.rD)); exact HO_5.out))) (Kd.R_lt (by (with_reducible repeat (first | apply Kd.rA | apply Kd.rN | apply Kd.rD)); exact HO442.out))) (bwZ (by repeat (first | (with_reducible first | exact HB.out | apply bwA | apply bwN | apply bwD) | exact HB.out)))); have n4_ := As.mk (bwS (by repeat (first | (with_reducible first | exact HB.out | apply bwA | apply bwN | apply bwD) | exact HB.out)) hb); clear HO_3; clear HO_5; clear HO442; clear HB; have HO_3 := n0_; have HO_5 := n1_; have HO442 := n2_; have HO447 := n3_; have HB := n4_; clear n0_ n1_ n2_ n3_ n4_; (try clear hb); (try clear hb2); (try clear hk); (try clear hi); (try clear ho0)) | ((with_reducible refine gaC (f := 11) rfl ?_); refine goesL_ (some 42) rfl rfl Tryd.func11 (by kernel_rfl) rfl #[] rfl (by simp only [List.map_toArray, List.map_cons, List.map_nil]; try rfl) ?_; (with_reducible refine (lamplighterlaw15_awake.calls  true _ ?side1 A18.out).mono ?_); (case side1 => exact Glob.below HG.out (by repeat (first | (with_reducible first | exact HB.out | apply bwA | apply bwN | apply bwD) | exact HB.out)) rfl); rintro e w31 ⟨rfl, hb⟩; refine ⟨_, rfl, ?_⟩; have n0_ := As.mk (Kd.R_below (by (with_reducible repeat (first | apply Kd.rA | apply Kd.rN | apply Kd.rD)); exact HO_3.out) hb); have n1_ := As.mk (Kd.R_below (by (with_reducible repeat (first | apply Kd.rA | apply Kd.rN | apply Kd.rD)); exact HO_5.out) hb); have n2_ := As.mk (Kd.R_below (by (with_reducible repeat (first | apply Kd.rA | apply Kd.rN | apply Kd.rD)); exact HO442.out) hb); have n3_ := As.mk (Kd.R_below (by (with_reducible repeat (first | apply Kd.rA | apply Kd.rN | apply Kd.rD)); exact HO447.out) hb); have n4_ := As.mk (bwS (by repeat (first | (with_reducible first | exact HB.out | apply bwA | apply bwN | apply bwD) | exact HB.out)) hb); clear HO_3; clear HO_5; clear HO442; clear HO447; clear HB; have HO_3 := n0_; have HO_5 := n1_; have HO442 := n2_; have HO447 := n3_; have HB := n4_; clear n0_ n1_ n2_ n3_ n4_; (try clear hb); (try clear hb2); (try clear hk); (try clear hi); obtain ⟨Ao32, co32, eo32⟩ := Kd.R_slice HO442.out; subst eo32) | (go_at_call 14; (with_reducible refine (lamplighterref11_Same.calls kj3 _ _ t439 _ _ t429 true _ ?side1 ?side2 ?side3 ?side4 A21.out).mono ?_); (case side1 => repeat (first | exact (Kd.R_reads' HO442.out).2.2 | (with_reducible refine Kd.C_alloc ?_ _) | (with_reducible refine Kd.C_drewN ?_ _) | (with_reducible refine Kd.C_drew ?_))); (case side2 => exact (Kd.R_reads' HO442.out).2.1); (case side3 => repeat (first | exact (Kd.R_reads' HO_3.out).2.2 | (with_reducible refine Kd.C_alloc ?_ _) | (with_reducible refine Kd.C_drewN ?_ _) | (with_reducible refine Kd.C_drew ?_))); (case side4 => exact (Kd.R_reads' HO_3.out).2.1); rintro e w' ⟨rfl, ⟨nd, rfl⟩⟩; obtain ⟨Ao33, co33, eo33⟩ := Kd.R_slice HO447.out; subst eo33) | (go_at_call 14; (with_reducible refine (lamplighterref11_Same.calls kj3 _ _ t444 _ _ t433 t450 _ ?side1 ?side2 ?side3 ?side4 A24.out).mono ?_); (case side1 => repeat (first | exact (Kd.R_reads' HO447.out).2.2 | (with_reducible refine Kd.C_alloc ?_ _) | (with_reducible refine Kd.C_drewN ?_ _) | (with_reducible refine Kd.C_drew ?_))); (case side2 => exact (Kd.R_reads' HO447.out).2.1); (case side3 => repeat (first | exact (Kd.R_reads' HO_5.out).2.2 | (with_reducible refine Kd.C_alloc ?_ _) | (with_reducible refine Kd.C_drewN ?_ _) | (with_reducible refine Kd.C_drew ?_))); (case side4 => exact (Kd.R_reads' HO_5.out).2.1); rintro e w' ⟨rfl, ⟨nd, rfl⟩⟩))
        go_ret
        exact ⟨by first | rfl | (simp [errW_none, errW_some] <;> rfl) | (simp [*, errW_none, errW_some] <;> rfl), by repeat (first | (with_reducible first | exact HB.out | apply bwA | apply bwN | apply bwD) | exact HB.out)⟩
       ·
        rw [if_neg c23] at H
        have c23b0 : (t445 == 0) = false := beq_eq_false_iff_ne.mpr c23
        have c23b1 : (t445 != 0) = true := bne_iff_ne.mpr c23
        obtain rfl := Option.some.inj H
        obtain ⟨Ao34, co34, eo34⟩ := Kd.R_slice HO_3.out
        subst eo34
        go_wp2_with (first | ((with_reducible refine gaC (f := 13) rfl ?_); refine goesL_ (some 32) rfl rfl Tryd.func13 (by kernel_rfl) rfl #[.slice Ao34 t429.length co34] rfl (by simp only [List.map_toArray, List.map_cons, List.map_nil]; try rfl) ?_; (with_reducible refine (lamplighterref11_Show.calls kj3 _ _ t429 t438 _ ?side1 ?side2 A14.out).mono ?_); (case side1 => repeat (first | exact (Kd.R_reads' HO_3.out).2.2 | (with_reducible refine Kd.C_alloc ?_ _) | (with_reducible refine Kd.C_drewN ?_ _) | (with_reducible refine Kd.C_drew ?_))); (case side2 => exact (Kd.R_reads' HO_3.out).2.1); rintro e w35 ⟨rfl, hb⟩; refine ⟨_, rfl, ?_⟩; have n0_ := As.mk (Kd.R_below (by (with_reducible repeat (first | apply Kd.rA | apply Kd.rN | apply Kd.rD)); exact HO_3.out) hb); have n1_ := As.mk (Kd.R_below (by (with_reducible repeat (first | apply Kd.rA | apply Kd.rN | apply Kd.rD)); exact HO_5.out) hb); have n2_ := As.mk (bwS (by repeat (first | (with_reducible first | exact HB.out | apply bwA | apply bwN | apply bwD) | exact HB.out)) hb); clear HO_3; clear HO_5; clear HB; have HO_3 := n0_; have HO_5 := n1_; have HB := n2_; clear n0_ n1_ n2_; (try clear hb); (try clear hb2); (try clear hk); (try clear hi)) | ((with_reducible refine gaC (f := 12) rfl ?_); refine goesL_ (some 33) rfl rfl Tryd.func12 (by kernel_rfl) rfl #[.string t438] rfl (by simp only [List.map_toArray, List.map_cons, List.map_nil]; try rfl) ?_; (with_reducible refine (ppred_Parse.calls t438 t439 t440 _ ?side1 A15.out).mono ?_); (case side1 => exact Glob.below HG.out (by repeat (first | (with_reducible first | exact HB.out | apply bwA | apply bwN | apply bwD) | exact HB.out)) rfl); rintro e w36 ⟨v441, rfl, ho0, hb⟩; refine ⟨_, rfl, ?_⟩; have n0_ := As.mk (Kd.R_elder' (by (with_reducible repeat (first | apply Kd.rA | apply Kd.rN | apply Kd.rD)); exact HO_3.out) (Kd.R_base ho0) hb); have n1_ := As.mk (Kd.R_elder' (by (with_reducible repeat (first | apply Kd.rA | apply Kd.rN | apply Kd.rD)); exact HO_5.out) (Kd.R_base ho0) hb); have n2_ := As.mk (Kd.R_lower (Kd.R_new' (Kd.R_new' ho0 (Kd.R_lt (by (with_reducible repeat (first | apply Kd.rA | apply Kd.rN | apply Kd.rD)); exact HO_3.out))) (Kd.R_lt (by (with_reducible repeat (first | apply Kd.rA | apply Kd.rN | apply Kd.rD)); exact HO_5.out))) (bwZ (by repeat (first | (with_reducible first | exact HB.out | apply bwA | apply bwN | apply bwD) | exact HB.out)))); have n3_ := As.mk (bwS (by repeat (first | (with_reducible first | exact HB.out | apply bwA | apply bwN | apply bwD) | exact HB.out)) hb); clear HO_3; clear HO_5; clear HB; have HO_3 := n0_; have HO_5 := n1_; have HO442 := n2_; have HB := n3_; clear n0_ n1_ n2_ n3_; (try clear hb); (try clear hb2); (try clear hk); (try clear hi); (try clear ho0); obtain ⟨Ao37, co37, eo37⟩ := Kd.R_slice HO_5.out; subst eo37) | ((with_reducible refine gaC (f := 13) rfl ?_); refine goesL_ (some 38) rfl rfl Tryd.func13 (by kernel_rfl) rfl #[.slice Ao37 t433.length co37] rfl (by simp only [List.map_toArray, List.map_cons, List.map_nil]; try rfl) ?_; (with_reducible refine (lamplighterref11_Show.calls kj3 _ _ t433 t443 _ ?side1 ?side2 A16.out).mono ?_); (case side1 => repeat (first | exact (Kd.R_reads' HO_5.out).2.2 | (with_reducible refine Kd.C_alloc ?_ _) | (with_reducible refine Kd.C_drewN ?_ _) | (with_reducible refine Kd.C_drew ?_))); (case side2 => exact (Kd.R_reads' HO_5.out).2.1); rintro e w38 ⟨rfl, hb⟩; refine ⟨_, rfl, ?_⟩; have n0_ := As.mk (Kd.R_below (by (with_reducible repeat (first | apply Kd.rA | apply Kd.rN | apply Kd.rD)); exact HO_3.out) hb); have n1_ := As.mk (Kd.R_below (by (with_reducible repeat (first | apply Kd.rA | apply Kd.rN | apply Kd.rD)); exact HO_5.out) hb); have n2_ := As.mk (Kd.R_below (by (with_reducible repeat (first | apply Kd.rA | apply Kd.rN | apply Kd.rD)); exact HO442.out) hb); have n3_ := As.mk (bwS (by repeat (first | (with_reducible first | exact HB.out | apply bwA | apply bwN | apply bwD) | exact HB.out)) hb); clear HO_3; clear HO_5; clear HO442; clear HB; have HO_3 := n0_; have HO_5 := n1_; have HO442 := n2_; have HB := n3_; clear n0_ n1_ n2_ n3_; (try clear hb); (try clear hb2); (try clear hk); (try clear hi)) | ((with_reducible refine gaC (f := 12) rfl ?_); refine goesL_ (some 39) rfl rfl Tryd.func12 (by kernel_rfl) rfl #[.string t443] rfl (by simp only [List.map_toArray, List.map_cons, List.map_nil]; try rfl) ?_; (with_reducible refine (ppred_Parse.calls t443 t444 t445 _ ?side1 A17.out).mono ?_); (case side1 => exact Glob.below HG.out (by repeat (first | (with_reducible first | exact HB.out | apply bwA | apply bwN | apply bwD) | exact HB.out)) rfl); rintro e w39 ⟨v446, rfl, ho0, hb⟩; refine ⟨_, rfl, ?_⟩; have n0_ := As.mk (Kd.R_elder' (by (with_reducible repeat (first | apply Kd.rA | apply Kd.rN | apply Kd.rD)); exact HO_3.out) (Kd.R_base ho0) hb); have n1_ := As.mk (Kd.R_elder' (by (with_reducible repeat (first | apply Kd.rA | apply Kd.rN | apply Kd.rD)); exact HO_5.out) (Kd.R_base ho0) hb); have n2_ := As.mk (Kd.R_elder' (by (with_reducible repeat (first | apply Kd.rA | apply Kd.rN | apply Kd.rD)); exact HO442.out) (Kd.R_base ho0) hb); have n3_ := As.mk (Kd.R_lower (Kd.R_new' (Kd.R_new' (Kd.R_new' ho0 (Kd.R_lt (by (with_reducible repeat (first | apply Kd.rA | apply Kd.rN | apply Kd.rD)); exact HO_3.out))) (Kd.R_lt (by (with_reducible repeat (first | apply Kd.rA | apply Kd.rN | apply Kd.rD)); exact HO_5.out))) (Kd.R_lt (by (with_reducible repeat (first | apply Kd.rA | apply Kd.rN | apply Kd.rD)); exact HO442.out))) (bwZ (by repeat (first | (with_reducible first | exact HB.out | apply bwA | apply bwN | apply bwD) | exact HB.out)))); have n4_ := As.mk (bwS (by repeat (first | (with_reducible first | exact HB.out | apply bwA | apply bwN | apply bwD) | exact HB.out)) hb); clear HO_3; clear HO_5; clear HO442; clear HB; have HO_3 := n0_; have HO_5 := n1_; have HO442 := n2_; have HO447 := n3_; have HB := n4_; clear n0_ n1_ n2_ n3_ n4_; (try clear hb); (try clear hb2); (try clear hk); (try clear hi); (try clear ho0)) | ((with_reducible refine gaC (f := 11) rfl ?_); refine goesL_ (some 42) rfl rfl Tryd.func11 (by kernel_rfl) rfl #[] rfl (by simp only [List.map_toArray, List.map_cons, List.map_nil]; try rfl) ?_; (with_reducible refine (lamplighterlaw15_awake.calls  true _ ?side1 A18.out).mono ?_); (case side1 => exact Glob.below HG.out (by repeat (first | (with_reducible first | exact HB.out | apply bwA | apply bwN | apply bwD) | exact HB.out)) rfl); rintro e w40 ⟨rfl, hb⟩; refine ⟨_, rfl, ?_⟩; have n0_ := As.mk (Kd.R_below (by (with_reducible repeat (first | apply Kd.rA | apply Kd.rN | apply Kd.rD)); exact HO_3.out) hb); have n1_ := As.mk (Kd.R_below (by (with_reducible repeat (first | apply Kd.rA | apply Kd.rN | apply Kd.rD)); exact HO_5.out) hb); have n2_ := As.mk (Kd.R_below (by (with_reducible repeat (first | apply Kd.rA | apply Kd.rN | apply Kd.rD)); exact HO442.out) hb); have n3_ := As.mk (Kd.R_below (by (with_reducible repeat (first | apply Kd.rA | apply Kd.rN | apply Kd.rD)); exact HO447.out) hb); have n4_ := As.mk (bwS (by repeat (first | (with_reducible first | exact HB.out | apply bwA | apply bwN | apply bwD) | exact HB.out)) hb); clear HO_3; clear HO_5; clear HO442; clear HO447; clear HB; have HO_3 := n0_; have HO_5 := n1_; have HO442 := n2_; have HO447 := n3_; have HB := n4_; clear n0_ n1_ n2_ n3_ n4_; (try clear hb); (try clear hb2); (try clear hk); (try clear hi); obtain ⟨Ao41, co41, eo41⟩ := Kd.R_slice HO442.out; subst eo41) | (go_at_call 14; (with_reducible refine (lamplighterref11_Same.calls kj3 _ _ t439 _ _ t429 true _ ?side1 ?side2 ?side3 ?side4 A21.out).mono ?_); (case side1 => repeat (first | exact (Kd.R_reads' HO442.out).2.2 | (with_reducible refine Kd.C_alloc ?_ _) | (with_reducible refine Kd.C_drewN ?_ _) | (with_reducible refine Kd.C_drew ?_))); (case side2 => exact (Kd.R_reads' HO442.out).2.1); (case side3 => repeat (first | exact (Kd.R_reads' HO_3.out).2.2 | (with_reducible refine Kd.C_alloc ?_ _) | (with_reducible refine Kd.C_drewN ?_ _) | (with_reducible refine Kd.C_drew ?_))); (case side4 => exact (Kd.R_reads' HO_3.out).2.1); rintro e w' ⟨rfl, ⟨nd, rfl⟩⟩))
        go_ret
        exact ⟨by first | rfl | (simp [errW_none, errW_some] <;> rfl) | (simp [*, errW_none, errW_some] <;> rfl), by repeat (first | (with_reducible first | exact HB.out | apply bwA | apply bwN | apply bwD) | exact HB.out)⟩
      ·
       replace c22 := Bool.eq_false_iff.mpr c22
       subst c22
       have H1 : (some false) = some r := by rw [if_neg (show ¬ (false = true) by decide)] at H; exact H
       clear H
       have H := H1
       clear H1
       obtain rfl := Option.some.inj H
       obtain ⟨Ao42, co42, eo42⟩ := Kd.R_slice HO_3.out
       subst eo42
       go_wp2_with (first | ((with_reducible refine gaC (f := 13) rfl ?_); refine goesL_ (some 32) rfl rfl Tryd.func13 (by kernel_rfl) rfl #[.slice Ao42 t429.length co42] rfl (by simp only [List.map_toArray, List.map_cons, List.map_nil]; try rfl) ?_; (with_reducible refine (lamplighterref11_Show.calls kj3 _ _ t429 t438 _ ?side1 ?side2 A14.out).mono ?_); (case side1 => repeat (first | exact (Kd.R_reads' HO_3.out).2.2 | (with_reducible refine Kd.C_alloc ?_ _) | (with_reducible refine Kd.C_drewN ?_ _) | (with_reducible refine Kd.C_drew ?_))); (case side2 => exact (Kd.R_reads' HO_3.out).2.1); rintro e w43 ⟨rfl, hb⟩; refine ⟨_, rfl, ?_⟩; have n0_ := As.mk (Kd.R_below (by (with_reducible repeat (first | apply Kd.rA | apply Kd.rN | apply Kd.rD)); exact HO_3.out) hb); have n1_ := As.mk (Kd.R_below (by (with_reducible repeat (first | apply Kd.rA | apply Kd.rN | apply Kd.rD)); exact HO_5.out) hb); have n2_ := As.mk (bwS (by repeat (first | (with_reducible first | exact HB.out | apply bwA | apply bwN | apply bwD) | exact HB.out)) hb); clear HO_3; clear HO_5; clear HB; have HO_3 := n0_; have HO_5 := n1_; have HB := n2_; clear n0_ n1_ n2_; (try clear hb); (try clear hb2); (try clear hk); (try clear hi)) | ((with_reducible refine gaC (f := 12) rfl ?_); refine goesL_ (some 33) rfl rfl Tryd.func12 (by kernel_rfl) rfl #[.string t438] rfl (by simp only [List.map_toArray, List.map_cons, List.map_nil]; try rfl) ?_; (with_reducible refine (ppred_Parse.calls t438 t439 t440 _ ?side1 A15.out).mono ?_); (case side1 => exact Glob.below HG.out (by repeat (first | (with_reducible first | exact HB.out | apply bwA | apply bwN | apply bwD) | exact HB.out)) rfl); rintro e w44 ⟨v441, rfl, ho0, hb⟩; refine ⟨_, rfl, ?_⟩; have n0_ := As.mk (Kd.R_elder' (by (with_reducible repeat (first | apply Kd.rA | apply Kd.rN | apply Kd.rD)); exact HO_3.out) (Kd.R_base ho0) hb); have n1_ := As.mk (Kd.R_elder' (by (with_reducible repeat (first | apply Kd.rA | apply Kd.rN | apply Kd.rD)); exact HO_5.out) (Kd.R_base ho0) hb); have n2_ := As.mk (Kd.R_lower (Kd.R_new' (Kd.R_new' ho0 (Kd.R_lt (by (with_reducible repeat (first | apply Kd.rA | apply Kd.rN | apply Kd.rD)); exact HO_3.out))) (Kd.R_lt (by (with_reducible repeat (first | apply Kd.rA | apply Kd.rN | apply Kd.rD)); exact HO_5.out))) (bwZ (by repeat (first | (with_reducible first | exact HB.out | apply bwA | apply bwN | apply bwD) | exact HB.out)))); have n3_ := As.mk (bwS (by repeat (first | (with_reducible first | exact HB.out | apply bwA | apply bwN | apply bwD) | exact HB.out)) hb); clear HO_3; clear HO_5; clear HB; have HO_3 := n0_; have HO_5 := n1_; have HO442 := n2_; have HB := n3_; clear n0_ n1_ n2_ n3_; (try clear hb); (try clear hb2); (try clear hk); (try clear hi); (try clear ho0); obtain ⟨Ao45, co45, eo45⟩ := Kd.R_slice HO_5.out; subst eo45) | ((with_reducible refine gaC (f := 13) rfl ?_); refine goesL_ (some 38) rfl rfl Tryd.func13 (by kernel_rfl) rfl #[.slice Ao45 t433.length co45] rfl (by simp only [List.map_toArray, List.map_cons, List.map_nil]; try rfl) ?_; (with_reducible refine (lamplighterref11_Show.calls kj3 _ _ t433 t443 _ ?side1 ?side2 A16.out).mono ?_); (case side1 => repeat (first | exact (Kd.R_reads' HO_5.out).2.2 | (with_reducible refine Kd.C_alloc ?_ _) | (with_reducible refine Kd.C_drewN ?_ _) | (with_reducible refine Kd.C_drew ?_))); (case side2 => exact (Kd.R_reads' HO_5.out).2.1); rintro e w46 ⟨rfl, hb⟩; refine ⟨_, rfl, ?_⟩; have n0_ := As.mk (Kd.R_below (by (with_reducible repeat (first | apply Kd.rA | apply Kd.rN | apply Kd.rD)); exact HO_3.out) hb); have n1_ := As.mk (Kd.R_below (by (with_reducible repeat (first | apply Kd.rA | apply Kd.rN | apply Kd.rD)); exact HO_5.out) hb); have n2_ := As.mk (Kd.R_below (by (with_reducible repeat (first | apply Kd.rA | apply Kd.rN | apply Kd.rD)); exact HO442.out) hb); have n3_ := As.mk (bwS (by repeat (first | (with_reducible first | exact HB.out | apply bwA | apply bwN | apply bwD) | exact HB.out)) hb); clear HO_3; clear HO_5; clear HO442; clear HB; have HO_3 := n0_; have HO_5 := n1_; have HO442 := n2_; have HB := n3_; clear n0_ n1_ n2_ n3_; (try clear hb); (try clear hb2); (try clear hk); (try clear hi)) | ((with_reducible refine gaC (f := 12) rfl ?_); refine goesL_ (some 39) rfl rfl Tryd.func12 (by kernel_rfl) rfl #[.string t443] rfl (by simp only [List.map_toArray, List.map_cons, List.map_nil]; try rfl) ?_; (with_reducible refine (ppred_Parse.calls t443 t444 t445 _ ?side1 A17.out).mono ?_); (case side1 => exact Glob.below HG.out (by repeat (first | (with_reducible first | exact HB.out | apply bwA | apply bwN | apply bwD) | exact HB.out)) rfl); rintro e w47 ⟨v446, rfl, ho0, hb⟩; refine ⟨_, rfl, ?_⟩; have n0_ := As.mk (Kd.R_elder' (by (with_reducible repeat (first | apply Kd.rA | apply Kd.rN | apply Kd.rD)); exact HO_3.out) (Kd.R_base ho0) hb); have n1_ := As.mk (Kd.R_elder' (by (with_reducible repeat (first | apply Kd.rA | apply Kd.rN | apply Kd.rD)); exact HO_5.out) (Kd.R_base ho0) hb); have n2_ := As.mk (Kd.R_elder' (by (with_reducible repeat (first | apply Kd.rA | apply Kd.rN | apply Kd.rD)); exact HO442.out) (Kd.R_base ho0) hb); have n3_ := As.mk (Kd.R_lower (Kd.R_new' (Kd.R_new' (Kd.R_new' ho0 (Kd.R_lt (by (with_reducible repeat (first | apply Kd.rA | apply Kd.rN | apply Kd.rD)); exact HO_3.out))) (Kd.R_lt (by (with_reducible repeat (first | apply Kd.rA | apply Kd.rN | apply Kd.rD)); exact HO_5.out))) (Kd.R_lt (by (with_reducible repeat (first | apply Kd.rA | apply Kd.rN | apply Kd.rD)); exact HO442.out))) (bwZ (by repeat (first | (with_reducible first | exact HB.out | apply bwA | apply bwN | apply bwD) | exact HB.out)))); have n4_ := As.mk (bwS (by repeat (first | (with_reducible first | exact HB.out | apply bwA | apply bwN | apply bwD) | exact HB.out)) hb); clear HO_3; clear HO_5; clear HO442; clear HB; have HO_3 := n0_; have HO_5 := n1_; have HO442 := n2_; have HO447 := n3_; have HB := n4_; clear n0_ n1_ n2_ n3_ n4_; (try clear hb); (try clear hb2); (try clear hk); (try clear hi); (try clear ho0)) | ((with_reducible refine gaC (f := 11) rfl ?_); refine goesL_ (some 42) rfl rfl Tryd.func11 (by kernel_rfl) rfl #[] rfl (by simp only [List.map_toArray, List.map_cons, List.map_nil]; try rfl) ?_; (with_reducible refine (lamplighterlaw15_awake.calls  true _ ?side1 A18.out).mono ?_); (case side1 => exact Glob.below HG.out (by repeat (first | (with_reducible first | exact HB.out | apply bwA | apply bwN | apply bwD) | exact HB.out)) rfl); rintro e w48 ⟨rfl, hb⟩; refine ⟨_, rfl, ?_⟩; have n0_ := As.mk (Kd.R_below (by (with_reducible repeat (first | apply Kd.rA | apply Kd.rN | apply Kd.rD)); exact HO_3.out) hb); have n1_ := As.mk (Kd.R_below (by (with_reducible repeat (first | apply Kd.rA | apply Kd.rN | apply Kd.rD)); exact HO_5.out) hb); have n2_ := As.mk (Kd.R_below (by (with_reducible repeat (first | apply Kd.rA | apply Kd.rN | apply Kd.rD)); exact HO442.out) hb); have n3_ := As.mk (Kd.R_below (by (with_reducible repeat (first | apply Kd.rA | apply Kd.rN | apply Kd.rD)); exact HO447.out) hb); have n4_ := As.mk (bwS (by repeat (first | (with_reducible first | exact HB.out | apply bwA | apply bwN | apply bwD) | exact HB.out)) hb); clear HO_3; clear HO_5; clear HO442; clear HO447; clear HB; have HO_3 := n0_; have HO_5 := n1_; have HO442 := n2_; have HO447 := n3_; have HB := n4_; clear n0_ n1_ n2_ n3_ n4_; (try clear hb); (try clear hb2); (try clear hk); (try clear hi); obtain ⟨Ao49, co49, eo49⟩ := Kd.R_slice HO442.out; subst eo49) | (go_at_call 14; (with_reducible refine (lamplighterref11_Same.calls kj3 _ _ t439 _ _ t429 false _ ?side1 ?side2 ?side3 ?side4 A21.out).mono ?_); (case side1 => repeat (first | exact (Kd.R_reads' HO442.out).2.2 | (with_reducible refine Kd.C_alloc ?_ _) | (with_reducible refine Kd.C_drewN ?_ _) | (with_reducible refine Kd.C_drew ?_))); (case side2 => exact (Kd.R_reads' HO442.out).2.1); (case side3 => repeat (first | exact (Kd.R_reads' HO_3.out).2.2 | (with_reducible refine Kd.C_alloc ?_ _) | (with_reducible refine Kd.C_drewN ?_ _) | (with_reducible refine Kd.C_drew ?_))); (case side4 => exact (Kd.R_reads' HO_3.out).2.1); rintro e w' ⟨rfl, ⟨nd, rfl⟩⟩))
       go_ret
       exact ⟨by first | rfl | (simp [errW_none, errW_some] <;> rfl) | (simp [*, errW_none, errW_some] <;> rfl), by repeat (first | (with_reducible first | exact HB.out | apply bwA | apply bwN | apply bwD) | exact HB.out)⟩
     ·
      rw [if_neg c20] at H
      have c20b0 : (t440 == 0) = false := beq_eq_false_iff_ne.mpr c20
      have c20b1 : (t440 != 0) = true := bne_iff_ne.mpr c20
      obtain rfl := Option.some.inj H
      obtain ⟨Ao50, co50, eo50⟩ := Kd.R_slice HO_3.out
      subst eo50
      go_wp2_with (first | ((with_reducible refine gaC (f := 13) rfl ?_); refine goesL_ (some 32) rfl rfl Tryd.func13 (by kernel_rfl) rfl #[.slice Ao50 t429.length co50] rfl (by simp only [List.map_toArray, List.map_cons, List.map_nil]; try rfl) ?_; (with_reducible refine (lamplighterref11_Show.calls kj3 _ _ t429 t438 _ ?side1 ?side2 A14.out).mono ?_); (case side1 => repeat (first | exact (Kd.R_reads' HO_3.out).2.2 | (with_reducible refine Kd.C_alloc ?_ _) | (with_reducible refine Kd.C_drewN ?_ _) | (with_reducible refine Kd.C_drew ?_))); (case side2 => exact (Kd.R_reads' HO_3.out).2.1); rintro e w51 ⟨rfl, hb⟩; refine ⟨_, rfl, ?_⟩; have n0_ := As.mk (Kd.R_below (by (with_reducible repeat (first | apply Kd.rA | apply Kd.rN | apply Kd.rD)); exact HO_3.out) hb); have n1_ := As.mk (Kd.R_below (by (with_reducible repeat (first | apply Kd.rA | apply Kd.rN | apply Kd.rD)); exact HO_5.out) hb); have n2_ := As.mk (bwS (by repeat (first | (with_reducible first | exact HB.out | apply bwA | apply bwN | apply bwD) | exact HB.out)) hb); clear HO_3; clear HO_5; clear HB; have HO_3 := n0_; have HO_5 := n1_; have HB := n2_; clear n0_ n1_ n2_; (try clear hb); (try clear hb2); (try clear hk); (try clear hi)) | ((with_reducible refine gaC (f := 12) rfl ?_); refine goesL_ (some 33) rfl rfl Tryd.func12 (by kernel_rfl) rfl #[.string t438] rfl (by simp only [List.map_toArray, List.map_cons, List.map_nil]; try rfl) ?_; (with_reducible refine (ppred_Parse.calls t438 t439 t440 _ ?side1 A15.out).mono ?_); (case side1 => exact Glob.below HG.out (by repeat (first | (with_reducible first | exact HB.out | apply bwA | apply bwN | apply bwD) | exact HB.out)) rfl); rintro e w52 ⟨v441, rfl, ho0, hb⟩; refine ⟨_, rfl, ?_⟩; have n0_ := As.mk (Kd.R_elder' (by (with_reducible repeat (first | apply Kd.rA | apply Kd.rN | apply Kd.rD)); exact HO_3.out) (Kd.R_base ho0) hb); have n1_ := As.mk (Kd.R_elder' (by (with_reducible repeat (first | apply Kd.rA | apply Kd.rN | apply Kd.rD)); exact HO_5.out) (Kd.R_base ho0) hb); have n2_ := As.mk (Kd.R_lower (Kd.R_new' (Kd.R_new' ho0 (Kd.R_lt (by (with_reducible repeat (first | apply Kd.rA | apply Kd.rN | apply Kd.rD)); exact HO_3.out))) (Kd.R_lt (by (with_reducible repeat (first | apply Kd.rA | apply Kd.rN | apply Kd.rD)); exact HO_5.out))) (bwZ (by repeat (first | (with_reducible first | exact HB.out | apply bwA | apply bwN | apply bwD) | exact HB.out)))); have n3_ := As.mk (bwS (by repeat (first | (with_reducible first | exact HB.out | apply bwA | apply bwN | apply bwD) | exact HB.out)) hb); clear HO_3; clear HO_5; clear HB; have HO_3 := n0_; have HO_5 := n1_; have HO442 := n2_; have HB := n3_; clear n0_ n1_ n2_ n3_; (try clear hb); (try clear hb2); (try clear hk); (try clear hi); (try clear ho0); obtain ⟨Ao53, co53, eo53⟩ := Kd.R_slice HO_5.out; subst eo53) | ((with_reducible refine gaC (f := 13) rfl ?_); refine goesL_ (some 38) rfl rfl Tryd.func13 (by kernel_rfl) rfl #[.slice Ao53 t433.length co53] rfl (by simp only [List.map_toArray, List.map_cons, List.map_nil]; try rfl) ?_; (with_reducible refine (lamplighterref11_Show.calls kj3 _ _ t433 t443 _ ?side1 ?side2 A16.out).mono ?_); (case side1 => repeat (first | exact (Kd.R_reads' HO_5.out).2.2 | (with_reducible refine Kd.C_alloc ?_ _) | (with_reducible refine Kd.C_drewN ?_ _) | (with_reducible refine Kd.C_drew ?_))); (case side2 => exact (Kd.R_reads' HO_5.out).2.1); rintro e w54 ⟨rfl, hb⟩; refine ⟨_, rfl, ?_⟩; have n0_ := As.mk (Kd.R_below (by (with_reducible repeat (first | apply Kd.rA | apply Kd.rN | apply Kd.rD)); exact HO_3.out) hb); have n1_ := As.mk (Kd.R_below (by (with_reducible repeat (first | apply Kd.rA | apply Kd.rN | apply Kd.rD)); exact HO_5.out) hb); have n2_ := As.mk (Kd.R_below (by (with_reducible repeat (first | apply Kd.rA | apply Kd.rN | apply Kd.rD)); exact HO442.out) hb); have n3_ := As.mk (bwS (by repeat (first | (with_reducible first | exact HB.out | apply bwA | apply bwN | apply bwD) | exact HB.out)) hb); clear HO_3; clear HO_5; clear HO442; clear HB; have HO_3 := n0_; have HO_5 := n1_; have HO442 := n2_; have HB := n3_; clear n0_ n1_ n2_ n3_; (try clear hb); (try clear hb2); (try clear hk); (try clear hi)) | ((with_reducible refine gaC (f := 12) rfl ?_); refine goesL_ (some 39) rfl rfl Tryd.func12 (by kernel_rfl) rfl #[.string t443] rfl (by simp only [List.map_toArray, List.map_cons, List.map_nil]; try rfl) ?_; (with_reducible refine (ppred_Parse.calls t443 t444 t445 _ ?side1 A17.out).mono ?_); (case side1 => exact Glob.below HG.out (by repeat (first | (with_reducible first | exact HB.out | apply bwA | apply bwN | apply bwD) | exact HB.out)) rfl); rintro e w55 ⟨v446, rfl, ho0, hb⟩; refine ⟨_, rfl, ?_⟩; have n0_ := As.mk (Kd.R_elder' (by (with_reducible repeat (first | apply Kd.rA | apply Kd.rN | apply Kd.rD)); exact HO_3.out) (Kd.R_base ho0) hb); have n1_ := As.mk (Kd.R_elder' (by (with_reducible repeat (first | apply Kd.rA | apply Kd.rN | apply Kd.rD)); exact HO_5.out) (Kd.R_base ho0) hb); have n2_ := As.mk (Kd.R_elder' (by (with_reducible repeat (first | apply Kd.rA | apply Kd.rN | apply Kd.rD)); exact HO442.out) (Kd.R_base ho0) hb); have n3_ := As.mk (Kd.R_lower (Kd.R_new' (Kd.R_new' (Kd.R_new' ho0 (Kd.R_lt (by (with_reducible repeat (first | apply Kd.rA | apply Kd.rN | apply Kd.rD)); exact HO_3.out))) (Kd.R_lt (by (with_reducible repeat (first | apply Kd.rA | apply Kd.rN | apply Kd.rD)); exact HO_5.out))) (Kd.R_lt (by (with_reducible repeat (first | apply Kd.rA | apply Kd.rN | apply Kd.rD)); exact HO442.out))) (bwZ (by repeat (first | (with_reducible first | exact HB.out | apply bwA | apply bwN | apply bwD) | exact HB.out)))); have n4_ := As.mk (bwS (by repeat (first | (with_reducible first | exact HB.out | apply bwA | apply bwN | apply bwD) | exact HB.out)) hb); clear HO_3; clear HO_5; clear HO442; clear HB; have HO_3 := n0_; have HO_5 := n1_; have HO442 := n2_; have HO447 := n3_; have HB := n4_; clear n0_ n1_ n2_ n3_ n4_; (try clear hb); (try clear hb2); (try clear hk); (try clear hi); (try clear ho0)) | ((with_reducible refine gaC (f := 11) rfl ?_); refine goesL_ (some 42) rfl rfl Tryd.func11 (by kernel_rfl) rfl #[] rfl (by simp only [List.map_toArray, List.map_cons, List.map_nil]; try rfl) ?_; (with_reducible refine (lamplighterlaw15_awake.calls  true _ ?side1 A18.out).mono ?_); (case side1 => exact Glob.below HG.out (by repeat (first | (with_reducible first | exact HB.out | apply bwA | apply bwN | apply bwD) | exact HB.out)) rfl); rintro e w56 ⟨rfl, hb⟩; refine ⟨_, rfl, ?_⟩; have n0_ := As.mk (Kd.R_below (by (with_reducible repeat (first | apply Kd.rA | apply Kd.rN | apply Kd.rD)); exact HO_3.out) hb); have n1_ := As.mk (Kd.R_below (by (with_reducible repeat (first | apply Kd.rA | apply Kd.rN | apply Kd.rD)); exact HO_5.out) hb); have n2_ := As.mk (Kd.R_below (by (with_reducible repeat (first | apply Kd.rA | apply Kd.rN | apply Kd.rD)); exact HO442.out) hb); have n3_ := As.mk (Kd.R_below (by (with_reducible repeat (first | apply Kd.rA | apply Kd.rN | apply Kd.rD)); exact HO447.out) hb); have n4_ := As.mk (bwS (by repeat (first | (with_reducible first | exact HB.out | apply bwA | apply bwN | apply bwD) | exact HB.out)) hb); clear HO_3; clear HO_5; clear HO442; clear HO447; clear HB; have HO_3 := n0_; have HO_5 := n1_; have HO442 := n2_; have HO447 := n3_; have HB := n4_; clear n0_ n1_ n2_ n3_ n4_; (try clear hb); (try clear hb2); (try clear hk); (try clear hi)))
      go_ret
      exact ⟨by first | rfl | (simp [errW_none, errW_some] <;> rfl) | (simp [*, errW_none, errW_some] <;> rfl), by repeat (first | (with_reducible first | exact HB.out | apply bwA | apply bwN | apply bwD) | exact HB.out)⟩
    ·
     replace c19 := Bool.eq_false_iff.mpr c19
     subst c19
     have H1 : (some false) = some r := by rw [if_neg (show ¬ (false = true) by decide)] at H; exact H
     clear H
     have H := H1
     clear H1
     obtain rfl := Option.some.inj H
     obtain ⟨Ao57, co57, eo57⟩ := Kd.R_slice HO_3.out
     subst eo57
     go_wp2_with (first | ((with_reducible refine gaC (f := 13) rfl ?_); refine goesL_ (some 32) rfl rfl Tryd.func13 (by kernel_rfl) rfl #[.slice Ao57 t429.length co57] rfl (by simp only [List.map_toArray, List.map_cons, List.map_nil]; try rfl) ?_; (with_reducible refine (lamplighterref11_Show.calls kj3 _ _ t429 t438 _ ?side1 ?side2 A14.out).mono ?_); (case side1 => repeat (first | exact (Kd.R_reads' HO_3.out).2.2 | (with_reducible refine Kd.C_alloc ?_ _) | (with_reducible refine Kd.C_drewN ?_ _) | (with_reducible refine Kd.C_drew ?_))); (case side2 => exact (Kd.R_reads' HO_3.out).2.1); rintro e w58 ⟨rfl, hb⟩; refine ⟨_, rfl, ?_⟩; have n0_ := As.mk (Kd.R_below (by (with_reducible repeat (first | apply Kd.rA | apply Kd.rN | apply Kd.rD)); exact HO_3.out) hb); have n1_ := As.mk (Kd.R_below (by (with_reducible repeat (first | apply Kd.rA | apply Kd.rN | apply Kd.rD)); exact HO_5.out) hb); have n2_ := As.mk (bwS (by repeat (first | (with_reducible first | exact HB.out | apply bwA | apply bwN | apply bwD) | exact HB.out)) hb); clear HO_3; clear HO_5; clear HB; have HO_3 := n0_; have HO_5 := n1_; have HB := n2_; clear n0_ n1_ n2_; (try clear hb); (try clear hb2); (try clear hk); (try clear hi)) | ((with_reducible refine gaC (f := 12) rfl ?_); refine goesL_ (some 33) rfl rfl Tryd.func12 (by kernel_rfl) rfl #[.string t438] rfl (by simp only [List.map_toArray, List.map_cons, List.map_nil]; try rfl) ?_; (with_reducible refine (ppred_Parse.calls t438 t439 t440 _ ?side1 A15.out).mono ?_); (case side1 => exact Glob.below HG.out (by repeat (first | (with_reducible first | exact HB.out | apply bwA | apply bwN | apply bwD) | exact HB.out)) rfl); rintro e w59 ⟨v441, rfl, ho0, hb⟩; refine ⟨_, rfl, ?_⟩; have n0_ := As.mk (Kd.R_elder' (by (with_reducible repeat (first | apply Kd.rA | apply Kd.rN | apply Kd.rD)); exact HO_3.out) (Kd.R_base ho0) hb); have n1_ := As.mk (Kd.R_elder' (by (with_reducible repeat (first | apply Kd.rA | apply Kd.rN | apply Kd.rD)); exact HO_5.out) (Kd.R_base ho0) hb); have n2_ := As.mk (Kd.R_lower (Kd.R_new' (Kd.R_new' ho0 (Kd.R_lt (by (with_reducible repeat (first | apply Kd.rA | apply Kd.rN | apply Kd.rD)); exact HO_3.out))) (Kd.R_lt (by (with_reducible repeat (first | apply Kd.rA | apply Kd.rN | apply Kd.rD)); exact HO_5.out))) (bwZ (by repeat (first | (with_reducible first | exact HB.out | apply bwA | apply bwN | apply bwD) | exact HB.out)))); have n3_ := As.mk (bwS (by repeat (first | (with_reducible first | exact HB.out | apply bwA | apply bwN | apply bwD) | exact HB.out)) hb); clear HO_3; clear HO_5; clear HB; have HO_3 := n0_; have HO_5 := n1_; have HO442 := n2_; have HB := n3_; clear n0_ n1_ n2_ n3_; (try clear hb); (try clear hb2); (try clear hk); (try clear hi); (try clear ho0); obtain ⟨Ao60, co60, eo60⟩ := Kd.R_slice HO_5.out; subst eo60) | ((with_reducible refine gaC (f := 13) rfl ?_); refine goesL_ (some 38) rfl rfl Tryd.func13 (by kernel_rfl) rfl #[.slice Ao60 t433.length co60] rfl (by simp only [List.map_toArray, List.map_cons, List.map_nil]; try rfl) ?_; (with_reducible refine (lamplighterref11_Show.calls kj3 _ _ t433 t443 _ ?side1 ?side2 A16.out).mono ?_); (case side1 => repeat (first | exact (Kd.R_reads' HO_5.out).2.2 | (with_reducible refine Kd.C_alloc ?_ _) | (with_reducible refine Kd.C_drewN ?_ _) | (with_reducible refine Kd.C_drew ?_))); (case side2 => exact (Kd.R_reads' HO_5.out).2.1); rintro e w61 ⟨rfl, hb⟩; refine ⟨_, rfl, ?_⟩; have n0_ := As.mk (Kd.R_below (by (with_reducible repeat (first | apply Kd.rA | apply Kd.rN | apply Kd.rD)); exact HO_3.out) hb); have n1_ := As.mk (Kd.R_below (by (with_reducible repeat (first | apply Kd.rA | apply Kd.rN | apply Kd.rD)); exact HO_5.out) hb); have n2_ := As.mk (Kd.R_below (by (with_reducible repeat (first | apply Kd.rA | apply Kd.rN | apply Kd.rD)); exact HO442.out) hb); have n3_ := As.mk (bwS (by repeat (first | (with_reducible first | exact HB.out | apply bwA | apply bwN | apply bwD) | exact HB.out)) hb); clear HO_3; clear HO_5; clear HO442; clear HB; have HO_3 := n0_; have HO_5 := n1_; have HO442 := n2_; have HB := n3_; clear n0_ n1_ n2_ n3_; (try clear hb); (try clear hb2); (try clear hk); (try clear hi)) | ((with_reducible refine gaC (f := 12) rfl ?_); refine goesL_ (some 39) rfl rfl Tryd.func12 (by kernel_rfl) rfl #[.string t443] rfl (by simp only [List.map_toArray, List.map_cons, List.map_nil]; try rfl) ?_; (with_reducible refine (ppred_Parse.calls t443 t444 t445 _ ?side1 A17.out).mono ?_); (case side1 => exact Glob.below HG.out (by repeat (first | (with_reducible first | exact HB.out | apply bwA | apply bwN | apply bwD) | exact HB.out)) rfl); rintro e w62 ⟨v446, rfl, ho0, hb⟩; refine ⟨_, rfl, ?_⟩; have n0_ := As.mk (Kd.R_elder' (by (with_reducible repeat (first | apply Kd.rA | apply Kd.rN | apply Kd.rD)); exact HO_3.out) (Kd.R_base ho0) hb); have n1_ := As.mk (Kd.R_elder' (by (with_reducible repeat (first | apply Kd.rA | apply Kd.rN | apply Kd.rD)); exact HO_5.out) (Kd.R_base ho0) hb); have n2_ := As.mk (Kd.R_elder' (by (with_reducible repeat (first | apply Kd.rA | apply Kd.rN | apply Kd.rD)); exact HO442.out) (Kd.R_base ho0) hb); have n3_ := As.mk (Kd.R_lower (Kd.R_new' (Kd.R_new' (Kd.R_new' ho0 (Kd.R_lt (by (with_reducible repeat (first | apply Kd.rA | apply Kd.rN | apply Kd.rD)); exact HO_3.out))) (Kd.R_lt (by (with_reducible repeat (first | apply Kd.rA | apply Kd.rN | apply Kd.rD)); exact HO_5.out))) (Kd.R_lt (by (with_reducible repeat (first | apply Kd.rA | apply Kd.rN | apply Kd.rD)); exact HO442.out))) (bwZ (by repeat (first | (with_reducible first | exact HB.out | apply bwA | apply bwN | apply bwD) | exact HB.out)))); have n4_ := As.mk (bwS (by repeat (first | (with_reducible first | exact HB.out | apply bwA | apply bwN | apply bwD) | exact HB.out)) hb); clear HO_3; clear HO_5; clear HO442; clear HB; have HO_3 := n0_; have HO_5 := n1_; have HO442 := n2_; have HO447 := n3_; have HB := n4_; clear n0_ n1_ n2_ n3_ n4_; (try clear hb); (try clear hb2); (try clear hk); (try clear hi); (try clear ho0)) | ((with_reducible refine gaC (f := 11) rfl ?_); refine goesL_ (some 42) rfl rfl Tryd.func11 (by kernel_rfl) rfl #[] rfl (by simp only [List.map_toArray, List.map_cons, List.map_nil]; try rfl) ?_; (with_reducible refine (lamplighterlaw15_awake.calls  false _ ?side1 A18.out).mono ?_); (case side1 => exact Glob.below HG.out (by repeat (first | (with_reducible first | exact HB.out | apply bwA | apply bwN | apply bwD) | exact HB.out)) rfl); rintro e w63 ⟨rfl, hb⟩; refine ⟨_, rfl, ?_⟩; have n0_ := As.mk (Kd.R_below (by (with_reducible repeat (first | apply Kd.rA | apply Kd.rN | apply Kd.rD)); exact HO_3.out) hb); have n1_ := As.mk (Kd.R_below (by (with_reducible repeat (first | apply Kd.rA | apply Kd.rN | apply Kd.rD)); exact HO_5.out) hb); have n2_ := As.mk (Kd.R_below (by (with_reducible repeat (first | apply Kd.rA | apply Kd.rN | apply Kd.rD)); exact HO442.out) hb); have n3_ := As.mk (Kd.R_below (by (with_reducible repeat (first | apply Kd.rA | apply Kd.rN | apply Kd.rD)); exact HO447.out) hb); have n4_ := As.mk (bwS (by repeat (first | (with_reducible first | exact HB.out | apply bwA | apply bwN | apply bwD) | exact HB.out)) hb); clear HO_3; clear HO_5; clear HO442; clear HO447; clear HB; have HO_3 := n0_; have HO_5 := n1_; have HO442 := n2_; have HO447 := n3_; have HB := n4_; clear n0_ n1_ n2_ n3_ n4_; (try clear hb); (try clear hb2); (try clear hk); (try clear hi)))
     go_ret
     exact ⟨by first | rfl | (simp [errW_none, errW_some] <;> rfl) | (simp [*, errW_none, errW_some] <;> rfl), by repeat (first | (with_reducible first | exact HB.out | apply bwA | apply bwN | apply bwD) | exact HB.out)⟩

/-- THE ONE PURE STATEMENT of lamplighterlaw15_PpredBack: yours. -/
def lamplighterlaw15_PpredBack.Pure : Prop := ∀ (l0 : List Int), l0.length ≤ maxLen → l0.length * 8 ≤ 140737488351232 → (∀ x ∈ l0, (Lit.int .i64 x).wf = true) → ∃ k, lamplighterlaw15_PpredBack.f k l0 = some true
theorem lamplighterlaw15_PpredBack.walk (P : lamplighterlaw15_PpredBack.Pure) (a0 : Option Addr) (len0 cap0 : Nat) (z0 : List Int) (w : World) (w0 : (a0 = none ∧ len0 = 0 ∧ cap0 = 0 ∧ z0 = []) ∨ ∃ x, a0 = some x ∧ len0 ≤ cap0 ∧ cap0 ≤ maxLen ∧ z0.length = cap0 ∧ (∀ i, i < z0.length → w.cell? (x.add i) = some (.int .i64 (z0.getD i 0))) ∧ ∀ n ∈ z0, (Lit.int .i64 n).wf = true) (y0 : len0 * 8 ≤ 140737488351232) (hG : Glob w) :
  Calls Tryd.prog 3 #[.slice a0 len0 cap0] w fun e w' => e = .returned (.bool true) ∧ Below w.heap.size w w' := by
 obtain ⟨l0, rfl, hr0, hm0, hw0, hc0⟩ := ReadsInt.ofRowC w0
 obtain ⟨k, h⟩ := P l0 hm0 y0 hw0
 refine (lamplighterlaw15_PpredBack.calls k _ _ l0 true w (Kd.C_of_reads (d := (0 : Int)) (h1 := fun _ => rfl) hr0) hc0 hG h).mono ?_
 rintro e w' ⟨rfl, hd⟩
 exact ⟨rfl, hd⟩

/-! ### lamplighterlaw15_level: function 28 -/

-- NOT PRINTED: function 15 (lamplighterlaw15_flat)

-- NOT PRINTED: function 4 (lamplighterlaw15_PpredStrength)

end Go.Proofs.YtpijgeijflbmhaaDoor.P

/- PpredBack's plain law: what the document draws is a tree; its text is read as it. -/
namespace Go.Proofs.YtpijgeijflbmhaaDoor.P
open Go.RowKit Go.Proofs.YtpijgeijflbmhaaDoorW.PrintWords Go.Proofs.YtpijgeijflbmhaaDoorW.PrintLast Go.Proofs.YtpijgeijflbmhaaDoorW.PrintMore
set_option linter.unusedVariables false

theorem bits_and (x : Int) (m : Nat) (hm : m < 1000000) : 0 ≤ Go.bits .and .i64 x (m : Int) ∧ Go.bits .and .i64 x (m : Int) ≤ m := by
  have h1 : (BitVec.ofInt 64 x &&& BitVec.ofInt 64 (m : Int)).toNat ≤ m := by
    rw [BitVec.toNat_and]
    refine Nat.le_trans Nat.and_le_right ?_
    rw [BitVec.toNat_ofInt]
    omega
  show 0 ≤ IntKind.i64.wrap ((BitVec.ofInt 64 x &&& BitVec.ofInt 64 (m : Int)).toNat : Int) ∧ IntKind.i64.wrap ((BitVec.ofInt 64 x &&& BitVec.ofInt 64 (m : Int)).toNat : Int) ≤ m
  rw [i64_w, w64 _ (by omega) (by omega)]
  omega

theorem three (xs : Int → ByteArray) (x : Int) (h : 0 ≤ x) : 0 ≤ Int.tmod x 3 ∧ Int.tmod x 3 < 3 := by
  rw [Int.tmod_eq_emod_of_nonneg h]; omega

theorem pick3 (a b c : ByteArray) (i : Int) (h : 0 ≤ i) (h2 : i < 3) : rdOf ByteArray.empty [a, b, c] i = a ∨ rdOf ByteArray.empty [a, b, c] i = b ∨ rdOf ByteArray.empty [a, b, c] i = c := by
  have : i = 0 ∨ i = 1 ∨ i = 2 := by omega
  rcases this with rfl | rfl | rfl
  · exact .inl rfl
  · exact .inr (.inl rfl)
  · exact .inr (.inr rfl)

theorem number_leaf (k : Nat) (x0 : List Int) (x1 x2 x8 : Int) (h0 : 0 ≤ x8) (h1 : x8 ≤ 65535) :
    ∃ e : Ex, lamplighterref11_Number.j1 (k + 1) x0 x1 x2 x8 true = some (e.nodes, x1) ∧ e.wf ∧ e.ht = 1 ∧ e.nodes.length = 1 := by
  rw [lamplighterref11_Number.j1, if_pos rfl]
  by_cases h6 : Int.tmod x8 6 = 0
  · rw [if_pos h6]
    have hb : 0 ≤ Go.bits .and .i64 (x8 / 16) 31 ∧ Go.bits .and .i64 (x8 / 16) 31 ≤ 31 := bits_and (x8 / 16) 31 (by omega)
    have hw : wrap64 (Go.bits .and .i64 (x8 / 16) 31 - 8) = Go.bits .and .i64 (x8 / 16) 31 - 8 := w64 _ (by omega) (by omega)
    refine ⟨.num (Go.bits .and .i64 (x8 / 16) 31 - 8), ?_, ⟨by omega, by omega⟩, rfl, rfl⟩
    rw [hw]; rfl
  · rw [if_neg h6]
    obtain ⟨t1, t2⟩ := three (fun _ => ⟨#[]⟩) (x8 / 16) (by omega)
    simp only [Option.bind_some]
    rw [if_pos t1, if_pos (by simpa using t2)]
    rcases pick3 ⟨#[97]⟩ ⟨#[98]⟩ ⟨#[99]⟩ _ t1 t2 with h | h | h <;> rw [h]
    · exact ⟨.fld [97] [120], rfl, ⟨by simp, by simp⟩, rfl, rfl⟩
    · exact ⟨.fld [98] [120], rfl, ⟨by simp, by simp⟩, rfl, rfl⟩
    · exact ⟨.fld [99] [120], rfl, ⟨by simp, by simp⟩, rfl, rfl⟩

/-- What a pick comes to. -/
theorem pick_range (l0 : List Int) (a : Nat) : ∃ x : Int, 0 ≤ x ∧ x ≤ 65535 ∧ (∀ (k : Nat) (d : Int), lamplighterref11_Number.f (k + 1) l0 (a : Int) d = lamplighterref11_Number.j0 k l0 (a : Int) d x) ∧ (∀ (k : Nat) (d : Int), lamplighterref11_Truth.f (k + 1) l0 (a : Int) d = lamplighterref11_Truth.j0 k l0 (a : Int) d x) := by
  by_cases h : (a : Int) < (l0.length : Int)
  · have hb : 0 ≤ Go.bits .and .i64 (rd l0 (a : Int)) 65535 ∧ Go.bits .and .i64 (rd l0 (a : Int)) 65535 ≤ 65535 := bits_and (rd l0 (a : Int)) 65535 (by omega)
    refine ⟨_, hb.1, hb.2, fun k d => ?_, fun k d => ?_⟩
    · rw [lamplighterref11_Number.f, if_pos h, if_pos (by omega)]
    · rw [lamplighterref11_Truth.f, if_pos h, if_pos (by omega)]
  · refine ⟨0, by omega, by omega, fun k d => ?_, fun k d => ?_⟩
    · rw [lamplighterref11_Number.f, if_neg h]
    · rw [lamplighterref11_Truth.f, if_neg h]

theorem number_eq (l0 : List Int) : ∀ (d : Nat), d ≤ 10 → ∀ (a k : Nat), 3 * d + 4 ≤ k → a + 3 ^ d ≤ 1000000 →
    ∃ (e : Ex) (n : Nat), lamplighterref11_Number.f k l0 (a : Int) (d : Int) = some (e.nodes, (n : Int)) ∧ e.wf ∧ e.ht ≤ d + 1 ∧ n ≤ a + 3 ^ d ∧ e.nodes.length ≤ 3 ^ d := by
  intro d
  induction d with
  | zero =>
    intro _ a k hk ha
    obtain ⟨k, rfl⟩ : ∃ j, k = j + 3 := ⟨k - 3, by omega⟩
    obtain ⟨x, x0, x1, hx, -⟩ := pick_range l0 a
    have hw : wrap64 ((a : Int) + 1) = ((a + 1 : Nat) : Int) := by rw [w64 _ (by omega) (by omega)]; rfl
    obtain ⟨e, he, h1, h2, h3⟩ := number_leaf k l0 ((a + 1 : Nat) : Int) 0 x x0 x1
    refine ⟨e, a + 1, ?_, h1, by omega, by simp, by simp [h3]⟩
    rw [hx, lamplighterref11_Number.j0, if_pos (by rfl), hw]
    exact he
  | succ d ih =>
    intro hd a k hk ha
    have hp : 0 < 3 ^ d := Nat.pos_of_ne_zero (by simp)
    rw [Nat.pow_succ] at ha ⊢
    obtain ⟨k, rfl⟩ : ∃ j, k = j + 3 := ⟨k - 3, by omega⟩
    obtain ⟨x, x0, x1, hx, -⟩ := pick_range l0 a
    have hw : wrap64 ((a : Int) + 1) = ((a + 1 : Nat) : Int) := by rw [w64 _ (by omega) (by omega)]; rfl
    have hw2 : wrap64 (((d + 1 : Nat) : Int) - 1) = ((d : Nat) : Int) := by rw [w64 _ (by omega) (by omega)]; omega
    rw [hx, lamplighterref11_Number.j0, if_neg (by omega), hw]
    by_cases hl : Int.tmod x 6 < 2
    · rw [decide_eq_true hl]
      obtain ⟨e, he, h1, h2, h3⟩ := number_leaf k l0 ((a + 1 : Nat) : Int) ((d + 1 : Nat) : Int) x x0 x1
      exact ⟨e, a + 1, he, h1, by omega, by omega, by omega⟩
    · rw [decide_eq_false hl, lamplighterref11_Number.j1, if_neg (by decide), hw2]
      obtain ⟨e, n, he, w1, w2, w3, w4⟩ := ih (by omega) (a + 1) k (by omega) (by omega)
      rw [he, Option.bind_some]
      by_cases h5 : Int.tmod x 6 = 5
      · rw [if_pos h5, if_pos (by simp only; omega)]
        exact ⟨.neg e, n, rfl, w1, by simp only [Ex.ht]; omega, by omega, by simp only [Ex.nodes, List.length_append, List.length_cons, List.length_nil]; omega⟩
      · rw [if_neg h5]
        obtain ⟨e2, n2, he2, v1, v2, v3, v4⟩ := ih (by omega) n k (by omega) (by omega)
        rw [he2, Option.bind_some, if_pos (by simp only; omega), Option.bind_some, if_pos (by simp only [List.length_append]; omega)]
        obtain ⟨t1, t2⟩ := three (fun _ => ⟨#[]⟩) (x / 16) (by omega)
        have hw3 : wrap64 (4 + Int.tmod (x / 16) 3) = 4 + Int.tmod (x / 16) 3 := w64 _ (by omega) (by omega)
        rw [hw3]
        have hm := Nat.max_le.mpr ⟨w2, v2⟩
        exact ⟨.bin (4 + Int.tmod (x / 16) 3) e e2, n2, rfl, ⟨by omega, by omega, by omega, w1, v1⟩, by simp only [Ex.ht]; omega, by omega, by simp only [Ex.nodes, List.length_append, List.length_cons, List.length_nil]; omega⟩

theorem six (x : Int) (h : 0 ≤ x) : 0 ≤ Int.tmod x 6 ∧ Int.tmod x 6 < 6 := by
  rw [Int.tmod_eq_emod_of_nonneg h]; omega

theorem truth_eq (l0 : List Int) : ∀ (d : Nat), d ≤ 8 → ∀ (a k : Nat), 3 * d + 20 ≤ k → a + 19 * 3 ^ d ≤ 1000000 →
    ∃ (e : Ex) (n : Nat), lamplighterref11_Truth.f k l0 (a : Int) (d : Int) = some (e.nodes, (n : Int)) ∧ e.wf ∧ e.ht ≤ d + 5 ∧ n ≤ a + 19 * 3 ^ d ∧ e.nodes.length ≤ 19 * 3 ^ d := by
  have leaf : ∀ (d : Nat), d ≤ 8 → ∀ (a k : Nat) (x : Int), 0 ≤ x → x ≤ 65535 → 15 ≤ k → a + 18 ≤ 1000000 → ∃ (e : Ex) (n : Nat), lamplighterref11_Truth.j1 (k + 1) l0 (a : Int) (d : Int) x true = some (e.nodes, (n : Int)) ∧ e.wf ∧ e.ht ≤ 5 ∧ n ≤ a + 18 ∧ e.nodes.length ≤ 19 := by
    intro d hd a k x x0 x1 hk ha
    have hm : ∃ m : Nat, mn (d : Int) 2 = (m : Int) ∧ m ≤ 2 := by
      unfold mn; split
      · exact ⟨2, rfl, by omega⟩
      · exact ⟨d, rfl, by omega⟩
    obtain ⟨m, hm, hm2⟩ := hm
    have h3 : 3 ^ m ≤ 9 := Nat.le_trans (Nat.pow_le_pow_right (by omega) hm2) (by decide)
    obtain ⟨e, n, he, w1, w2, w3, w4⟩ := number_eq l0 m (by omega) a k (by omega) (by omega)
    obtain ⟨e2, n2, he2, v1, v2, v3, v4⟩ := number_eq l0 m (by omega) n k (by omega) (by omega)
    rw [lamplighterref11_Truth.j1, if_pos rfl, hm, he, Option.bind_some]
    simp only
    rw [he2, Option.bind_some, if_pos (by simp only; omega), Option.bind_some, if_pos (by simp only [List.length_append]; omega)]
    obtain ⟨t1, t2⟩ := six (x / 16) (by omega)
    have hw3 : wrap64 (7 + Int.tmod (x / 16) 6) = 7 + Int.tmod (x / 16) 6 := w64 _ (by omega) (by omega)
    rw [hw3]
    exact ⟨.bin (7 + Int.tmod (x / 16) 6) e e2, n2, rfl, ⟨by omega, by omega, by omega, w1, v1⟩, by simp only [Ex.ht]; omega, by omega, by simp only [Ex.nodes, List.length_append, List.length_cons, List.length_nil]; omega⟩
  have head : ∀ (d : Nat), d ≤ 8 → ∀ (a k : Nat) (x : Int), 0 ≤ x → x ≤ 65535 → a ≤ 1000000 → (Int.tmod x 7 = 6 ∨ Int.tmod x 7 = 5) → ∃ (e : Ex), lamplighterref11_Truth.j0 (k + 1) l0 (a : Int) (d : Int) x = some (e.nodes, ((a + 1 : Nat) : Int)) ∧ e.wf ∧ e.ht ≤ 2 ∧ e.nodes.length ≤ 3 := by
    intro d hd a k x x0 x1 ha h
    have hw : wrap64 ((a : Int) + 1) = ((a + 1 : Nat) : Int) := by rw [w64 _ (by omega) (by omega)]; rfl
    rw [lamplighterref11_Truth.j0, hw]
    by_cases h6 : Int.tmod x 7 = 6
    · rw [if_pos h6]
      exact ⟨.tru (decide (Go.bits .and .i64 (x / 16) 1 > 0)), rfl, trivial, by simp [Ex.ht], by simp [Ex.nodes]⟩
    · rw [if_neg h6, if_pos (by omega)]
      obtain ⟨t1, t2⟩ := three (fun _ => ⟨#[]⟩) (x / 16) (by omega)
      obtain ⟨s1, s2⟩ := three (fun _ => ⟨#[]⟩) (x / 64) (by omega)
      obtain ⟨u1, u2⟩ := six (x / 256) (by omega)
      have hw3 : wrap64 (7 + Int.tmod (x / 256) 6) = 7 + Int.tmod (x / 256) 6 := w64 _ (by omega) (by omega)
      simp only [Option.bind_some]
      rw [if_pos t1, if_pos (by simpa using t2), if_pos s1, if_pos (by simpa using s2), hw3]
      have hv : ∃ v : Bs, (v = [97] ∨ v = [98] ∨ v = [99]) ∧ rdOf ByteArray.empty [⟨#[97]⟩, ⟨#[98]⟩, ⟨#[99]⟩] (Int.tmod (x / 16) 3) = ofL v := by
        rcases pick3 ⟨#[97]⟩ ⟨#[98]⟩ ⟨#[99]⟩ _ t1 t2 with h | h | h
        · exact ⟨[97], by simp, h⟩
        · exact ⟨[98], by simp, h⟩
        · exact ⟨[99], by simp, h⟩
      have hs : ∃ v : Bs, (v = [117] ∨ v = [118] ∨ v = [105, 116, 39, 115]) ∧ rdOf ByteArray.empty [⟨#[117]⟩, ⟨#[118]⟩, ⟨#[105, 116, 39, 115]⟩] (Int.tmod (x / 64) 3) = ofL v := by
        rcases pick3 ⟨#[117]⟩ ⟨#[118]⟩ ⟨#[105, 116, 39, 115]⟩ _ s1 s2 with h | h | h
        · exact ⟨[117], by simp, h⟩
        · exact ⟨[118], by simp, h⟩
        · exact ⟨[105, 116, 39, 115], by simp, h⟩
      obtain ⟨v, hv1, hv2⟩ := hv
      obtain ⟨s, hs1, hs2⟩ := hs
      rw [hv2, hs2]
      exact ⟨.bin (7 + Int.tmod (x / 256) 6) (.fld v [115]) (.str s), rfl, ⟨by omega, by omega, by omega, ⟨hv1, by simp⟩, hs1⟩, by simp [Ex.ht], by simp [Ex.nodes]⟩
  intro d
  induction d with
  | zero =>
    intro hd a k hk ha
    obtain ⟨k, rfl⟩ : ∃ j, k = j + 3 := ⟨k - 3, by omega⟩
    obtain ⟨x, x0, x1, -, hx⟩ := pick_range l0 a
    have hw : wrap64 ((a : Int) + 1) = ((a + 1 : Nat) : Int) := by rw [w64 _ (by omega) (by omega)]; rfl
    rw [hx]
    by_cases h : Int.tmod x 7 = 6 ∨ Int.tmod x 7 = 5
    · obtain ⟨e, he, h1, h2, h3⟩ := head 0 hd a (k + 1) x x0 x1 (by omega) h
      exact ⟨e, a + 1, he, h1, by omega, by omega, by omega⟩
    · obtain ⟨e, n, he, h1, h2, h3, h4⟩ := leaf 0 hd (a + 1) k x x0 x1 (by omega) (by omega)
      refine ⟨e, n, ?_, h1, by omega, by omega, by omega⟩
      rw [lamplighterref11_Truth.j0, if_neg (by omega), if_neg (by omega), if_pos (by rfl), hw]
      exact he
  | succ d ih =>
    intro hd a k hk ha
    have hp : 0 < 3 ^ d := Nat.pos_of_ne_zero (by simp)
    rw [Nat.pow_succ] at ha ⊢
    obtain ⟨k, rfl⟩ : ∃ j, k = j + 3 := ⟨k - 3, by omega⟩
    obtain ⟨x, x0, x1, -, hx⟩ := pick_range l0 a
    have hw : wrap64 ((a : Int) + 1) = ((a + 1 : Nat) : Int) := by rw [w64 _ (by omega) (by omega)]; rfl
    have hw2 : wrap64 (((d + 1 : Nat) : Int) - 1) = ((d : Nat) : Int) := by rw [w64 _ (by omega) (by omega)]; omega
    rw [hx]
    by_cases h : Int.tmod x 7 = 6 ∨ Int.tmod x 7 = 5
    · obtain ⟨e, he, h1, h2, h3⟩ := head (d + 1) hd a (k + 1) x x0 x1 (by omega) h
      exact ⟨e, a + 1, he, h1, by omega, by omega, by omega⟩
    · rw [lamplighterref11_Truth.j0, if_neg (by omega), if_neg (by omega), if_neg (by omega), hw]
      by_cases hl : Int.tmod x 7 < 2
      · rw [decide_eq_true hl]
        obtain ⟨e, n, he, h1, h2, h3, h4⟩ := leaf (d + 1) hd (a + 1) k x x0 x1 (by omega) (by omega)
        exact ⟨e, n, he, h1, by omega, by omega, by omega⟩
      · rw [decide_eq_false hl, lamplighterref11_Truth.j1, if_neg (by decide), hw2]
        obtain ⟨e, n, he, w1, w2, w3, w4⟩ := ih (by omega) (a + 1) k (by omega) (by omega)
        rw [he]
        by_cases h2 : Int.tmod x 7 = 2
        · rw [if_pos h2, Option.bind_some, if_pos (by simp only; omega)]
          exact ⟨.not e, n, rfl, w1, by simp only [Ex.ht]; omega, by omega, by simp only [Ex.nodes, List.length_append, List.length_cons, List.length_nil]; omega⟩
        · rw [if_neg h2, Option.bind_some]
          obtain ⟨e2, n2, he2, v1, v2, v3, v4⟩ := ih (by omega) n k (by omega) (by omega)
          simp only
          rw [he2, Option.bind_some, if_pos (by simp only; omega), Option.bind_some, if_pos (by simp only [List.length_append]; omega)]
          obtain ⟨t1, t2⟩ : 0 ≤ Go.bits .and .i64 (x / 16) 1 ∧ Go.bits .and .i64 (x / 16) 1 ≤ 1 := bits_and (x / 16) 1 (by omega)
          have hw3 : wrap64 (14 + Go.bits .and .i64 (x / 16) 1) = 14 + Go.bits .and .i64 (x / 16) 1 := w64 _ (by omega) (by omega)
          rw [hw3]
          exact ⟨.bin (14 + Go.bits .and .i64 (x / 16) 1) e e2, n2, rfl, ⟨by omega, by omega, by omega, w1, v1⟩, by simp only [Ex.ht]; omega, by omega, by simp only [Ex.nodes, List.length_append, List.length_cons, List.length_nil]; omega⟩

theorem same_l0 (l : List S53) (hl : l.length ≤ 1000) : ∀ (k i : Nat), l.length < k + i → i ≤ l.length → lamplighterref11_Same.l0 k l l (i : Int) = some true := by
  intro k
  induction k with
  | zero => intro i h h2; omega
  | succ k ih =>
    intro i h h2
    rw [lamplighterref11_Same.l0]
    by_cases hi : i < l.length
    · rw [if_pos (by omega), if_pos (by omega), if_pos (by omega), if_neg (by simp)]
      have hw : wrap64 ((i : Int) + 1) = ((i + 1 : Nat) : Int) := by rw [w64 _ (by omega) (by omega)]; rfl
      rw [hw]
      exact ih (i + 1) (by omega) (by omega)
    · rw [if_neg (by omega)]

theorem same_eq (l : List S53) (hl : l.length ≤ 1000) (k : Nat) (hk : 1001 ≤ k) : lamplighterref11_Same.f k l l = some true := by
  unfold lamplighterref11_Same.f
  rw [if_pos rfl]
  exact same_l0 l hl k 0 (by omega) (by omega)

theorem awake_eq : lamplighterlaw15_awake.f = some true := by decide +kernel

theorem back_pure : lamplighterlaw15_PpredBack.Pure := by
  intro l0 _ _ _
  refine ⟨2001, ?_⟩
  obtain ⟨e, n, he, w1, w2, w3, w4⟩ := truth_eq l0 3 (by omega) 0 2001 (by omega) (by omega)
  obtain ⟨e2, n2, he2, v1, v2, v3, v4⟩ := number_eq l0 4 (by omega) 0 2001 (by omega) (by omega)
  have he' : lamplighterref11_Truth.f 2001 l0 0 3 = some (e.nodes, (n : Int)) := he
  have he2' : lamplighterref11_Number.f 2001 l0 0 4 = some (e2.nodes, (n2 : Int)) := he2
  unfold lamplighterlaw15_PpredBack.f
  rw [he', Option.bind_some, he2', Option.bind_some]
  have big : ∀ b, b = true → lamplighterlaw15_PpredBack.j0 2001 e.nodes e2.nodes b = some true := by
    rintro b rfl
    rw [lamplighterlaw15_PpredBack.j0, if_pos rfl, awake_eq]; rfl
  by_cases h : (e.nodes.length : Int) > 60
  · rw [if_pos h]; exact big _ rfl
  · rw [if_neg h]
    by_cases h2 : (e2.nodes.length : Int) > 60
    · rw [decide_eq_true h2]; exact big _ rfl
    · rw [decide_eq_false h2, lamplighterlaw15_PpredBack.j0, if_neg (by decide)]
      rw [show_eq e w1 (by omega) 2000 (by omega), Option.bind_some, parse_eq e w1 (by omega) (by omega), Option.bind_some, show_eq e2 v1 (by omega) 2000 (by omega), Option.bind_some, parse_eq e2 v1 (by omega) (by omega), Option.bind_some, awake_eq, Option.bind_some, if_pos rfl, if_pos rfl,
        same_eq e.nodes (by omega) 2000 (by omega), Option.bind_some, if_pos rfl, if_pos rfl, same_eq e2.nodes (by omega) 2000 (by omega)]
      rfl

end Go.Proofs.YtpijgeijflbmhaaDoor.P

-- PRINTED WORDS (module Derived/Print/Sized.lean): go-gate-2's, for the rows of laws over slices: an AI agent of Go's test side, Tue Nov 17 2026; no person has read it. Lean checks it.
namespace Go.Proofs.YtpijgeijflbmhaaDoorW.PrintWords
open Go.ChangeShapes Go.WideShapes
/-- A row's slice of whole numbers is no longer than its weight allows. -/
theorem sized_ints {H : Type} {enc : TypeId × Value → H} {P : Program} {W : World} {base : Nat} {spare : Nat → Bool} {held : Bool} {t e : TypeId} {k : IntKind} {a : Option Addr} {len cap : Nat} {d : DataW H} {ps : List MemPlace} {ts : List TypeId} {ds : List (DataW H)} {j : Nat}
    (hsz : (DataW.weightsEach P ts ds).all (· ≤ reachBytes) = true) (ht : ts[j]? = some t) (hd : ds[j]? = some d) (hu : P.underlying t = some (.slice e)) (he : P.underlying e = some (.int k)) (hc : P.cellsOf e = 1) {B : Nat} (hB : P.bytesOf e = B)
    (h : DataW.Trod enc P W base spare held t (.slice a len cap) d ps) : len * B ≤ 140737488351232 := by
  obtain ⟨fuel, hf⟩ := h
  rcases open_ints hu he hc hf with ⟨hcs, _⟩ | ⟨x, l, c, zs, hcs, _, hl, _, hz, hx, _, _⟩
  · simp [Value.cells] at hcs
    obtain ⟨rfl, rfl, rfl⟩ := hcs
    simp
  · simp [Value.cells] at hcs
    obtain ⟨rfl, rfl, rfl⟩ := hcs
    obtain ⟨hx, _⟩ := Prod.mk.inj hx
    subst hx
    have z := sized_slice hsz ht hd hu
    rw [hB] at z
    have hl2 : len ≤ zs.length := by
      rw [hz]
      split
      · exact hl
      · exact Nat.le_refl _
    have h1 : (lits (H := H) k (zs.take len)).length + (lits (H := H) k (zs.drop len)).length = zs.length := by
      simp [lits]
      omega
    rw [h1] at z
    exact Nat.le_trans (Nat.mul_le_mul_right _ hl2) z
end Go.Proofs.YtpijgeijflbmhaaDoorW.PrintWords

/- PpredBack: the row, and its tied card. -/
namespace Go.Proofs.YtpijgeijflbmhaaDoor.Back
open Go.ChangeShapes Go.WideShapes Go.ChangeAt Go.RowKit
set_option linter.unusedVariables false

theorem own : ownKnob Tryd.prog.godebug = none := by kernel_rfl
theorem laidOut : laidOutB Tryd.prog = true := by kernel_rfl

def IsRow (k : IntKind) (w : World) (a : Option Addr) (len cap : Nat) (zs : List Int) : Prop :=
  (a = none ∧ len = 0 ∧ cap = 0 ∧ zs = []) ∨
  ∃ x, a = some x ∧ len ≤ cap ∧ cap ≤ maxLen ∧ zs.length = cap ∧ (∀ i, i < zs.length → w.cell? (x.add i) = some (.int k (zs.getD i 0))) ∧ ∀ n ∈ zs, (Lit.int k n).wf = true

set_option maxRecDepth 100000 in
theorem lifted (os : Os) (started : os.Started) (H : Type) (enc : TypeId × Value → H) :
    ReturnsInHanded {} Tryd.checked os 3 .any (fun w args => (Rows.ppredBackSpec.pre enc Tryd.prog Tryd.f3 Rows.ppredBackRow.domain false w args ∧ laidMetH Tryd.prog P.laidL w) ∧ sizedMet enc Tryd.prog Tryd.f3 (OpenSpec.ofChange Rows.ppredBackSpec) false w args)
      (Rows.ppredBackSpec.post enc Tryd.prog Tryd.f3 false true false false) := by
  refine P.of_change_laid (C := Tryd.checked) (X := fun w _ => laidMetH Tryd.prog P.laidL w) (fun _ _ _ hh h => h.of_heap hh) own started (by kernel_rfl) Tryd.func3
    (ChangeSpec.witness_shaped (enc := enc) (C := Tryd.checked) (os := os) (X := fun w _ => laidMetH Tryd.prog P.laidL w) false (World.laidAll Tryd.prog os P.laidL) #[.slice none 0 0] 8 (World.laidAll_os _ _ _)
      (World.shaped_of_ZipB (by kernel_rfl) (by kernel_rfl)) (by kernel_rfl) (by kernel_rfl) (by kernel_rfl)
      (by rw [MakeChecks.laidMetH_plain _ _ _ (by kernel_rfl)]; exact laidMet_laidAll _ (by kernel_rfl) (by kernel_rfl))) ?_
  intro W base args ds gs before hval0 hW hcnd hsz0 hL hS _
  have hG := P.glob_of hL hS
  have hsz : (DataW.weightsEach Tryd.prog (Tryd.f3.params.toList ++ Rows.ppredBackSpec.plain.varTypes Tryd.prog) (ds ++ gs)).all (· ≤ reachBytes) = true := hsz0
  have hval : ∀ (j : Nat) t v, Tryd.f3.params[j]? = some t → args[j]? = some v → Value.okWide Tryd.prog W .any base t v := hval0
  have hW' := hW
  obtain ⟨p, q, hA0, hV, rfl, hfz, hnd⟩ := hW
  have hA : DataW.TrodAll enc Tryd.prog W 0 (fun _ => true) true Tryd.f3.params.toList args.toList ds p := hA0
  rw [Tryd.params3] at hA hval hsz
  obtain ⟨v0, vs0, d0, ds0, p0, q0, hargs, rfl, rfl, h0, r0⟩ := trodAll_cons hA
  obtain ⟨rfl, rfl, rfl⟩ := trodAll_nil r0
  obtain rfl : args = #[v0] := by cases args; simp_all
  obtain ⟨rfl, rfl⟩ := trodVars_none hV
  obtain ⟨a0, len0, cap0, rfl⟩ := okWide_slice Tryd.underlying22 (hval 0 22 v0 rfl rfl)
  have k0 := h0
  have lt0 : ∀ x ∈ p0, x.block < W.heap.size := by obtain ⟨m, hm⟩ := k0; exact DataW.trod_lt m _ _ _ hm
  obtain ⟨z0, w0⟩ : ∃ zs, IsRow .i64 W a0 len0 cap0 zs := by
    obtain ⟨fuel, hf⟩ := h0
    rcases open_ints Tryd.underlying22 Tryd.underlying3 (by kernel_rfl) hf with ⟨hcs, _⟩ | ⟨x, l, c, zs, hcs, _, hl, hm, hz, _, hcell, hwz⟩
    · simp [Value.cells] at hcs
      obtain ⟨rfl, rfl, rfl⟩ := hcs
      exact ⟨[], .inl ⟨rfl, rfl, rfl, rfl⟩⟩
    · simp [Value.cells] at hcs
      obtain ⟨rfl, rfl, rfl⟩ := hcs
      exact ⟨zs, .inr ⟨_, rfl, hl, hm, by simpa using hz, hcell, hwz⟩⟩
  have y0 : len0 * 8 ≤ 140737488351232 := Go.Proofs.YtpijgeijflbmhaaDoorW.PrintWords.sized_ints hsz (j := 0) (t := 22) rfl rfl Tryd.underlying22 Tryd.underlying3 (by kernel_rfl) (by kernel_rfl) h0
  clear hA0 hval0 hsz0 hsz
  refine (P.lamplighterlaw15_PpredBack.walk P.back_pure a0 len0 cap0 z0 W w0 y0 hG).mono fun e W' ⟨he, bel⟩ => ?_
  subst he
  exact ⟨_, rfl, _, _, _, [], _, [], hW', trodAll_mk1 (shut_bool Tryd.underlying4 _), (trodAll_cons_mk (Below.trod laidOut (by kernel_rfl) (of_decide_eq_true (by kernel_rfl)) k0 bel lt0) trodAll_mk0), rfl, bel.frame _, fun h => by cases h⟩

theorem holds : Rows.PpredBackSaid :=
  OpenClaim.holds_of_wide 3 Tryd.f3 rfl rfl rfl rfl rfl rfl rfl ⟨rfl, rfl, rfl, rfl, rfl⟩ rfl rfl rfl rfl rfl (by kernel_rfl) Tryd.func3 (by kernel_rfl)
    (of_decide_eq_true (by kernel_rfl)) (by unfold Func.isWrapper; first | (rw [if_pos (by decide +kernel)]; kernel_rfl) | (rw [if_neg (by decide +kernel)]; exact ⟨rfl, rfl⟩))
    (fun os started H enc _ => lifted os started H enc)

end Go.Proofs.YtpijgeijflbmhaaDoor.Back
namespace Go.Proofs.YtpijgeijflbmhaaDoor
theorem ppredBack_card : Rows.PpredBackCardSaid :=
  Claim7.holds_tied_plain_at .later [] [.data, .widerDeep, .data, .pinned] true (true, "9e8a413c664d87c9377098e2c9af7f60accc99a0e040eec980f774eab2c6e035") true Back.holds (fun _ h => by cases h) (by kernel_rfl) (fun _ h => by cases h) ppredBack_row_tie rfl ⟨rfl, rfl⟩ (by kernel_rfl) rfl
    (fun f fn hf hfn => by
      obtain rfl : f = 3 := Option.some.inj ((show Tryd.prog.funcNamed "lamplighter/lamplighterlaw15.PpredBack" = some 3 by kernel_rfl).symm.trans hf) |>.symm
      obtain rfl : fn = Tryd.f3 := (Option.some.inj (Tryd.func3.symm.trans hfn)).symm
      exact ⟨by kernel_rfl, fun j t ht => by
        rw [Tryd.params3] at ht
        have hm : t ∈ [22] := by simpa using Array.mem_of_getElem? ht
        have hall : ([22].all fun u => !Tryd.prog.wantsStandIn u) = true := by kernel_rfl
        exact (show Tryd.prog.wantsStandIn t = false by simpa using List.all_eq_true.1 hall t hm)⟩)
    (by kernel_rfl)
#print axioms ppredBack_card
end Go.Proofs.YtpijgeijflbmhaaDoor

