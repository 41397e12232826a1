/- Go functions of the given program come to what plain Lean functions say: walks, printed by a program of this session's (after the kit's print); no conditions beyond each theorem's own. -/
import Derived.Test.YtpijgeijflbmhaaDoorF0
import Derived.Test.YtpijgeijflbmhaaDoorF2
import Derived.Test.YtpijgeijflbmhaaDoorF1
namespace Go.Proofs.YtpijgeijflbmhaaDoor.P
open Go.RowKit Go.Proofs.YtpijgeijflbmhaaDoorW.PrintWords Go.Proofs.YtpijgeijflbmhaaDoorW.PrintLast Go.Proofs.YtpijgeijflbmhaaDoorW.PrintMore
attribute [local go_sem] max2_int min2_int max_two min_two max_three min_three max_four min_four   -- for this text's walks alone
set_option linter.unusedVariables false
set_option linter.unusedSimpArgs false

/-! ### num_Parse: function 59 -/
mutual
def num_Parse.j0 : Nat → ByteArray → Bool → Option (Int × Bool)
 | 0, _, _ => none
 | k + 1, x0, x4 => if x4 = true then (if 1 ≤ (x0.size : Int) then (num_Parse.j1 k x0 x4 (x0.extract 1 x0.size)) else (none)) else (num_Parse.j1 k x0 x4 x0)
def num_Parse.j1 : Nat → ByteArray → Bool → ByteArray → Option (Int × Bool)
 | 0, _, _, _ => none
 | k + 1, x0, x4, x5 => if x5.toList = ([] : List UInt8) then (num_Parse.j2 k x0 x4 x5 true) else (num_Parse.j2 k x0 x4 x5 (decide ((x5.size : Int) > 19)))
def num_Parse.j2 : Nat → ByteArray → Bool → ByteArray → Bool → Option (Int × Bool)
 | 0, _, _, _, _ => none
 | k + 1, x0, x4, x5, x31 => if x31 = true then (some (0, false)) else (num_Parse.l0 k x0 x4 x5 0 (x5.size : Int) 0)
def num_Parse.l0 : Nat → ByteArray → Bool → ByteArray → Int → Int → Int → Option (Int × Bool)
 | 0, _, _, _, _, _, _ => none
 | k + 1, x0, x4, x5, x6, x33, x34 => if x34 < x33 then (if 0 ≤ x34 then (if x34 < (x5.size : Int) then (if (bt x5 x34) < 48 then (num_Parse.j4 k x0 x4 x5 x6 (bt x5 x34) x33 x34 true) else (num_Parse.j4 k x0 x4 x5 x6 (bt x5 x34) x33 x34 (decide ((bt x5 x34) > 57)))) else (none)) else (none)) else (if x4 = true then ((num_Digits.f k x6).bind fun t156 => (if t156.toList = x0.toList then (some (x6, true)) else (some (0, false)))) else ((num_Neg.f x6).bind fun bt157 => (if bt157.2 = true then ((num_Digits.f k bt157.1).bind fun t159 => (if t159.toList = x0.toList then (some (bt157.1, true)) else (some (0, false)))) else (some (0, false)))))
def num_Parse.j4 : Nat → ByteArray → Bool → ByteArray → Int → Int → Int → Int → Bool → Option (Int × Bool)
 | 0, _, _, _, _, _, _, _, _ => none
 | k + 1, x0, x4, x5, x6, x8, x33, x34, x45 => if x45 = true then (some (0, false)) else ((num_Mul.f k x6 10).bind fun bt152 => ((num_Sub.f bt152.1 ((x8 - 48) % 256)).bind fun bt154 => (if bt152.2 = true then (if bt154.2 = true then (num_Parse.l0 k x0 x4 x5 bt154.1 x33 (wrap64 (x34 + 1))) else (some (0, false))) else (some (0, false)))))
end
def num_Parse.f (k : Nat) (a0 : ByteArray) : Option (Int × Bool) := if a0.toList = ([] : List UInt8) then (num_Parse.j0 k a0 false) else (if 0 < (a0.size : Int) then (num_Parse.j0 k a0 ((bt a0 0) == 45)) else (none))
theorem num_Parse.mono_l : ∀ k, (∀ y0 y1, LeO (num_Parse.j0 k y0 y1) (num_Parse.j0 (k + 1) y0 y1)) ∧ (∀ y0 y1 y2, LeO (num_Parse.j1 k y0 y1 y2) (num_Parse.j1 (k + 1) y0 y1 y2)) ∧ (∀ y0 y1 y2 y3, LeO (num_Parse.j2 k y0 y1 y2 y3) (num_Parse.j2 (k + 1) y0 y1 y2 y3)) ∧ (∀ y0 y1 y2 y3 y4 y5, LeO (num_Parse.l0 k y0 y1 y2 y3 y4 y5) (num_Parse.l0 (k + 1) y0 y1 y2 y3 y4 y5)) ∧ (∀ y0 y1 y2 y3 y4 y5 y6 y7, LeO (num_Parse.j4 k y0 y1 y2 y3 y4 y5 y6 y7) (num_Parse.j4 (k + 1) y0 y1 y2 y3 y4 y5 y6 y7))
 | 0 => ⟨fun _ _ r h => by simp [num_Parse.j0] at h, fun _ _ _ r h => by simp [num_Parse.j1] at h, fun _ _ _ _ r h => by simp [num_Parse.j2] at h, fun _ _ _ _ _ _ r h => by simp [num_Parse.l0] at h, fun _ _ _ _ _ _ _ _ r h => by simp [num_Parse.j4] at h⟩
 | k + 1 => by
  obtain ⟨ih0, ih1, ih2, ih3, ih4⟩ := num_Parse.mono_l k
  refine ⟨?_, ?_, ?_, ?_, ?_⟩
  ·
   intro y0 y1
   unfold num_Parse.j0
   repeat' first
   | (with_reducible exact ih0 _ _)
   | (with_reducible exact ih1 _ _ _)
   | (with_reducible exact ih2 _ _ _ _)
   | (with_reducible exact ih3 _ _ _ _ _ _)
   | (with_reducible exact ih4 _ _ _ _ _ _ _ _)
   | (with_reducible exact num_Digits.mono _ _)
   | (with_reducible exact num_Mul.mono _ _ _)
   | (with_reducible exact LeO.refl _)
   | (with_reducible exact LeO.none _)
   | (with_reducible refine LeO.ite ?_ ?_)
   | (with_reducible refine LeO.bind ?_ (fun _ => ?_))
   | exact ih0 _ _
   | exact ih1 _ _ _
   | exact ih2 _ _ _ _
   | exact ih3 _ _ _ _ _ _
   | exact ih4 _ _ _ _ _ _ _ _
   | exact num_Digits.mono _ _
   | exact num_Mul.mono _ _ _
   | exact LeO.none _
   | refine LeO.ite ?_ ?_
   | refine LeO.bind ?_ (fun _ => ?_)
  ·
   intro y0 y1 y2
   unfold num_Parse.j1
   repeat' first
   | (with_reducible exact ih0 _ _)
   | (with_reducible exact ih1 _ _ _)
   | (with_reducible exact ih2 _ _ _ _)
   | (with_reducible exact ih3 _ _ _ _ _ _)
   | (with_reducible exact ih4 _ _ _ _ _ _ _ _)
   | (with_reducible exact num_Digits.mono _ _)
   | (with_reducible exact num_Mul.mono _ _ _)
   | (with_reducible exact LeO.refl _)
   | (with_reducible exact LeO.none _)
   | (with_reducible refine LeO.ite ?_ ?_)
   | (with_reducible refine LeO.bind ?_ (fun _ => ?_))
   | exact ih0 _ _
   | exact ih1 _ _ _
   | exact ih2 _ _ _ _
   | exact ih3 _ _ _ _ _ _
   | exact ih4 _ _ _ _ _ _ _ _
   | exact num_Digits.mono _ _
   | exact num_Mul.mono _ _ _
   | exact LeO.none _
   | refine LeO.ite ?_ ?_
   | refine LeO.bind ?_ (fun _ => ?_)
  ·
   intro y0 y1 y2 y3
   unfold num_Parse.j2
   repeat' first
   | (with_reducible exact ih0 _ _)
   | (with_reducible exact ih1 _ _ _)
   | (with_reducible exact ih2 _ _ _ _)
   | (with_reducible exact ih3 _ _ _ _ _ _)
   | (with_reducible exact ih4 _ _ _ _ _ _ _ _)
   | (with_reducible exact num_Digits.mono _ _)
   | (with_reducible exact num_Mul.mono _ _ _)
   | (with_reducible exact LeO.refl _)
   | (with_reducible exact LeO.none _)
   | (with_reducible refine LeO.ite ?_ ?_)
   | (with_reducible refine LeO.bind ?_ (fun _ => ?_))
   | exact ih0 _ _
   | exact ih1 _ _ _
   | exact ih2 _ _ _ _
   | exact ih3 _ _ _ _ _ _
   | exact ih4 _ _ _ _ _ _ _ _
   | exact num_Digits.mono _ _
   | exact num_Mul.mono _ _ _
   | exact LeO.none _
   | refine LeO.ite ?_ ?_
   | refine LeO.bind ?_ (fun _ => ?_)
  ·
   intro y0 y1 y2 y3 y4 y5
   unfold num_Parse.l0
   repeat' first
   | (with_reducible exact ih0 _ _)
   | (with_reducible exact ih1 _ _ _)
   | (with_reducible exact ih2 _ _ _ _)
   | (with_reducible exact ih3 _ _ _ _ _ _)
   | (with_reducible exact ih4 _ _ _ _ _ _ _ _)
   | (with_reducible exact num_Digits.mono _ _)
   | (with_reducible exact num_Mul.mono _ _ _)
   | (with_reducible exact LeO.refl _)
   | (with_reducible exact LeO.none _)
   | (with_reducible refine LeO.ite ?_ ?_)
   | (with_reducible refine LeO.bind ?_ (fun _ => ?_))
   | exact ih0 _ _
   | exact ih1 _ _ _
   | exact ih2 _ _ _ _
   | exact ih3 _ _ _ _ _ _
   | exact ih4 _ _ _ _ _ _ _ _
   | exact num_Digits.mono _ _
   | exact num_Mul.mono _ _ _
   | exact LeO.none _
   | refine LeO.ite ?_ ?_
   | refine LeO.bind ?_ (fun _ => ?_)
  ·
   intro y0 y1 y2 y3 y4 y5 y6 y7
   unfold num_Parse.j4
   repeat' first
   | (with_reducible exact ih0 _ _)
   | (with_reducible exact ih1 _ _ _)
   | (with_reducible exact ih2 _ _ _ _)
   | (with_reducible exact ih3 _ _ _ _ _ _)
   | (with_reducible exact ih4 _ _ _ _ _ _ _ _)
   | (with_reducible exact num_Digits.mono _ _)
   | (with_reducible exact num_Mul.mono _ _ _)
   | (with_reducible exact LeO.refl _)
   | (with_reducible exact LeO.none _)
   | (with_reducible refine LeO.ite ?_ ?_)
   | (with_reducible refine LeO.bind ?_ (fun _ => ?_))
   | exact ih0 _ _
   | exact ih1 _ _ _
   | exact ih2 _ _ _ _
   | exact ih3 _ _ _ _ _ _
   | exact ih4 _ _ _ _ _ _ _ _
   | exact num_Digits.mono _ _
   | exact num_Mul.mono _ _ _
   | exact LeO.none _
   | refine LeO.ite ?_ ?_
   | refine LeO.bind ?_ (fun _ => ?_)
theorem num_Parse.mono : ∀ a0 k, LeO (num_Parse.f k a0) (num_Parse.f (k + 1) a0) := by
 intro a0 k
 obtain ⟨ih0, ih1, ih2, ih3, ih4⟩ := num_Parse.mono_l k
 unfold num_Parse.f
 repeat' first
   | (with_reducible exact ih0 _ _)
   | (with_reducible exact ih1 _ _ _)
   | (with_reducible exact ih2 _ _ _ _)
   | (with_reducible exact ih3 _ _ _ _ _ _)
   | (with_reducible exact ih4 _ _ _ _ _ _ _ _)
   | (with_reducible exact num_Digits.mono _ _)
   | (with_reducible exact num_Mul.mono _ _ _)
   | (with_reducible exact LeO.refl _)
   | (with_reducible exact LeO.none _)
   | (with_reducible refine LeO.ite ?_ ?_)
   | (with_reducible refine LeO.bind ?_ (fun _ => ?_))
   | exact ih0 _ _
   | exact ih1 _ _ _
   | exact ih2 _ _ _ _
   | exact ih3 _ _ _ _ _ _
   | exact ih4 _ _ _ _ _ _ _ _
   | exact num_Digits.mono _ _
   | exact num_Mul.mono _ _ _
   | exact LeO.none _
   | refine LeO.ite ?_ ?_
   | refine LeO.bind ?_ (fun _ => ?_)
set_option maxHeartbeats 8000000 in
set_option maxRecDepth 100000 in
theorem num_Parse.calls (k : Nat) (a0 : ByteArray) (r1 : Int) (r2 : Bool) (w : World) (h : num_Parse.f k a0 = some (r1, r2)) :
  Calls Tryd.prog 59 #[.string a0] w fun e w' => e = .returned (.tuple #[.int .i64 r1, .bool r2]) ∧ Below w.heap.size w w' := by
 have HB := As.mk (Below.refl w.heap.size w)
 have H : (if a0.toList = ([] : List UInt8) then (num_Parse.j0 k a0 false) else (if 0 < (a0.size : Int) then (num_Parse.j0 k a0 ((bt a0 0) == 45)) else (none))) = some (r1, r2) := h
 clear h
 have HC2 := As.mk H
 clear H
 go_enter Tryd.func59, Tryd.ntmps59
 go_upto_region 1 with (fail)
 go_cut [4] (fun v4 wc => ∃ (kq : Nat) (x4_1 : Bool), v4 = .bool x4_1 ∧ As (num_Parse.j0 kq a0 x4_1 = some (r1, r2)) ∧ As (kq ≤ k) ∧ As (Below w.heap.size w wc))
 case first =>
  have H := HC2.out
  clear HC2
  by_cases c3 : a0.toList = ([] : List UInt8)
  ·
   rw [if_pos c3] at H
   have c3b0 : (a0.toList == ([] : List UInt8)) = true := beq_iff_eq.mpr c3
   have c3b1 : (a0.toList != ([] : List UInt8)) = false := bne_eq_false_iff_eq.mpr c3
   clear c3
   (first | rw [c3b0] | (simp only [i64_w, i32_w]; rw [c3b0]) | skip)
   have H' := As.mk H
   clear H
   go_wp2
   go_meet
   case rel => exact ⟨_, (false), (by first | rfl | (simp; done) | (simp [*]; done)), H', ⟨by first | omega | exact Nat.le_refl _⟩, ⟨by repeat (first | (with_reducible first | exact HB.out | apply bwA | apply bwN | apply bwD) | exact HB.out)⟩⟩
  ·
   rw [if_neg c3] at H
   have c3b0 : (a0.toList == ([] : List UInt8)) = false := beq_eq_false_iff_ne.mpr c3
   have c3b1 : (a0.toList != ([] : List UInt8)) = true := bne_iff_ne.mpr c3
   (first | rw [c3b0] | (simp only [i64_w, i32_w]; rw [c3b0]) | skip)
   replace H := ite_some H
   obtain ⟨c4, H⟩ := H
   have c4b0 : decide (0 < (a0.size : Int)) = true := decide_eq_true c4
   have c4b1 : decide (0 < a0.size) = true := decide_eq_true (by omega)
   clear c4
   have H' := As.mk H
   clear H
   have p5 : 0 ≤ (0 : Int) := (by omega)
   have q5 : 0 < a0.size := (by have : (0 : Int) < (a0.size : Int) := of_decide_eq_true (by first | (with_reducible assumption) | assumption); omega)
   have hx5 : ∀ h : 0 < a0.size, ((a0[0]'h).toNat : Int) = bt a0 0 := bt_at a0 0
   clear p5
   have qi5 : (0 < (a0.size : Int)) = True := eq_true (of_decide_eq_true (by first | (with_reducible assumption) | assumption))
   replace q5 := eq_true q5
   go_wp2
   go_meet
   case rel => exact ⟨_, (((bt a0 0) == 45)), (by first | rfl | (simp; done) | (simp [*]; done)), H', ⟨by first | omega | exact Nat.le_refl _⟩, ⟨by repeat (first | (with_reducible first | exact HB.out | apply bwA | apply bwN | apply bwD) | exact HB.out)⟩⟩
 case rest =>
  clear HC2
  try clear p2
  try clear c3
  try clear c3b0
  try clear c3b1
  try clear c4
  try clear c4b0
  try clear c4b1
  try clear c5
  try clear p5
  try clear q5
  try clear hx5
  try clear qi5
  try clear p5
  try clear q5
  obtain ⟨kq, x4_1, rfl, HA, HJ1, HB⟩ := hcut
  cases kq with
  | zero => exact absurd HA.out (by simp [num_Parse.j0])
  | succ kj1 =>
   have H := HA.out
   clear HA
   simp only [num_Parse.j0] at H
   have HC6 := As.mk H
   clear H
   go_upto_if 22 with (fail)
   go_cut [5] (fun v5 wc => ∃ (kq : Nat) (x5_5 : ByteArray), v5 = .string x5_5 ∧ As (num_Parse.j1 kq a0 x4_1 x5_5 = some (r1, r2)) ∧ As (kq ≤ kj1) ∧ As (Below w.heap.size w wc))
   case first =>
    have H := HC6.out
    clear HC6
    by_cases c7 : x4_1 = true
    ·
     subst c7
     have H1 : (if 1 ≤ (a0.size : Int) then (num_Parse.j1 kj1 a0 true (a0.extract 1 a0.size)) else (none)) = some (r1, r2) := by rw [if_pos rfl] at H; exact H
     clear H
     have H := H1
     clear H1
     replace H := ite_some H
     obtain ⟨c8, H⟩ := H
     have c8b0 := eq_true c8
     have c8b1 : decide (1 ≤ (a0.size : Int)) = true := decide_eq_true c8
     clear c8
     have H' := As.mk H
     clear H
     go_wp2
     go_meet
     case rel => exact ⟨_, (a0.extract 1 a0.size), (by first | rfl | (simp; done) | (simp [*]; done)), H', ⟨by have := HJ1.out; first | omega | exact Nat.le_refl _⟩, ⟨by repeat (first | (with_reducible first | exact HB.out | apply bwA | apply bwN | apply bwD) | exact HB.out)⟩⟩
    ·
     replace c7 := Bool.eq_false_iff.mpr c7
     subst c7
     have H1 : (num_Parse.j1 kj1 a0 false a0) = some (r1, r2) := by rw [if_neg (show ¬ (false = true) by decide)] at H; exact H
     clear H
     have H := H1
     clear H1
     have H' := As.mk H
     clear H
     go_wp2
     go_meet
     case rel => exact ⟨_, (a0), (by first | rfl | (simp; done) | (simp [*]; done)), H', ⟨by have := HJ1.out; first | omega | exact Nat.le_refl _⟩, ⟨by repeat (first | (with_reducible first | exact HB.out | apply bwA | apply bwN | apply bwD) | exact HB.out)⟩⟩
   case rest =>
    clear HC6
    try clear p2
    try clear c3
    try clear c3b0
    try clear c3b1
    try clear c4
    try clear c4b0
    try clear c4b1
    try clear c5
    try clear p5
    try clear q5
    try clear hx5
    try clear qi5
    try clear c7
    try clear c8
    try clear c8b0
    try clear c8b1
    try clear p2
    try clear p5
    try clear q5
    obtain ⟨kq, x5_5, rfl, HA, HJ5, HB⟩ := hcut
    cases kq with
    | zero => exact absurd HA.out (by simp [num_Parse.j1])
    | succ kj5 =>
     have H := HA.out
     clear HA
     simp only [num_Parse.j1] at H
     have HC9 := As.mk H
     clear H
     go_upto_region 5 with (fail)
     go_cut [31] (fun v31 wc => ∃ (kq : Nat) (x31_8 : Bool), v31 = .bool x31_8 ∧ As (num_Parse.j2 kq a0 x4_1 x5_5 x31_8 = some (r1, r2)) ∧ As (kq ≤ kj5) ∧ As (Below w.heap.size w wc))
     case first =>
      have H := HC9.out
      clear HC9
      by_cases c10 : x5_5.toList = ([] : List UInt8)
      ·
       rw [if_pos c10] at H
       have c10b0 : (x5_5.toList == ([] : List UInt8)) = true := beq_iff_eq.mpr c10
       have c10b1 : (x5_5.toList != ([] : List UInt8)) = false := bne_eq_false_iff_eq.mpr c10
       clear c10
       (first | rw [c10b0] | (simp only [i64_w, i32_w]; rw [c10b0]) | skip)
       have H' := As.mk H
       clear H
       go_wp2
       go_meet
       case rel => exact ⟨_, (true), (by first | rfl | (simp; done) | (simp [*]; done)), H', ⟨by have := HJ1.out; have := HJ5.out; first | omega | exact Nat.le_refl _⟩, ⟨by repeat (first | (with_reducible first | exact HB.out | apply bwA | apply bwN | apply bwD) | exact HB.out)⟩⟩
      ·
       rw [if_neg c10] at H
       have c10b0 : (x5_5.toList == ([] : List UInt8)) = false := beq_eq_false_iff_ne.mpr c10
       have c10b1 : (x5_5.toList != ([] : List UInt8)) = true := bne_iff_ne.mpr c10
       (first | rw [c10b0] | (simp only [i64_w, i32_w]; rw [c10b0]) | skip)
       have H' := As.mk H
       clear H
       go_wp2
       go_meet
       case rel => exact ⟨_, (decide ((x5_5.size : Int) > 19)), (by first | rfl | (simp; done) | (simp [*]; done)), H', ⟨by have := HJ1.out; have := HJ5.out; first | omega | exact Nat.le_refl _⟩, ⟨by repeat (first | (with_reducible first | exact HB.out | apply bwA | apply bwN | apply bwD) | exact HB.out)⟩⟩
     case rest =>
      clear HC9
      try clear c1
      try clear p2
      try clear c3
      try clear c3b0
      try clear c3b1
      try clear c4
      try clear c4b0
      try clear c4b1
      try clear c5
      try clear p5
      try clear q5
      try clear hx5
      try clear qi5
      try clear c7
      try clear c8
      try clear c8b0
      try clear c8b1
      try clear c10
      try clear c10b0
      try clear c10b1
      try clear p2
      try clear p5
      try clear q5
      obtain ⟨kq, x31_8, rfl, HA, HJ8, HB⟩ := hcut
      cases kq with
      | zero => exact absurd HA.out (by simp [num_Parse.j2])
      | succ kj8 =>
       have H := HA.out
       clear HA
       simp only [num_Parse.j2] at H
       by_cases c11 : x31_8 = true
       ·
        subst c11
        have H1 : (some (0, false)) = some (r1, r2) := by rw [if_pos rfl] at H; exact H
        clear H
        have H := H1
        clear H1
        simp only [Option.some.injEq, Prod.mk.injEq] at H
        obtain ⟨rfl, rfl⟩ := H
        go_wp2
        go_ret2
        exact ⟨by first | rfl | (simp [errW_none, errW_some] <;> rfl) | (simp [*, errW_none, errW_some] <;> rfl), by repeat (first | (with_reducible first | exact HB.out | apply bwA | apply bwN | apply bwD) | exact HB.out)⟩
       ·
        replace c11 := Bool.eq_false_iff.mpr c11
        subst c11
        have H1 : (num_Parse.l0 kj8 a0 x4_1 x5_5 0 (x5_5.size : Int) 0) = some (r1, r2) := by rw [if_neg (show ¬ (false = true) by decide)] at H; exact H
        clear H
        have H := H1
        clear H1
        have H' := As.mk H
        clear H
        go_wp2
        go_loopg [6, 34] kj8 (fun kq v6 v34 w' => ∃ (x6_4 : Int) (x34_4 : Int), v6 = .int .i64 x6_4 ∧ v34 = .int .i64 x34_4 ∧ As (num_Parse.l0 kq a0 x4_1 x5_5 x6_4 (x5_5.size : Int) x34_4 = some (r1, r2)) ∧ As (kq ≤ kj8) ∧ As (Below w.heap.size w w'))
        case atStart => exact ⟨(0), (0), (by first | rfl | (simp; done) | (simp [*]; done)), (by first | rfl | (simp; done) | (simp [*]; done)), H', ⟨Nat.le_refl _⟩, ⟨by repeat (first | (with_reducible first | exact HB.out | apply bwA | apply bwN | apply bwD) | exact HB.out)⟩⟩
        case round =>
         clear H'
         try clear c1
         try clear p2
         try clear c3
         try clear c3b0
         try clear c3b1
         try clear c4
         try clear c4b0
         try clear c4b1
         try clear c5
         try clear p5
         try clear q5
         try clear hx5
         try clear qi5
         try clear c7
         try clear c8
         try clear c8b0
         try clear c8b1
         try clear c10
         try clear c10b0
         try clear c10b1
         try clear c11
         try clear p2
         try clear p5
         try clear q5
         obtain ⟨x6_4, x34_4, rfl, rfl, HA, HK4, HB⟩ := hrel
         cases gk with
         | zero => exact absurd HA.out (by simp [num_Parse.l0])
         | succ k4 =>
          have H := HA.out
          clear HA
          simp only [num_Parse.l0] at H
          by_cases c12 : x34_4 < (x5_5.size : Int)
          ·
           rw [if_pos c12] at H
           have c12b0 : decide (x34_4 < (x5_5.size : Int)) = true := decide_eq_true c12
           clear c12
           replace H := ite_some H
           obtain ⟨c13, H⟩ := H
           have c13b0 : decide (0 ≤ x34_4) = true := decide_eq_true c13
           clear c13
           replace H := ite_some H
           obtain ⟨c14, H⟩ := H
           have c14b0 : decide (x34_4 < (x5_5.size : Int)) = true := decide_eq_true c14
           clear c14
           have HC16 := As.mk H
           clear H
           have p15 : 0 ≤ (x34_4 : Int) := of_decide_eq_true (by first | (with_reducible assumption) | assumption)
           have q15 : x34_4 < (x5_5.size : Int) := of_decide_eq_true (by first | (with_reducible assumption) | assumption)
           have hx15 := bt_at x5_5 x34_4
           replace p15 := eq_true p15
           replace q15 := eq_true q15
           go_upto_region 12 with (fail)
           go_cut [45] (fun v45 wc => ∃ (kq : Nat) (x45_15 : Bool), v45 = .bool x45_15 ∧ As (num_Parse.j4 kq a0 x4_1 x5_5 x6_4 (bt x5_5 x34_4) (x5_5.size : Int) x34_4 x45_15 = some (r1, r2)) ∧ As (kq ≤ k4) ∧ As (Below w.heap.size w wc))
           case first =>
            have H := HC16.out
            clear HC16
            by_cases c17 : (bt x5_5 x34_4) < 48
            ·
             rw [if_pos c17] at H
             have c17b0 : decide ((bt x5_5 x34_4) < 48) = true := decide_eq_true c17
             clear c17
             (first | rw [c17b0] | (simp only [i64_w, i32_w]; rw [c17b0]) | skip)
             have H' := As.mk H
             clear H
             go_wp2
             go_meet
             case rel => exact ⟨_, (true), (by first | rfl | (simp; done) | (simp [*]; done)), H', ⟨by have := HJ1.out; have := HJ5.out; have := HJ8.out; have := HK4.out; first | omega | exact Nat.le_refl _⟩, ⟨by repeat (first | (with_reducible first | exact HB.out | apply bwA | apply bwN | apply bwD) | exact HB.out)⟩⟩
            ·
             rw [if_neg c17] at H
             have c17b0 : decide ((bt x5_5 x34_4) < 48) = false := decide_eq_false c17
             clear c17
             (first | rw [c17b0] | (simp only [i64_w, i32_w]; rw [c17b0]) | skip)
             have H' := As.mk H
             clear H
             go_wp2
             go_meet
             case rel => exact ⟨_, (decide ((bt x5_5 x34_4) > 57)), (by first | rfl | (simp; done) | (simp [*]; done)), H', ⟨by have := HJ1.out; have := HJ5.out; have := HJ8.out; have := HK4.out; first | omega | exact Nat.le_refl _⟩, ⟨by repeat (first | (with_reducible first | exact HB.out | apply bwA | apply bwN | apply bwD) | exact HB.out)⟩⟩
           case rest =>
            clear HC16
            try clear c1
            try clear p1
            try clear q1
            try clear hx1
            try clear p2
            try clear c3
            try clear c3b0
            try clear c3b1
            try clear c4
            try clear c4b0
            try clear c4b1
            try clear c5
            try clear p5
            try clear q5
            try clear hx5
            try clear qi5
            try clear c7
            try clear c8
            try clear c8b0
            try clear c8b1
            try clear c10
            try clear c10b0
            try clear c10b1
            try clear c11
            try clear c12
            try clear c12b0
            try clear c13
            try clear c13b0
            try clear c14
            try clear c14b0
            try clear p15
            try clear q15
            try clear hx15
            try clear c17
            try clear c17b0
            try clear p15
            try clear p2
            try clear p5
            try clear q15
            try clear q5
            obtain ⟨kq, x45_15, rfl, HA, HJ15, HB⟩ := hcut
            cases kq with
            | zero => exact absurd HA.out (by simp [num_Parse.j4])
            | succ kj15 =>
             have H := HA.out
             clear HA
             simp only [num_Parse.j4] at H
             by_cases c18 : x45_15 = true
             ·
              subst c18
              have H1 : (some (0, false)) = some (r1, r2) := by rw [if_pos rfl] at H; exact H
              clear H
              have H := H1
              clear H1
              simp only [Option.some.injEq, Prod.mk.injEq] at H
              obtain ⟨rfl, rfl⟩ := H
              go_wp2
              go_ret2
              exact ⟨by first | rfl | (simp [errW_none, errW_some] <;> rfl) | (simp [*, errW_none, errW_some] <;> rfl), by repeat (first | (with_reducible first | exact HB.out | apply bwA | apply bwN | apply bwD) | exact HB.out)⟩
             ·
              replace c18 := Bool.eq_false_iff.mpr c18
              subst c18
              have H1 : ((num_Mul.f kj15 x6_4 10).bind fun bt152 => ((num_Sub.f bt152.1 (((bt x5_5 x34_4) - 48) % 256)).bind fun bt154 => (if bt152.2 = true then (if bt154.2 = true then (num_Parse.l0 kj15 a0 x4_1 x5_5 bt154.1 (x5_5.size : Int) (wrap64 (x34_4 + 1))) else (some (0, false))) else (some (0, false))))) = some (r1, r2) := by rw [if_neg (show ¬ (false = true) by decide)] at H; exact H
              clear H
              have H := H1
              clear H1
              replace H := Option.bind_eq_some_iff.mp H
              obtain ⟨⟨t152, t153⟩, A190, H⟩ := H
              replace H : ((num_Sub.f t152 (((bt x5_5 x34_4) - 48) % 256)).bind fun bt154 => (if t153 = true then (if bt154.2 = true then (num_Parse.l0 kj15 a0 x4_1 x5_5 bt154.1 (x5_5.size : Int) (wrap64 (x34_4 + 1))) else (some (0, false))) else (some (0, false)))) = some (r1, r2) := H
              have A19 := As.mk A190
              clear A190
              replace H := Option.bind_eq_some_iff.mp H
              obtain ⟨⟨t154, t155⟩, A200, H⟩ := H
              replace H : (if t153 = true then (if t155 = true then (num_Parse.l0 kj15 a0 x4_1 x5_5 t154 (x5_5.size : Int) (wrap64 (x34_4 + 1))) else (some (0, false))) else (some (0, false))) = some (r1, r2) := H
              have A20 := As.mk A200
              clear A200
              by_cases c21 : t153 = true
              ·
               subst c21
               have H1 : (if t155 = true then (num_Parse.l0 kj15 a0 x4_1 x5_5 t154 (x5_5.size : Int) (wrap64 (x34_4 + 1))) else (some (0, false))) = some (r1, r2) := by rw [if_pos rfl] at H; exact H
               clear H
               have H := H1
               clear H1
               by_cases c22 : t155 = true
               ·
                subst c22
                have H1 : (num_Parse.l0 kj15 a0 x4_1 x5_5 t154 (x5_5.size : Int) (wrap64 (x34_4 + 1))) = some (r1, r2) := by rw [if_pos rfl] at H; exact H
                clear H
                have H := H1
                clear H1
                have H' := As.mk H
                clear H
                go_wp2_with (first | ((with_reducible refine gaC (f := 74) rfl ?_); refine goesL_ (some 48) rfl rfl Tryd.func74 (by kernel_rfl) rfl #[.int .i64 x6_4, .int .i64 10] rfl (by simp only [List.map_toArray, List.map_cons, List.map_nil]; try rfl) ?_; (with_reducible refine (num_Mul.calls kj15 x6_4 10 t152 true _ A19.out).mono ?_); rintro e w' ⟨rfl, ⟨nd, rfl⟩⟩; refine ⟨_, rfl, ?_⟩) | ((with_reducible refine gaC (f := 75) rfl ?_); refine goesL_ (some 56) rfl rfl Tryd.func75 (by kernel_rfl) rfl #[.int .i64 t152, .int .i64 (((bt x5_5 x34_4) - 48) % 256)] rfl (by simp only [List.map_toArray, List.map_cons, List.map_nil]; try rfl) ?_; (with_reducible refine (num_Sub.calls t152 (((bt x5_5 x34_4) - 48) % 256) t154 true _ A20.out).mono ?_); rintro e w' ⟨rfl, ⟨nd, rfl⟩⟩; refine ⟨_, rfl, ?_⟩))
                go_roundg kj15
                case measure => have := HJ1.out; have := HJ5.out; have := HJ8.out; have := HK4.out; have := HJ15.out; omega
                case rel => exact ⟨(t154), (wrap64 (x34_4 + 1)), (by first | rfl | (simp; done) | (simp [*]; done)), (by first | rfl | (simp; done) | (simp [*]; done)), H', ⟨by have := HJ1.out; have := HJ5.out; have := HJ8.out; have := HK4.out; have := HJ15.out; omega⟩, ⟨by repeat (first | (with_reducible first | exact HB.out | apply bwA | apply bwN | apply bwD) | exact HB.out)⟩⟩
               ·
                replace c22 := Bool.eq_false_iff.mpr c22
                subst c22
                have H1 : (some (0, false)) = some (r1, r2) := by rw [if_neg (show ¬ (false = true) by decide)] at H; exact H
                clear H
                have H := H1
                clear H1
                simp only [Option.some.injEq, Prod.mk.injEq] at H
                obtain ⟨rfl, rfl⟩ := H
                go_wp2_with (first | ((with_reducible refine gaC (f := 74) rfl ?_); refine goesL_ (some 48) rfl rfl Tryd.func74 (by kernel_rfl) rfl #[.int .i64 x6_4, .int .i64 10] rfl (by simp only [List.map_toArray, List.map_cons, List.map_nil]; try rfl) ?_; (with_reducible refine (num_Mul.calls kj15 x6_4 10 t152 true _ A19.out).mono ?_); rintro e w' ⟨rfl, ⟨nd, rfl⟩⟩; refine ⟨_, rfl, ?_⟩) | ((with_reducible refine gaC (f := 75) rfl ?_); refine goesL_ (some 56) rfl rfl Tryd.func75 (by kernel_rfl) rfl #[.int .i64 t152, .int .i64 (((bt x5_5 x34_4) - 48) % 256)] rfl (by simp only [List.map_toArray, List.map_cons, List.map_nil]; try rfl) ?_; (with_reducible refine (num_Sub.calls t152 (((bt x5_5 x34_4) - 48) % 256) t154 false _ A20.out).mono ?_); rintro e w' ⟨rfl, ⟨nd, rfl⟩⟩; refine ⟨_, rfl, ?_⟩))
                go_ret2
                exact ⟨by first | rfl | (simp [errW_none, errW_some] <;> rfl) | (simp [*, errW_none, errW_some] <;> rfl), by repeat (first | (with_reducible first | exact HB.out | apply bwA | apply bwN | apply bwD) | exact HB.out)⟩
              ·
               replace c21 := Bool.eq_false_iff.mpr c21
               subst c21
               have H1 : (some (0, false)) = some (r1, r2) := by rw [if_neg (show ¬ (false = true) by decide)] at H; exact H
               clear H
               have H := H1
               clear H1
               simp only [Option.some.injEq, Prod.mk.injEq] at H
               obtain ⟨rfl, rfl⟩ := H
               go_wp2_with (first | ((with_reducible refine gaC (f := 74) rfl ?_); refine goesL_ (some 48) rfl rfl Tryd.func74 (by kernel_rfl) rfl #[.int .i64 x6_4, .int .i64 10] rfl (by simp only [List.map_toArray, List.map_cons, List.map_nil]; try rfl) ?_; (with_reducible refine (num_Mul.calls kj15 x6_4 10 t152 false _ A19.out).mono ?_); rintro e w' ⟨rfl, ⟨nd, rfl⟩⟩; refine ⟨_, rfl, ?_⟩) | ((with_reducible refine gaC (f := 75) rfl ?_); refine goesL_ (some 56) rfl rfl Tryd.func75 (by kernel_rfl) rfl #[.int .i64 t152, .int .i64 (((bt x5_5 x34_4) - 48) % 256)] rfl (by simp only [List.map_toArray, List.map_cons, List.map_nil]; try rfl) ?_; (with_reducible refine (num_Sub.calls t152 (((bt x5_5 x34_4) - 48) % 256) t154 t155 _ A20.out).mono ?_); rintro e w' ⟨rfl, ⟨nd, rfl⟩⟩; refine ⟨_, rfl, ?_⟩))
               go_ret2
               exact ⟨by first | rfl | (simp [errW_none, errW_some] <;> rfl) | (simp [*, errW_none, errW_some] <;> rfl), by repeat (first | (with_reducible first | exact HB.out | apply bwA | apply bwN | apply bwD) | exact HB.out)⟩
          ·
           rw [if_neg c12] at H
           have c12b0 : decide (x34_4 < (x5_5.size : Int)) = false := decide_eq_false c12
           clear c12
           by_cases c23 : x4_1 = true
           ·
            subst c23
            have H1 : ((num_Digits.f k4 x6_4).bind fun t156 => (if t156.toList = a0.toList then (some (x6_4, true)) else (some (0, false)))) = some (r1, r2) := by rw [if_pos rfl] at H; exact H
            clear H
            have H := H1
            clear H1
            replace H := Option.bind_eq_some_iff.mp H
            obtain ⟨t156, A240, H⟩ := H
            replace H : (if t156.toList = a0.toList then (some (x6_4, true)) else (some (0, false))) = some (r1, r2) := H
            have A24 := As.mk A240
            clear A240
            by_cases c25 : t156.toList = a0.toList
            ·
             rw [if_pos c25] at H
             have c25b0 : (t156.toList == a0.toList) = true := beq_iff_eq.mpr c25
             have c25b1 : (t156.toList != a0.toList) = false := bne_eq_false_iff_eq.mpr c25
             clear c25
             simp only [Option.some.injEq, Prod.mk.injEq] at H
             obtain ⟨rfl, rfl⟩ := H
             go_wp2_with (first | ((with_reducible refine gaC (f := 77) rfl ?_); refine goesL_ (some 77) rfl rfl Tryd.func77 (by kernel_rfl) rfl #[.int .i64 x6_4] rfl (by simp only [List.map_toArray, List.map_cons, List.map_nil]; try rfl) ?_; (with_reducible refine (num_Digits.calls k4 x6_4 t156 _ A24.out).mono ?_); rintro e w26 ⟨rfl, hb⟩; refine ⟨_, rfl, ?_⟩; have n0_ := As.mk (bwS (by repeat (first | (with_reducible first | exact HB.out | apply bwA | apply bwN | apply bwD) | exact HB.out)) hb); clear HB; have HB := n0_; clear n0_; (try clear hb); (try clear hb2); (try clear hk); (try clear hi)))
             go_ret2
             exact ⟨by first | rfl | (simp [errW_none, errW_some] <;> rfl) | (simp [*, errW_none, errW_some] <;> rfl), by repeat (first | (with_reducible first | exact HB.out | apply bwA | apply bwN | apply bwD) | exact HB.out)⟩
            ·
             rw [if_neg c25] at H
             have c25b0 : (t156.toList == a0.toList) = false := beq_eq_false_iff_ne.mpr c25
             have c25b1 : (t156.toList != a0.toList) = true := bne_iff_ne.mpr c25
             simp only [Option.some.injEq, Prod.mk.injEq] at H
             obtain ⟨rfl, rfl⟩ := H
             go_wp2_with (first | ((with_reducible refine gaC (f := 77) rfl ?_); refine goesL_ (some 77) rfl rfl Tryd.func77 (by kernel_rfl) rfl #[.int .i64 x6_4] rfl (by simp only [List.map_toArray, List.map_cons, List.map_nil]; try rfl) ?_; (with_reducible refine (num_Digits.calls k4 x6_4 t156 _ A24.out).mono ?_); rintro e w27 ⟨rfl, hb⟩; refine ⟨_, rfl, ?_⟩; have n0_ := As.mk (bwS (by repeat (first | (with_reducible first | exact HB.out | apply bwA | apply bwN | apply bwD) | exact HB.out)) hb); clear HB; have HB := n0_; clear n0_; (try clear hb); (try clear hb2); (try clear hk); (try clear hi)))
             go_ret2
             exact ⟨by first | rfl | (simp [errW_none, errW_some] <;> rfl) | (simp [*, errW_none, errW_some] <;> rfl), by repeat (first | (with_reducible first | exact HB.out | apply bwA | apply bwN | apply bwD) | exact HB.out)⟩
           ·
            replace c23 := Bool.eq_false_iff.mpr c23
            subst c23
            have H1 : ((num_Neg.f x6_4).bind fun bt157 => (if bt157.2 = true then ((num_Digits.f k4 bt157.1).bind fun t159 => (if t159.toList = a0.toList then (some (bt157.1, true)) else (some (0, false)))) else (some (0, false)))) = some (r1, r2) := by rw [if_neg (show ¬ (false = true) by decide)] at H; exact H
            clear H
            have H := H1
            clear H1
            replace H := Option.bind_eq_some_iff.mp H
            obtain ⟨⟨t157, t158⟩, A280, H⟩ := H
            replace H : (if t158 = true then ((num_Digits.f k4 t157).bind fun t159 => (if t159.toList = a0.toList then (some (t157, true)) else (some (0, false)))) else (some (0, false))) = some (r1, r2) := H
            have A28 := As.mk A280
            clear A280
            by_cases c29 : t158 = true
            ·
             subst c29
             have H1 : ((num_Digits.f k4 t157).bind fun t159 => (if t159.toList = a0.toList then (some (t157, true)) else (some (0, false)))) = some (r1, r2) := by rw [if_pos rfl] at H; exact H
             clear H
             have H := H1
             clear H1
             replace H := Option.bind_eq_some_iff.mp H
             obtain ⟨t159, A300, H⟩ := H
             replace H : (if t159.toList = a0.toList then (some (t157, true)) else (some (0, false))) = some (r1, r2) := H
             have A30 := As.mk A300
             clear A300
             by_cases c31 : t159.toList = a0.toList
             ·
              rw [if_pos c31] at H
              have c31b0 : (t159.toList == a0.toList) = true := beq_iff_eq.mpr c31
              have c31b1 : (t159.toList != a0.toList) = false := bne_eq_false_iff_eq.mpr c31
              clear c31
              simp only [Option.some.injEq, Prod.mk.injEq] at H
              obtain ⟨rfl, rfl⟩ := H
              go_wp2_with (first | ((with_reducible refine gaC (f := 76) rfl ?_); refine goesL_ (some 71) rfl rfl Tryd.func76 (by kernel_rfl) rfl #[.int .i64 x6_4] rfl (by simp only [List.map_toArray, List.map_cons, List.map_nil]; try rfl) ?_; (with_reducible refine (num_Neg.calls x6_4 t157 true _ A28.out).mono ?_); rintro e w' ⟨rfl, ⟨nd, rfl⟩⟩; refine ⟨_, rfl, ?_⟩) | ((with_reducible refine gaC (f := 77) rfl ?_); refine goesL_ (some 77) rfl rfl Tryd.func77 (by kernel_rfl) rfl #[.int .i64 t157] rfl (by simp only [List.map_toArray, List.map_cons, List.map_nil]; try rfl) ?_; (with_reducible refine (num_Digits.calls k4 t157 t159 _ A30.out).mono ?_); rintro e w32 ⟨rfl, hb⟩; refine ⟨_, rfl, ?_⟩; have n0_ := As.mk (bwS (by repeat (first | (with_reducible first | exact HB.out | apply bwA | apply bwN | apply bwD) | exact HB.out)) hb); clear HB; have HB := n0_; clear n0_; (try clear hb); (try clear hb2); (try clear hk); (try clear hi)))
              go_ret2
              exact ⟨by first | rfl | (simp [errW_none, errW_some] <;> rfl) | (simp [*, errW_none, errW_some] <;> rfl), by repeat (first | (with_reducible first | exact HB.out | apply bwA | apply bwN | apply bwD) | exact HB.out)⟩
             ·
              rw [if_neg c31] at H
              have c31b0 : (t159.toList == a0.toList) = false := beq_eq_false_iff_ne.mpr c31
              have c31b1 : (t159.toList != a0.toList) = true := bne_iff_ne.mpr c31
              simp only [Option.some.injEq, Prod.mk.injEq] at H
              obtain ⟨rfl, rfl⟩ := H
              go_wp2_with (first | ((with_reducible refine gaC (f := 76) rfl ?_); refine goesL_ (some 71) rfl rfl Tryd.func76 (by kernel_rfl) rfl #[.int .i64 x6_4] rfl (by simp only [List.map_toArray, List.map_cons, List.map_nil]; try rfl) ?_; (with_reducible refine (num_Neg.calls x6_4 t157 true _ A28.out).mono ?_); rintro e w' ⟨rfl, ⟨nd, rfl⟩⟩; refine ⟨_, rfl, ?_⟩) | ((with_reducible refine gaC (f := 77) rfl ?_); refine goesL_ (some 77) rfl rfl Tryd.func77 (by kernel_rfl) rfl #[.int .i64 t157] rfl (by simp only [List.map_toArray, List.map_cons, List.map_nil]; try rfl) ?_; (with_reducible refine (num_Digits.calls k4 t157 t159 _ A30.out).mono ?_); rintro e w33 ⟨rfl, hb⟩; refine ⟨_, rfl, ?_⟩; have n0_ := As.mk (bwS (by repeat (first | (with_reducible first | exact HB.out | apply bwA | apply bwN | apply bwD) | exact HB.out)) hb); clear HB; have HB := n0_; clear n0_; (try clear hb); (try clear hb2); (try clear hk); (try clear hi)))
              go_ret2
              exact ⟨by first | rfl | (simp [errW_none, errW_some] <;> rfl) | (simp [*, errW_none, errW_some] <;> rfl), by repeat (first | (with_reducible first | exact HB.out | apply bwA | apply bwN | apply bwD) | exact HB.out)⟩
            ·
             replace c29 := Bool.eq_false_iff.mpr c29
             subst c29
             have H1 : (some (0, false)) = some (r1, r2) := by rw [if_neg (show ¬ (false = true) by decide)] at H; exact H
             clear H
             have H := H1
             clear H1
             simp only [Option.some.injEq, Prod.mk.injEq] at H
             obtain ⟨rfl, rfl⟩ := H
             go_wp2_with (first | ((with_reducible refine gaC (f := 76) rfl ?_); refine goesL_ (some 71) rfl rfl Tryd.func76 (by kernel_rfl) rfl #[.int .i64 x6_4] rfl (by simp only [List.map_toArray, List.map_cons, List.map_nil]; try rfl) ?_; (with_reducible refine (num_Neg.calls x6_4 t157 false _ A28.out).mono ?_); rintro e w' ⟨rfl, ⟨nd, rfl⟩⟩; refine ⟨_, rfl, ?_⟩))
             go_ret2
             exact ⟨by first | rfl | (simp [errW_none, errW_some] <;> rfl) | (simp [*, errW_none, errW_some] <;> rfl), by repeat (first | (with_reducible first | exact HB.out | apply bwA | apply bwN | apply bwD) | exact HB.out)⟩

/-! ### text_Reader_Quoted: function 60 -/
def text_Reader_Quoted.l0 : Nat → Int → ByteArray → Int → Option (ByteArray × Bool × ByteArray × Int)
 | 0, _, _, _ => none
 | k + 1, x4, x1000, x1001 => if x4 < (x1000.size : Int) then (if 0 ≤ x4 then (if (bt x1000 x4) = 39 then (if (wrap64 (x4 + 1)) < (x1000.size : Int) then (if 0 ≤ (wrap64 (x4 + 1)) then (if (bt x1000 (wrap64 (x4 + 1))) = 39 then (text_Reader_Quoted.l0 k (wrap64 ((wrap64 (x4 + 1)) + 1)) x1000 x1001) else (if 0 ≤ x1001 then (if x1001 ≤ (wrap64 (x4 + 1)) then (if (wrap64 (x4 + 1)) ≤ (x1000.size : Int) then (some (x1000.extract (x1001 : Int).toNat ((wrap64 (x4 + 1)) : Int).toNat, true, x1000, wrap64 (x4 + 1))) else (none)) else (none)) else (none))) else (none)) else (if 0 ≤ x1001 then (if x1001 ≤ (wrap64 (x4 + 1)) then (if (wrap64 (x4 + 1)) ≤ (x1000.size : Int) then (some (x1000.extract (x1001 : Int).toNat ((wrap64 (x4 + 1)) : Int).toNat, true, x1000, wrap64 (x4 + 1))) else (none)) else (none)) else (none))) else (text_Reader_Quoted.l0 k (wrap64 (x4 + 1)) x1000 x1001)) else (none)) else (some ((⟨#[]⟩ : ByteArray), false, x1000, x1001))
def text_Reader_Quoted.f (k : Nat) (s0_0 : ByteArray) (s0_1 : Int) : Option (ByteArray × Bool × ByteArray × Int) := (text_Reader_Class.f k s0_0 s0_1).bind fun bt160 => (if bt160.1 = 5 then (text_Reader_Quoted.l0 k (wrap64 (bt160.2.2 + 1)) bt160.2.1 bt160.2.2) else (some ((⟨#[]⟩ : ByteArray), false, bt160.2.1, bt160.2.2)))
set_option maxHeartbeats 8000000 in
set_option maxRecDepth 100000 in
theorem text_Reader_Quoted.calls (k : Nat) (g : Nat) (s0_0 : ByteArray) (s0_1 : Int) (r1 : ByteArray) (r2 : Bool) (r3 : ByteArray) (r4 : Int) (w0 w : World) (hI : IsS105 w0 w g s0_0 s0_1) (hB : Below w0.heap.size w0 w) (h : text_Reader_Quoted.f k s0_0 s0_1 = some (r1, r2, r3, r4)) :
  Calls Tryd.prog 60 #[.pointer (some ⟨g, 0, none⟩)] w fun e w' => e = .returned (.tuple #[.string r1, .bool r2]) ∧ IsS105 w0 w' g r3 r4 ∧ Below w0.heap.size w0 w' ∧ KeepBut w w' g none := by
 have HI0 := As.mk hI
 have HK := As.mk (KeepBut.refl w g none)
 have HL := As.mk hB.size
 clear hI
 have HW0 := As.mk hB.size
 have HB := As.mk hB
 clear hB
 have H : ((text_Reader_Class.f k s0_0 s0_1).bind fun bt160 => (if bt160.1 = 5 then (text_Reader_Quoted.l0 k (wrap64 (bt160.2.2 + 1)) bt160.2.1 bt160.2.2) else (some ((⟨#[]⟩ : ByteArray), false, bt160.2.1, bt160.2.2)))) = some (r1, r2, r3, r4) := h
 clear h
 replace H := Option.bind_eq_some_iff.mp H
 obtain ⟨⟨t160, t161, t162⟩, A20, H⟩ := H
 replace H : (if t160 = 5 then (text_Reader_Quoted.l0 k (wrap64 (t162 + 1)) t161 t162) else (some ((⟨#[]⟩ : ByteArray), false, t161, t162))) = some (r1, r2, r3, r4) := H
 have A2 := As.mk A20
 clear A20
 by_cases c3 : t160 = 5
 ·
  rw [if_pos c3] at H
  have c3b0 : (t160 == 5) = true := beq_iff_eq.mpr c3
  have c3b1 : (t160 != 5) = false := bne_eq_false_iff_eq.mpr c3
  clear c3
  have H' := As.mk H
  clear H
  go_enter Tryd.func60, Tryd.ntmps60
  go_wp2_with (first | (go_at_call 56; (with_reducible refine (text_Reader_Class.calls k g s0_0 s0_1 t160 t161 t162 w0 _ ?side1 ?side2 A2.out).mono ?_); (case side1 => repeat (first | (with_reducible first | exact HI0.out | apply IsS105.alloc | apply IsS105.drewN | apply IsS105.drew | apply IsS105.set_0 | apply IsS105.set_1) | exact HI0.out)); (case side2 => repeat (first | (with_reducible first | exact HB.out | apply bwA | apply bwN | apply bwD | refine bwC ?_ (IsS105.ge HI0.out)) | exact HB.out)); rintro e w4 ⟨rfl, hi, hb, hk⟩; have n0_ := As.mk (KeepBut.trans (by repeat (first | (with_reducible first | exact HK.out | apply KeepBut.set_ | apply kpN | apply kpD | apply kpA) | exact HK.out)) hk (.inl rfl)); have n1_ := As.mk (hb); have n2_ := As.mk (hi); clear HK; clear HB; clear HI0; have HK := n0_; have HB := n1_; have HI0 := n2_; clear n0_ n1_ n2_; (try clear hb); (try clear hb2); (try clear hk); (try clear hi); obtain ⟨HGz5, hgz5⟩ := HI0.out; have hcz5_0 := cellS105_0 HGz5; have hcz5_1 := cellS105_1 HGz5; have hfz5_0 := blk_frozen HGz5 0; have hfz5_1 := blk_frozen HGz5 1; clear HGz5 hgz5))
  repeat (go_quiet (first | (go_at_call 56; (with_reducible refine (text_Reader_Class.calls k g s0_0 s0_1 t160 t161 t162 w0 _ ?side1 ?side2 A2.out).mono ?_); (case side1 => repeat (first | (with_reducible first | exact HI0.out | apply IsS105.alloc | apply IsS105.drewN | apply IsS105.drew | apply IsS105.set_0 | apply IsS105.set_1) | exact HI0.out)); (case side2 => repeat (first | (with_reducible first | exact HB.out | apply bwA | apply bwN | apply bwD | refine bwC ?_ (IsS105.ge HI0.out)) | exact HB.out)); rintro e w4 ⟨rfl, hi, hb, hk⟩; have n0_ := As.mk (KeepBut.trans (by repeat (first | (with_reducible first | exact HK.out | apply KeepBut.set_ | apply kpN | apply kpD | apply kpA) | exact HK.out)) hk (.inl rfl)); have n1_ := As.mk (hb); have n2_ := As.mk (hi); clear HK; clear HB; clear HI0; have HK := n0_; have HB := n1_; have HI0 := n2_; clear n0_ n1_ n2_; (try clear hb); (try clear hb2); (try clear hk); (try clear hi); obtain ⟨HGz5, hgz5⟩ := HI0.out; have hcz5_0 := cellS105_0 HGz5; have hcz5_1 := cellS105_1 HGz5; have hfz5_0 := blk_frozen HGz5 0; have hfz5_1 := blk_frozen HGz5 1; clear HGz5 hgz5)); try go_wp2_with (first | (go_at_call 56; (with_reducible refine (text_Reader_Class.calls k g s0_0 s0_1 t160 t161 t162 w0 _ ?side1 ?side2 A2.out).mono ?_); (case side1 => repeat (first | (with_reducible first | exact HI0.out | apply IsS105.alloc | apply IsS105.drewN | apply IsS105.drew | apply IsS105.set_0 | apply IsS105.set_1) | exact HI0.out)); (case side2 => repeat (first | (with_reducible first | exact HB.out | apply bwA | apply bwN | apply bwD | refine bwC ?_ (IsS105.ge HI0.out)) | exact HB.out)); rintro e w4 ⟨rfl, hi, hb, hk⟩; have n0_ := As.mk (KeepBut.trans (by repeat (first | (with_reducible first | exact HK.out | apply KeepBut.set_ | apply kpN | apply kpD | apply kpA) | exact HK.out)) hk (.inl rfl)); have n1_ := As.mk (hb); have n2_ := As.mk (hi); clear HK; clear HB; clear HI0; have HK := n0_; have HB := n1_; have HI0 := n2_; clear n0_ n1_ n2_; (try clear hb); (try clear hb2); (try clear hk); (try clear hi); obtain ⟨HGz5, hgz5⟩ := HI0.out; have hcz5_0 := cellS105_0 HGz5; have hcz5_1 := cellS105_1 HGz5; have hfz5_0 := blk_frozen HGz5 0; have hfz5_1 := blk_frozen HGz5 1; clear HGz5 hgz5)))
  go_loopg [4] k (fun kq v4 w' => ∃ (x4_1 : Int) (x1001_1 : Int), v4 = .int .i64 x4_1 ∧ As (text_Reader_Quoted.l0 kq x4_1 t161 x1001_1 = some (r1, r2, r3, r4)) ∧ As (kq ≤ k) ∧ As (IsS105 w0 w' g t161 x1001_1) ∧ As (KeepBut w w' g none) ∧ As (Below w0.heap.size w0 w'))
  case atStart => exact ⟨(wrap64 (t162 + 1)), (t162), (by first | rfl | (simp; done) | (simp [*]; done)), H', ⟨Nat.le_refl _⟩, ⟨by repeat (first | (with_reducible first | exact HI0.out | apply IsS105.alloc | apply IsS105.drewN | apply IsS105.drew | apply IsS105.set_0 | apply IsS105.set_1) | exact HI0.out)⟩, ⟨by repeat (first | (with_reducible first | exact HK.out | apply KeepBut.set_ | apply kpN | apply kpD | apply kpA) | exact HK.out)⟩, ⟨by repeat (first | (with_reducible first | exact HB.out | apply bwA | apply bwN | apply bwD | refine bwC ?_ (IsS105.ge HI0.out)) | exact HB.out)⟩⟩
  case round =>
   clear H'
   try clear p2
   try clear c3
   try clear c3b0
   try clear c3b1
   try clear hcz5_0
   try clear hcz5_1
   try clear hfz5_0
   try clear hfz5_1
   obtain ⟨x4_1, x1001_1, rfl, HA, HK1, HI0, HK, HB⟩ := hrel
   cases gk with
   | zero => exact absurd HA.out (by simp [text_Reader_Quoted.l0])
   | succ k1 =>
    have H := HA.out
    clear HA
    simp only [text_Reader_Quoted.l0] at H
    by_cases c6 : x4_1 < (t161.size : Int)
    ·
     rw [if_pos c6] at H
     have c6b0 : decide (x4_1 < (t161.size : Int)) = true := decide_eq_true c6
     clear c6
     replace H := ite_some H
     obtain ⟨c7, H⟩ := H
     have c7b0 : decide (0 ≤ x4_1) = true := decide_eq_true c7
     clear c7
     by_cases c9 : (bt t161 x4_1) = 39
     ·
      rw [if_pos c9] at H
      have c9b0 : ((bt t161 x4_1) == 39) = true := beq_iff_eq.mpr c9
      have c9b1 : ((bt t161 x4_1) != 39) = false := bne_eq_false_iff_eq.mpr c9
      clear c9
      by_cases c10 : (wrap64 (x4_1 + 1)) < (t161.size : Int)
      ·
       rw [if_pos c10] at H
       have c10b0 : decide ((wrap64 (x4_1 + 1)) < (t161.size : Int)) = true := decide_eq_true c10
       clear c10
       obtain ⟨ji11, hji11⟩ : ∃ j_ : Int, (wrap64 (x4_1 + 1)) = j_ := ⟨_, rfl⟩
       replace H : (if 0 ≤ (ji11) then (if (bt t161 (ji11)) = 39 then (text_Reader_Quoted.l0 k1 (wrap64 ((ji11) + 1)) t161 x1001_1) else (if 0 ≤ x1001_1 then (if x1001_1 ≤ (ji11) then (if (ji11) ≤ (t161.size : Int) then (some (t161.extract (x1001_1 : Int).toNat ((ji11) : Int).toNat, true, t161, ji11)) else (none)) else (none)) else (none))) else (none)) = some (r1, r2, r3, r4) := by first | (rw [hji11] at H; exact H) | (simp only [hji11] at H ⊢; exact H)
       (try rw [hji11] at c10b0)
       have hji11w : (IntKind.i64.wrap (x4_1 + 1)) = ji11 := (i64_w _).trans hji11
       replace H := ite_some H
       obtain ⟨c12, H⟩ := H
       have c12b0 : decide (0 ≤ (ji11)) = true := decide_eq_true c12
       clear c12
       by_cases c14 : (bt t161 (ji11)) = 39
       ·
        rw [if_pos c14] at H
        have c14b0 : ((bt t161 (ji11)) == 39) = true := beq_iff_eq.mpr c14
        have c14b1 : ((bt t161 (ji11)) != 39) = false := bne_eq_false_iff_eq.mpr c14
        clear c14
        have H' := As.mk H
        clear H
        obtain ⟨HGz15, hgz15⟩ := HI0.out
        have hcz15_0 := cellS105_0 HGz15
        have hcz15_1 := cellS105_1 HGz15
        have hfz15_0 := blk_frozen HGz15 0
        have hfz15_1 := blk_frozen HGz15 1
        clear HGz15 hgz15
        have p8 : 0 ≤ (x4_1 : Int) := of_decide_eq_true (by first | (with_reducible assumption) | assumption)
        have q8 : x4_1 < (t161.size : Int) := of_decide_eq_true (by first | (with_reducible assumption) | assumption)
        have hx8 := bt_at t161 x4_1
        replace p8 := eq_true p8
        replace q8 := eq_true q8
        have p13 : 0 ≤ ((ji11) : Int) := of_decide_eq_true (by first | (with_reducible assumption) | assumption)
        have q13 : (ji11) < (t161.size : Int) := of_decide_eq_true (by first | (with_reducible assumption) | assumption)
        have hx13 := bt_at t161 (ji11)
        replace p13 := eq_true p13
        replace q13 := eq_true q13
        go_wp2
        repeat (go_quiet (fail); try go_wp2)
        go_roundg k1
        case measure => have := HK1.out; omega
        case rel => exact ⟨(wrap64 ((ji11) + 1)), (x1001_1), (by first | rfl | (simp; done) | (simp only [← hji11] <;> (first | rfl | simp)) | (simp [*]; done)), H', ⟨by have := HK1.out; omega⟩, ⟨by repeat (first | (with_reducible first | exact HI0.out | apply IsS105.alloc | apply IsS105.drewN | apply IsS105.drew | apply IsS105.set_0 | apply IsS105.set_1) | exact HI0.out)⟩, ⟨by repeat (first | (with_reducible first | exact HK.out | apply KeepBut.set_ | apply kpN | apply kpD | apply kpA) | exact HK.out)⟩, ⟨by repeat (first | (with_reducible first | exact HB.out | apply bwA | apply bwN | apply bwD | refine bwC ?_ (IsS105.ge HI0.out)) | exact HB.out)⟩⟩
       ·
        rw [if_neg c14] at H
        have c14b0 : ((bt t161 (ji11)) == 39) = false := beq_eq_false_iff_ne.mpr c14
        have c14b1 : ((bt t161 (ji11)) != 39) = true := bne_iff_ne.mpr c14
        replace H := ite_some H
        obtain ⟨c16, H⟩ := H
        have c16b0 := eq_true c16
        have c16b1 : decide (0 ≤ x1001_1) = true := decide_eq_true c16
        clear c16
        replace H := ite_some H
        obtain ⟨c17, H⟩ := H
        have c17b0 := eq_true c17
        have c17b1 : decide (x1001_1 ≤ (ji11)) = true := decide_eq_true c17
        clear c17
        replace H := ite_some H
        obtain ⟨c18, H⟩ := H
        have c18b0 := eq_true c18
        have c18b1 : decide ((ji11) ≤ (t161.size : Int)) = true := decide_eq_true c18
        clear c18
        simp only [Option.some.injEq, Prod.mk.injEq] at H
        obtain ⟨rfl, rfl, rfl, rfl⟩ := H
        obtain ⟨HGz19, hgz19⟩ := HI0.out
        have hcz19_0 := cellS105_0 HGz19
        have hcz19_1 := cellS105_1 HGz19
        have hfz19_0 := blk_frozen HGz19 0
        have hfz19_1 := blk_frozen HGz19 1
        clear HGz19 hgz19
        have p8 : 0 ≤ (x4_1 : Int) := of_decide_eq_true (by first | (with_reducible assumption) | assumption)
        have q8 : x4_1 < (t161.size : Int) := of_decide_eq_true (by first | (with_reducible assumption) | assumption)
        have hx8 := bt_at t161 x4_1
        replace p8 := eq_true p8
        replace q8 := eq_true q8
        have p13 : 0 ≤ ((ji11) : Int) := of_decide_eq_true (by first | (with_reducible assumption) | assumption)
        have q13 : (ji11) < (t161.size : Int) := of_decide_eq_true (by first | (with_reducible assumption) | assumption)
        have hx13 := bt_at t161 (ji11)
        replace p13 := eq_true p13
        replace q13 := eq_true q13
        go_wp2
        repeat (go_quiet (fail); try go_wp2)
        go_ret2
        exact ⟨by first | rfl | (simp [errW_none, errW_some] <;> rfl) | (simp only [← hji11]; first | rfl | (simp [errW_none, errW_some] <;> rfl)) | (simp [*, errW_none, errW_some] <;> rfl), by repeat (first | (with_reducible first | exact HI0.out | apply IsS105.alloc | apply IsS105.drewN | apply IsS105.drew | apply IsS105.set_0 | apply IsS105.set_1) | exact HI0.out), by repeat (first | (with_reducible first | exact HB.out | apply bwA | apply bwN | apply bwD | refine bwC ?_ (IsS105.ge HI0.out)) | exact HB.out), by repeat (first | (with_reducible first | exact HK.out | apply KeepBut.set_ | apply kpN | apply kpD | apply kpA) | exact HK.out)⟩
      ·
       rw [if_neg c10] at H
       have c10b0 : decide ((wrap64 (x4_1 + 1)) < (t161.size : Int)) = false := decide_eq_false c10
       clear c10
       replace H := ite_some H
       obtain ⟨c20, H⟩ := H
       have c20b0 := eq_true c20
       have c20b1 : decide (0 ≤ x1001_1) = true := decide_eq_true c20
       clear c20
       replace H := ite_some H
       obtain ⟨c21, H⟩ := H
       have c21b0 := eq_true c21
       have c21b1 : decide (x1001_1 ≤ (wrap64 (x4_1 + 1))) = true := decide_eq_true c21
       replace H := ite_some H
       obtain ⟨c22, H⟩ := H
       have c22b0 := eq_true c22
       have c22b1 : decide ((wrap64 (x4_1 + 1)) ≤ (t161.size : Int)) = true := decide_eq_true c22
       simp only [Option.some.injEq, Prod.mk.injEq] at H
       obtain ⟨rfl, rfl, rfl, rfl⟩ := H
       obtain ⟨HGz23, hgz23⟩ := HI0.out
       have hcz23_0 := cellS105_0 HGz23
       have hcz23_1 := cellS105_1 HGz23
       have hfz23_0 := blk_frozen HGz23 0
       have hfz23_1 := blk_frozen HGz23 1
       clear HGz23 hgz23
       have p8 : 0 ≤ (x4_1 : Int) := of_decide_eq_true (by first | (with_reducible assumption) | assumption)
       have q8 : x4_1 < (t161.size : Int) := of_decide_eq_true (by first | (with_reducible assumption) | assumption)
       have hx8 := bt_at t161 x4_1
       replace p8 := eq_true p8
       replace q8 := eq_true q8
       go_wp2
       repeat (go_quiet (fail); try go_wp2)
       go_ret2
       exact ⟨by first | rfl | (simp [errW_none, errW_some] <;> rfl) | (simp [*, errW_none, errW_some] <;> rfl), by repeat (first | (with_reducible first | exact HI0.out | apply IsS105.alloc | apply IsS105.drewN | apply IsS105.drew | apply IsS105.set_0 | apply IsS105.set_1) | exact HI0.out), by repeat (first | (with_reducible first | exact HB.out | apply bwA | apply bwN | apply bwD | refine bwC ?_ (IsS105.ge HI0.out)) | exact HB.out), by repeat (first | (with_reducible first | exact HK.out | apply KeepBut.set_ | apply kpN | apply kpD | apply kpA) | exact HK.out)⟩
     ·
      rw [if_neg c9] at H
      have c9b0 : ((bt t161 x4_1) == 39) = false := beq_eq_false_iff_ne.mpr c9
      have c9b1 : ((bt t161 x4_1) != 39) = true := bne_iff_ne.mpr c9
      have H' := As.mk H
      clear H
      obtain ⟨HGz24, hgz24⟩ := HI0.out
      have hcz24_0 := cellS105_0 HGz24
      have hcz24_1 := cellS105_1 HGz24
      have hfz24_0 := blk_frozen HGz24 0
      have hfz24_1 := blk_frozen HGz24 1
      clear HGz24 hgz24
      have p8 : 0 ≤ (x4_1 : Int) := of_decide_eq_true (by first | (with_reducible assumption) | assumption)
      have q8 : x4_1 < (t161.size : Int) := of_decide_eq_true (by first | (with_reducible assumption) | assumption)
      have hx8 := bt_at t161 x4_1
      replace p8 := eq_true p8
      replace q8 := eq_true q8
      go_wp2
      repeat (go_quiet (fail); try go_wp2)
      go_roundg k1
      case measure => have := HK1.out; omega
      case rel => exact ⟨(wrap64 (x4_1 + 1)), (x1001_1), (by first | rfl | (simp; done) | (simp [*]; done)), H', ⟨by have := HK1.out; omega⟩, ⟨by repeat (first | (with_reducible first | exact HI0.out | apply IsS105.alloc | apply IsS105.drewN | apply IsS105.drew | apply IsS105.set_0 | apply IsS105.set_1) | exact HI0.out)⟩, ⟨by repeat (first | (with_reducible first | exact HK.out | apply KeepBut.set_ | apply kpN | apply kpD | apply kpA) | exact HK.out)⟩, ⟨by repeat (first | (with_reducible first | exact HB.out | apply bwA | apply bwN | apply bwD | refine bwC ?_ (IsS105.ge HI0.out)) | exact HB.out)⟩⟩
    ·
     rw [if_neg c6] at H
     have c6b0 : decide (x4_1 < (t161.size : Int)) = false := decide_eq_false c6
     clear c6
     simp only [Option.some.injEq, Prod.mk.injEq] at H
     obtain ⟨rfl, rfl, rfl, rfl⟩ := H
     obtain ⟨HGz25, hgz25⟩ := HI0.out
     have hcz25_0 := cellS105_0 HGz25
     have hcz25_1 := cellS105_1 HGz25
     have hfz25_0 := blk_frozen HGz25 0
     have hfz25_1 := blk_frozen HGz25 1
     clear HGz25 hgz25
     go_wp2
     repeat (go_quiet (fail); try go_wp2)
     go_ret2
     exact ⟨by first | rfl | (simp [errW_none, errW_some] <;> rfl) | (simp [*, errW_none, errW_some] <;> rfl), by repeat (first | (with_reducible first | exact HI0.out | apply IsS105.alloc | apply IsS105.drewN | apply IsS105.drew | apply IsS105.set_0 | apply IsS105.set_1) | exact HI0.out), by repeat (first | (with_reducible first | exact HB.out | apply bwA | apply bwN | apply bwD | refine bwC ?_ (IsS105.ge HI0.out)) | exact HB.out), by repeat (first | (with_reducible first | exact HK.out | apply KeepBut.set_ | apply kpN | apply kpD | apply kpA) | exact HK.out)⟩
 ·
  rw [if_neg c3] at H
  have c3b0 : (t160 == 5) = false := beq_eq_false_iff_ne.mpr c3
  have c3b1 : (t160 != 5) = true := bne_iff_ne.mpr c3
  simp only [Option.some.injEq, Prod.mk.injEq] at H
  obtain ⟨rfl, rfl, rfl, rfl⟩ := H
  go_enter Tryd.func60, Tryd.ntmps60
  go_wp2_with (first | (go_at_call 56; (with_reducible refine (text_Reader_Class.calls k g s0_0 s0_1 t160 t161 t162 w0 _ ?side1 ?side2 A2.out).mono ?_); (case side1 => repeat (first | (with_reducible first | exact HI0.out | apply IsS105.alloc | apply IsS105.drewN | apply IsS105.drew | apply IsS105.set_0 | apply IsS105.set_1) | exact HI0.out)); (case side2 => repeat (first | (with_reducible first | exact HB.out | apply bwA | apply bwN | apply bwD | refine bwC ?_ (IsS105.ge HI0.out)) | exact HB.out)); rintro e w26 ⟨rfl, hi, hb, hk⟩; have n0_ := As.mk (KeepBut.trans (by repeat (first | (with_reducible first | exact HK.out | apply KeepBut.set_ | apply kpN | apply kpD | apply kpA) | exact HK.out)) hk (.inl rfl)); have n1_ := As.mk (hb); have n2_ := As.mk (hi); clear HK; clear HB; clear HI0; have HK := n0_; have HB := n1_; have HI0 := n2_; clear n0_ n1_ n2_; (try clear hb); (try clear hb2); (try clear hk); (try clear hi)))
  repeat (go_quiet (first | (go_at_call 56; (with_reducible refine (text_Reader_Class.calls k g s0_0 s0_1 t160 t161 t162 w0 _ ?side1 ?side2 A2.out).mono ?_); (case side1 => repeat (first | (with_reducible first | exact HI0.out | apply IsS105.alloc | apply IsS105.drewN | apply IsS105.drew | apply IsS105.set_0 | apply IsS105.set_1) | exact HI0.out)); (case side2 => repeat (first | (with_reducible first | exact HB.out | apply bwA | apply bwN | apply bwD | refine bwC ?_ (IsS105.ge HI0.out)) | exact HB.out)); rintro e w26 ⟨rfl, hi, hb, hk⟩; have n0_ := As.mk (KeepBut.trans (by repeat (first | (with_reducible first | exact HK.out | apply KeepBut.set_ | apply kpN | apply kpD | apply kpA) | exact HK.out)) hk (.inl rfl)); have n1_ := As.mk (hb); have n2_ := As.mk (hi); clear HK; clear HB; clear HI0; have HK := n0_; have HB := n1_; have HI0 := n2_; clear n0_ n1_ n2_; (try clear hb); (try clear hb2); (try clear hk); (try clear hi))); try go_wp2_with (first | (go_at_call 56; (with_reducible refine (text_Reader_Class.calls k g s0_0 s0_1 t160 t161 t162 w0 _ ?side1 ?side2 A2.out).mono ?_); (case side1 => repeat (first | (with_reducible first | exact HI0.out | apply IsS105.alloc | apply IsS105.drewN | apply IsS105.drew | apply IsS105.set_0 | apply IsS105.set_1) | exact HI0.out)); (case side2 => repeat (first | (with_reducible first | exact HB.out | apply bwA | apply bwN | apply bwD | refine bwC ?_ (IsS105.ge HI0.out)) | exact HB.out)); rintro e w26 ⟨rfl, hi, hb, hk⟩; have n0_ := As.mk (KeepBut.trans (by repeat (first | (with_reducible first | exact HK.out | apply KeepBut.set_ | apply kpN | apply kpD | apply kpA) | exact HK.out)) hk (.inl rfl)); have n1_ := As.mk (hb); have n2_ := As.mk (hi); clear HK; clear HB; clear HI0; have HK := n0_; have HB := n1_; have HI0 := n2_; clear n0_ n1_ n2_; (try clear hb); (try clear hb2); (try clear hk); (try clear hi))))
  go_ret2
  exact ⟨by first | rfl | (simp [errW_none, errW_some] <;> rfl) | (simp [*, errW_none, errW_some] <;> rfl), by repeat (first | (with_reducible first | exact HI0.out | apply IsS105.alloc | apply IsS105.drewN | apply IsS105.drew | apply IsS105.set_0 | apply IsS105.set_1) | exact HI0.out), by repeat (first | (with_reducible first | exact HB.out | apply bwA | apply bwN | apply bwD | refine bwC ?_ (IsS105.ge HI0.out)) | exact HB.out), by repeat (first | (with_reducible first | exact HK.out | apply KeepBut.set_ | apply kpN | apply kpD | apply kpA) | exact HK.out)⟩

/-! ### value_Quote: function 79 -/
def value_Quote.f (a0 : ByteArray) : Option (ByteArray) := (strings_ReplaceAll.f a0 (⟨#[39]⟩ : ByteArray) (⟨#[39, 39]⟩ : ByteArray)).bind fun t163 => (if 1 + t163.size ≤ 9223372036854775807 then (if ((⟨#[39]⟩ : ByteArray) ++ t163).size + 1 ≤ 9223372036854775807 then (some (((⟨#[39]⟩ : ByteArray) ++ t163) ++ (⟨#[39]⟩ : ByteArray))) else (none)) else (none))
set_option maxHeartbeats 8000000 in
set_option maxRecDepth 100000 in
theorem value_Quote.calls (a0 : ByteArray) (r : ByteArray) (w : World) (hG : Glob w) (h : value_Quote.f a0 = some r) :
  Calls Tryd.prog 79 #[.string a0] w fun e w' => e = .returned (.string r) ∧ Below w.heap.size w w' := by
 have HG := As.mk hG
 clear hG
 have HB := As.mk (Below.refl w.heap.size w)
 have H : ((strings_ReplaceAll.f a0 (⟨#[39]⟩ : ByteArray) (⟨#[39, 39]⟩ : ByteArray)).bind fun t163 => (if 1 + t163.size ≤ 9223372036854775807 then (if ((⟨#[39]⟩ : ByteArray) ++ t163).size + 1 ≤ 9223372036854775807 then (some (((⟨#[39]⟩ : ByteArray) ++ t163) ++ (⟨#[39]⟩ : ByteArray))) else (none)) else (none))) = some r := h
 clear h
 replace H := Option.bind_eq_some_iff.mp H
 obtain ⟨t163, A20, H⟩ := H
 replace H : (if 1 + t163.size ≤ 9223372036854775807 then (if ((⟨#[39]⟩ : ByteArray) ++ t163).size + 1 ≤ 9223372036854775807 then (some (((⟨#[39]⟩ : ByteArray) ++ t163) ++ (⟨#[39]⟩ : ByteArray))) else (none)) else (none)) = some r := H
 have A2 := As.mk A20
 clear A20
 replace H := ite_some H
 obtain ⟨c3, H⟩ := H
 have c3b0 := eq_true c3
 have c3b1 : decide (1 + t163.size ≤ 9223372036854775807) = true := decide_eq_true c3
 try have c3b2 : (9223372036854775807 < 1 + t163.size) = False := eq_false (Nat.not_lt.2 c3)
 replace H := ite_some H
 obtain ⟨c4, H⟩ := H
 have c4b0 := eq_true c4
 have c4b1 : decide (((⟨#[39]⟩ : ByteArray) ++ t163).size + 1 ≤ 9223372036854775807) = true := decide_eq_true c4
 try have c4b2 : (9223372036854775807 < ((⟨#[39]⟩ : ByteArray) ++ t163).size + 1) = False := eq_false (Nat.not_lt.2 c4)
 try have c4b3 : 1 + t163.size + 1 ≤ 9223372036854775807 := by (have h_ := c4; simp only [ByteArray.size_append] at h_; exact h_)
 try have c4b4 : (9223372036854775807 < 1 + t163.size + 1) = False := eq_false (Nat.not_lt.2 c4b3)
 obtain rfl := Option.some.inj H
 go_enter Tryd.func79, Tryd.ntmps79
 go_wp2_with (first | ((with_reducible refine gaC (f := 78) rfl ?_); refine goesL_ (some 4) rfl rfl Tryd.func78 (by kernel_rfl) rfl #[.string a0, .string (⟨#[39]⟩ : ByteArray), .string (⟨#[39, 39]⟩ : ByteArray)] rfl (by simp only [List.map_toArray, List.map_cons, List.map_nil]; try rfl) ?_; (with_reducible refine (strings_ReplaceAll.calls a0 (⟨#[39]⟩ : ByteArray) (⟨#[39, 39]⟩ : ByteArray) t163 _ ?side1 A2.out).mono ?_); (case side1 => exact Glob.below HG.out (by repeat (first | (with_reducible first | exact HB.out | apply bwA | apply bwN | apply bwD) | exact HB.out)) rfl); rintro e w5 ⟨rfl, hb⟩; refine ⟨_, rfl, ?_⟩; have n0_ := As.mk (bwS (by repeat (first | (with_reducible first | exact HB.out | apply bwA | apply bwN | apply bwD) | exact HB.out)) hb); clear HB; have HB := n0_; clear n0_; (try clear hb); (try clear hb2); (try clear hk); (try clear hi)))
 go_ret
 exact ⟨by first | rfl | (simp [errW_none, errW_some] <;> rfl) | (simp [*, errW_none, errW_some] <;> rfl), by repeat (first | (with_reducible first | exact HB.out | apply bwA | apply bwN | apply bwD) | exact HB.out)⟩
/-! ### value_Unquote: function 61 -/
def value_Unquote.j0 : Nat → ByteArray → Bool → Option (ByteArray × Bool)
 | 0, _, _ => none
 | k + 1, x0, x21 => if x21 = true then (some ((⟨#[]⟩ : ByteArray), false)) else (if 1 ≤ (wrap64 ((x0.size : Int) - 1)) then (if (wrap64 ((x0.size : Int) - 1)) ≤ (x0.size : Int) then ((strings_ReplaceAll.f (x0.extract 1 ((wrap64 ((x0.size : Int) - 1)) : Int).toNat) (⟨#[39, 39]⟩ : ByteArray) (⟨#[39]⟩ : ByteArray)).bind fun t164 => ((value_Quote.f t164).bind fun t165 => (if t165.toList = x0.toList then (some (t164, true)) else (some ((⟨#[]⟩ : ByteArray), false))))) else (none)) else (none))
def value_Unquote.f (k : Nat) (a0 : ByteArray) : Option (ByteArray × Bool) := if (a0.size : Int) < 2 then (value_Unquote.j0 k a0 true) else (if 0 < (a0.size : Int) then (if (bt a0 0) = 39 then (if 0 ≤ (wrap64 ((a0.size : Int) - 1)) then (if (wrap64 ((a0.size : Int) - 1)) < (a0.size : Int) then (value_Unquote.j0 k a0 ((bt a0 (wrap64 ((a0.size : Int) - 1))) != 39)) else (none)) else (none)) else (value_Unquote.j0 k a0 true)) else (none))
set_option maxHeartbeats 8000000 in
set_option maxRecDepth 100000 in
theorem value_Unquote.calls (k : Nat) (a0 : ByteArray) (r1 : ByteArray) (r2 : Bool) (w : World) (hG : Glob w) (h : value_Unquote.f k a0 = some (r1, r2)) :
  Calls Tryd.prog 61 #[.string a0] w fun e w' => e = .returned (.tuple #[.string r1, .bool r2]) ∧ Below w.heap.size w w' := by
 have HG := As.mk hG
 clear hG
 have HB := As.mk (Below.refl w.heap.size w)
 have H : (if (a0.size : Int) < 2 then (value_Unquote.j0 k a0 true) else (if 0 < (a0.size : Int) then (if (bt a0 0) = 39 then (if 0 ≤ (wrap64 ((a0.size : Int) - 1)) then (if (wrap64 ((a0.size : Int) - 1)) < (a0.size : Int) then (value_Unquote.j0 k a0 ((bt a0 (wrap64 ((a0.size : Int) - 1))) != 39)) else (none)) else (none)) else (value_Unquote.j0 k a0 true)) else (none))) = some (r1, r2) := h
 clear h
 have HC2 := As.mk H
 clear H
 go_enter Tryd.func61, Tryd.ntmps61
 go_upto_region 1 with (fail)
 go_cut [21] (fun v21 wc => ∃ (kq : Nat) (x21_1 : Bool), v21 = .bool x21_1 ∧ As (value_Unquote.j0 kq a0 x21_1 = some (r1, r2)) ∧ As (kq ≤ k) ∧ As (Below w.heap.size w wc))
 case first =>
  have H := HC2.out
  clear HC2
  by_cases c3 : (a0.size : Int) < 2
  ·
   rw [if_pos c3] at H
   have c3b0 : decide ((a0.size : Int) < 2) = true := decide_eq_true c3
   have c3b1 : decide (a0.size < 2) = true := decide_eq_true (by omega)
   clear c3
   (first | rw [c3b0] | (simp only [i64_w, i32_w]; rw [c3b0]) | skip)
   have H' := As.mk H
   clear H
   go_wp2
   go_meet
   case rel => exact ⟨_, (true), (by first | rfl | (simp; done) | (simp [*]; done)), H', ⟨by first | omega | exact Nat.le_refl _⟩, ⟨by repeat (first | (with_reducible first | exact HB.out | apply bwA | apply bwN | apply bwD) | exact HB.out)⟩⟩
  ·
   rw [if_neg c3] at H
   have c3b0 : decide ((a0.size : Int) < 2) = false := decide_eq_false c3
   have c3b1 : decide (a0.size < 2) = false := decide_eq_false (by omega)
   clear c3
   (first | rw [c3b0] | (simp only [i64_w, i32_w]; rw [c3b0]) | skip)
   replace H := ite_some H
   obtain ⟨c4, H⟩ := H
   have c4b0 : decide (0 < (a0.size : Int)) = true := decide_eq_true c4
   have c4b1 : decide (0 < a0.size) = true := decide_eq_true (by omega)
   clear c4
   by_cases c6 : (bt a0 0) = 39
   ·
    rw [if_pos c6] at H
    have c6b0 : ((bt a0 0) == 39) = true := beq_iff_eq.mpr c6
    have c6b1 : ((bt a0 0) != 39) = false := bne_eq_false_iff_eq.mpr c6
    clear c6
    obtain ⟨ji7, hji7⟩ : ∃ j_ : Int, (wrap64 ((a0.size : Int) - 1)) = j_ := ⟨_, rfl⟩
    replace H : (if 0 ≤ (ji7) then (if (ji7) < (a0.size : Int) then (value_Unquote.j0 k a0 ((bt a0 (ji7)) != 39)) else (none)) else (none)) = some (r1, r2) := by first | (rw [hji7] at H; exact H) | (simp only [hji7] at H ⊢; exact H)
    have hji7w : (IntKind.i64.wrap ((a0.size : Int) - 1)) = ji7 := (i64_w _).trans hji7
    replace H := ite_some H
    obtain ⟨c8, H⟩ := H
    have c8b0 : decide (0 ≤ (ji7)) = true := decide_eq_true c8
    clear c8
    replace H := ite_some H
    obtain ⟨c9, H⟩ := H
    have c9b0 : decide ((ji7) < (a0.size : Int)) = true := decide_eq_true c9
    clear c9
    have H' := As.mk H
    clear H
    have p5 : 0 ≤ (0 : Int) := (by omega)
    have q5 : 0 < a0.size := (by have : (0 : Int) < (a0.size : Int) := of_decide_eq_true (by first | (with_reducible assumption) | assumption); omega)
    have hx5 : ∀ h : 0 < a0.size, ((a0[0]'h).toNat : Int) = bt a0 0 := bt_at a0 0
    clear p5
    have qi5 : (0 < (a0.size : Int)) = True := eq_true (of_decide_eq_true (by first | (with_reducible assumption) | assumption))
    replace q5 := eq_true q5
    have p10 : 0 ≤ ((ji7) : Int) := of_decide_eq_true (by first | (with_reducible assumption) | assumption)
    have q10 : (ji7) < (a0.size : Int) := of_decide_eq_true (by first | (with_reducible assumption) | assumption)
    have hx10 := bt_at a0 (ji7)
    replace p10 := eq_true p10
    replace q10 := eq_true q10
    go_wp2
    go_meet
    case rel => exact ⟨_, (((bt a0 (ji7)) != 39)), (by first | rfl | (simp; done) | (simp only [← hji7] <;> (first | rfl | simp)) | (simp [*]; done)), H', ⟨by first | omega | exact Nat.le_refl _⟩, ⟨by repeat (first | (with_reducible first | exact HB.out | apply bwA | apply bwN | apply bwD) | exact HB.out)⟩⟩
   ·
    rw [if_neg c6] at H
    have c6b0 : ((bt a0 0) == 39) = false := beq_eq_false_iff_ne.mpr c6
    have c6b1 : ((bt a0 0) != 39) = true := bne_iff_ne.mpr c6
    have H' := As.mk H
    clear H
    have p5 : 0 ≤ (0 : Int) := (by omega)
    have q5 : 0 < a0.size := (by have : (0 : Int) < (a0.size : Int) := of_decide_eq_true (by first | (with_reducible assumption) | assumption); omega)
    have hx5 : ∀ h : 0 < a0.size, ((a0[0]'h).toNat : Int) = bt a0 0 := bt_at a0 0
    clear p5
    have qi5 : (0 < (a0.size : Int)) = True := eq_true (of_decide_eq_true (by first | (with_reducible assumption) | assumption))
    replace q5 := eq_true q5
    go_wp2
    go_meet
    case rel => exact ⟨_, (true), (by first | rfl | (simp; done) | (simp [*]; done)), H', ⟨by first | omega | exact Nat.le_refl _⟩, ⟨by repeat (first | (with_reducible first | exact HB.out | apply bwA | apply bwN | apply bwD) | exact HB.out)⟩⟩
 case rest =>
  clear HC2
  try clear p1
  try clear q1
  try clear hx1
  try clear p2
  try clear c3
  try clear c3b0
  try clear c3b1
  try clear c4
  try clear c4b0
  try clear c4b1
  try clear p5
  try clear q5
  try clear hx5
  try clear qi5
  try clear c6
  try clear c6b0
  try clear c6b1
  try clear p6
  try clear c8
  try clear c8b0
  try clear c9
  try clear c9b0
  try clear p10
  try clear q10
  try clear hx10
  try clear p10
  try clear p5
  try clear q10
  try clear q5
  obtain ⟨kq, x21_1, rfl, HA, HJ1, HB⟩ := hcut
  cases kq with
  | zero => exact absurd HA.out (by simp [value_Unquote.j0])
  | succ kj1 =>
   have H := HA.out
   clear HA
   simp only [value_Unquote.j0] at H
   by_cases c11 : x21_1 = true
   ·
    subst c11
    have H1 : (some ((⟨#[]⟩ : ByteArray), false)) = some (r1, r2) := by rw [if_pos rfl] at H; exact H
    clear H
    have H := H1
    clear H1
    simp only [Option.some.injEq, Prod.mk.injEq] at H
    obtain ⟨rfl, rfl⟩ := H
    go_wp2
    go_ret2
    exact ⟨by first | rfl | (simp [errW_none, errW_some] <;> rfl) | (simp [*, errW_none, errW_some] <;> rfl), by repeat (first | (with_reducible first | exact HB.out | apply bwA | apply bwN | apply bwD) | exact HB.out)⟩
   ·
    replace c11 := Bool.eq_false_iff.mpr c11
    subst c11
    have H1 : (if 1 ≤ (wrap64 ((a0.size : Int) - 1)) then (if (wrap64 ((a0.size : Int) - 1)) ≤ (a0.size : Int) then ((strings_ReplaceAll.f (a0.extract 1 ((wrap64 ((a0.size : Int) - 1)) : Int).toNat) (⟨#[39, 39]⟩ : ByteArray) (⟨#[39]⟩ : ByteArray)).bind fun t164 => ((value_Quote.f t164).bind fun t165 => (if t165.toList = a0.toList then (some (t164, true)) else (some ((⟨#[]⟩ : ByteArray), false))))) else (none)) else (none)) = some (r1, r2) := by rw [if_neg (show ¬ (false = true) by decide)] at H; exact H
    clear H
    have H := H1
    clear H1
    replace H := ite_some H
    obtain ⟨c12, H⟩ := H
    have c12b0 := eq_true c12
    have c12b1 : decide (1 ≤ (wrap64 ((a0.size : Int) - 1))) = true := decide_eq_true c12
    clear c12
    replace H := ite_some H
    obtain ⟨c13, H⟩ := H
    have c13b0 := eq_true c13
    have c13b1 : decide ((wrap64 ((a0.size : Int) - 1)) ≤ (a0.size : Int)) = true := decide_eq_true c13
    clear c13
    replace H := Option.bind_eq_some_iff.mp H
    obtain ⟨t164, A140, H⟩ := H
    replace H : ((value_Quote.f t164).bind fun t165 => (if t165.toList = a0.toList then (some (t164, true)) else (some ((⟨#[]⟩ : ByteArray), false)))) = some (r1, r2) := H
    have A14 := As.mk A140
    clear A140
    replace H := Option.bind_eq_some_iff.mp H
    obtain ⟨t165, A150, H⟩ := H
    replace H : (if t165.toList = a0.toList then (some (t164, true)) else (some ((⟨#[]⟩ : ByteArray), false))) = some (r1, r2) := H
    have A15 := As.mk A150
    clear A150
    by_cases c16 : t165.toList = a0.toList
    ·
     rw [if_pos c16] at H
     have c16b0 : (t165.toList == a0.toList) = true := beq_iff_eq.mpr c16
     have c16b1 : (t165.toList != a0.toList) = false := bne_eq_false_iff_eq.mpr c16
     clear c16
     simp only [Option.some.injEq, Prod.mk.injEq] at H
     obtain ⟨rfl, rfl⟩ := H
     go_wp2_with (first | ((with_reducible refine gaC (f := 78) rfl ?_); refine goesL_ (some 28) rfl rfl Tryd.func78 (by kernel_rfl) rfl #[.string (a0.extract 1 ((wrap64 ((a0.size : Int) - 1)) : Int).toNat), .string (⟨#[39, 39]⟩ : ByteArray), .string (⟨#[39]⟩ : ByteArray)] rfl (by simp only [List.map_toArray, List.map_cons, List.map_nil]; try rfl) ?_; (with_reducible refine (strings_ReplaceAll.calls (a0.extract 1 ((wrap64 ((a0.size : Int) - 1)) : Int).toNat) (⟨#[39, 39]⟩ : ByteArray) (⟨#[39]⟩ : ByteArray) t164 _ ?side1 A14.out).mono ?_); (case side1 => exact Glob.below HG.out (by repeat (first | (with_reducible first | exact HB.out | apply bwA | apply bwN | apply bwD) | exact HB.out)) rfl); rintro e w17 ⟨rfl, hb⟩; refine ⟨_, rfl, ?_⟩; have n0_ := As.mk (bwS (by repeat (first | (with_reducible first | exact HB.out | apply bwA | apply bwN | apply bwD) | exact HB.out)) hb); clear HB; have HB := n0_; clear n0_; (try clear hb); (try clear hb2); (try clear hk); (try clear hi)) | ((with_reducible refine gaC (f := 79) rfl ?_); refine goesL_ (some 30) rfl rfl Tryd.func79 (by kernel_rfl) rfl #[.string t164] rfl (by simp only [List.map_toArray, List.map_cons, List.map_nil]; try rfl) ?_; (with_reducible refine (value_Quote.calls t164 t165 _ ?side1 A15.out).mono ?_); (case side1 => exact Glob.below HG.out (by repeat (first | (with_reducible first | exact HB.out | apply bwA | apply bwN | apply bwD) | exact HB.out)) rfl); rintro e w18 ⟨rfl, hb⟩; refine ⟨_, rfl, ?_⟩; have n0_ := As.mk (bwS (by repeat (first | (with_reducible first | exact HB.out | apply bwA | apply bwN | apply bwD) | exact HB.out)) hb); clear HB; have HB := n0_; clear n0_; (try clear hb); (try clear hb2); (try clear hk); (try clear hi)))
     go_ret2
     exact ⟨by first | rfl | (simp [errW_none, errW_some] <;> rfl) | (simp [*, errW_none, errW_some] <;> rfl), by repeat (first | (with_reducible first | exact HB.out | apply bwA | apply bwN | apply bwD) | exact HB.out)⟩
    ·
     rw [if_neg c16] at H
     have c16b0 : (t165.toList == a0.toList) = false := beq_eq_false_iff_ne.mpr c16
     have c16b1 : (t165.toList != a0.toList) = true := bne_iff_ne.mpr c16
     simp only [Option.some.injEq, Prod.mk.injEq] at H
     obtain ⟨rfl, rfl⟩ := H
     go_wp2_with (first | ((with_reducible refine gaC (f := 78) rfl ?_); refine goesL_ (some 28) rfl rfl Tryd.func78 (by kernel_rfl) rfl #[.string (a0.extract 1 ((wrap64 ((a0.size : Int) - 1)) : Int).toNat), .string (⟨#[39, 39]⟩ : ByteArray), .string (⟨#[39]⟩ : ByteArray)] rfl (by simp only [List.map_toArray, List.map_cons, List.map_nil]; try rfl) ?_; (with_reducible refine (strings_ReplaceAll.calls (a0.extract 1 ((wrap64 ((a0.size : Int) - 1)) : Int).toNat) (⟨#[39, 39]⟩ : ByteArray) (⟨#[39]⟩ : ByteArray) t164 _ ?side1 A14.out).mono ?_); (case side1 => exact Glob.below HG.out (by repeat (first | (with_reducible first | exact HB.out | apply bwA | apply bwN | apply bwD) | exact HB.out)) rfl); rintro e w19 ⟨rfl, hb⟩; refine ⟨_, rfl, ?_⟩; have n0_ := As.mk (bwS (by repeat (first | (with_reducible first | exact HB.out | apply bwA | apply bwN | apply bwD) | exact HB.out)) hb); clear HB; have HB := n0_; clear n0_; (try clear hb); (try clear hb2); (try clear hk); (try clear hi)) | ((with_reducible refine gaC (f := 79) rfl ?_); refine goesL_ (some 30) rfl rfl Tryd.func79 (by kernel_rfl) rfl #[.string t164] rfl (by simp only [List.map_toArray, List.map_cons, List.map_nil]; try rfl) ?_; (with_reducible refine (value_Quote.calls t164 t165 _ ?side1 A15.out).mono ?_); (case side1 => exact Glob.below HG.out (by repeat (first | (with_reducible first | exact HB.out | apply bwA | apply bwN | apply bwD) | exact HB.out)) rfl); rintro e w20 ⟨rfl, hb⟩; refine ⟨_, rfl, ?_⟩; have n0_ := As.mk (bwS (by repeat (first | (with_reducible first | exact HB.out | apply bwA | apply bwN | apply bwD) | exact HB.out)) hb); clear HB; have HB := n0_; clear n0_; (try clear hb); (try clear hb2); (try clear hk); (try clear hi)))
     go_ret2
     exact ⟨by first | rfl | (simp [errW_none, errW_some] <;> rfl) | (simp [*, errW_none, errW_some] <;> rfl), by repeat (first | (with_reducible first | exact HB.out | apply bwA | apply bwN | apply bwD) | exact HB.out)⟩
end Go.Proofs.YtpijgeijflbmhaaDoor.P

/- What lex.Word comes to: whether a text is one of the language's words, where the package's table holds them; no other conditions. -/
namespace Go.Proofs.YtpijgeijflbmhaaDoor.P
open Go.RowKit Go.Proofs.YtpijgeijflbmhaaDoorW.PrintWords Go.Proofs.YtpijgeijflbmhaaDoorW.PrintLast Go.Proofs.YtpijgeijflbmhaaDoorW.PrintMore

def lex_Word.f (a0 : ByteArray) : Option Bool := some (Lib.containsS wordsL a0)

theorem lex_Word.calls (a0 : ByteArray) (r : Bool) (w : World) (hG : Glob w) (h : lex_Word.f a0 = some r) :
    Calls Tryd.prog 57 #[.string a0] w fun e w' => e = .returned (.bool r) ∧ Drawn0 w w' := by
  obtain rfl := Option.some.inj h
  have hw : ∀ j, j < wordsL.length → w.cell? ⟨0, 0 + j, none⟩ = some (.string (wordsL.getD j ByteArray.empty)) := fun j hj => hG.word j hj
  have hc := Tryd.slices_Contains_string 0 0 9 9 wordsL a0 w (Nat.le_refl 9) (by omega) hw
  have HC := As.mk hc
  clear hc hw hG
  obtain ⟨z, hz⟩ : ∃ z, z = Lib.containsS (wordsL.take 9) a0 := ⟨_, rfl⟩
  have e : Lib.containsS wordsL a0 = z := by rw [hz]; rfl
  rw [e]
  rw [← hz] at HC
  clear hz e
  go_enter Tryd.func57, Tryd.ntmps57
  go_wp2_with (go_at_call 72; refine HC.out.mono ?_; rintro e w' ⟨rfl, rfl⟩)
  go_ret
  exact ⟨rfl, Drawn0.refl _⟩

theorem left_quiet (g : Nat) (s : ByteArray) (a : Int) (w : World) (hb : w.heap[g]? = some (.cells #[.string s, .int .i64 a] 105 (0, 0))) (h0 : 0 ≤ a) (h1 : a ≤ s.size) (hs : s.size ≤ 140737488351232) :
    Calls Tryd.prog 39 #[.pointer (some ⟨g, 0, none⟩)] w fun e w' => e = .returned (.int .i64 ((s.size : Int) - a)) ∧ ∃ m, w' = w.drewN m := by
  have hc0 := cellS105_0 hb
  have hc1 := cellS105_1 hb
  clear hb
  go_enter Tryd.func39, Tryd.ntmps39
  go_wp2
  repeat (go_quiet (fail); try go_wp2)
  go_ret
  refine ⟨?_, _, rfl⟩
  first | rfl | (congr 2; unfold IntKind.wrap wrap64 at *; simp only [IntKind.bits, IntKind.signed] at *; omega)

def text_Reader_Two.f (s0_0 : ByteArray) (s0_1 : Int) (a1 : ByteArray) : Option (Bool × ByteArray × Int) :=
  if 0 ≤ s0_1 ∧ s0_1 ≤ (s0_0.size : Int) ∧ s0_0.size ≤ 140737488351232 ∧ a1.size = 2 then
    (if (s0_0.size : Int) - s0_1 < 2 then some (false, s0_0, s0_1)
     else if (s0_0.extract s0_1.toNat (s0_1 + 2).toNat).toList = a1.toList then some (true, s0_0, s0_1 + 2) else some (false, s0_0, s0_1))
  else none

theorem text_Reader_Two.calls (g : Nat) (s0_0 : ByteArray) (s0_1 : Int) (a1 : ByteArray) (r1 : Bool) (r2 : ByteArray) (r3 : Int) (w0 w : World) (hI : IsS105 w0 w g s0_0 s0_1) (hB : Below w0.heap.size w0 w) (h : text_Reader_Two.f s0_0 s0_1 a1 = some (r1, r2, r3)) :
    Calls Tryd.prog 80 #[.pointer (some ⟨g, 0, none⟩), .string a1] w fun e w' => e = .returned (.bool r1) ∧ IsS105 w0 w' g r2 r3 ∧ Below w0.heap.size w0 w' ∧ KeepBut w w' g none := by
  unfold text_Reader_Two.f at h
  split at h
  · rename_i hc
    obtain ⟨h0, h1, h2, h3⟩ := hc
    have HL := As.mk (left_quiet g s0_0 s0_1)
    have HI0 := As.mk hI
    have HB := As.mk hB
    have HK := As.mk (KeepBut.refl w g none)
    have hcell0 := cellS105_0 hI.1
    have hcell1 := cellS105_1 hI.1
    have hf0 := blk_frozen hI.1 0
    have hf1 := blk_frozen hI.1 1
    clear hI hB
    have ha : ((a1.size : Int) != 2) = false := by rw [h3]; rfl
    have H3 := As.mk h3
    clear h3
    split at h
    · rename_i hlt
      simp only [Option.some.injEq, Prod.mk.injEq] at h
      obtain ⟨rfl, rfl, rfl⟩ := h
      have hl : decide ((s0_0.size : Int) - s0_1 < 2) = true := decide_eq_true hlt
      go_enter Tryd.func80, Tryd.ntmps80
      go_wp2_with fail
      go_quiet ((go_at_call 39; exact Calls.quiet_of (HL.out _ HI0.out.1 h0 h1 h2)))
      go_wp2
      go_ret
      exact ⟨rfl, HI0.out, by repeat (first | exact HB.out | apply bwN), by repeat (first | exact HK.out | apply kpN)⟩
    · rename_i hge
      have hl : decide ((s0_0.size : Int) - s0_1 < 2) = false := decide_eq_false hge
      have hb1 : s0_1 + 2 ≤ (s0_0.size : Int) := by omega
      have hw : IntKind.i64.wrap (s0_1 + 2) = s0_1 + 2 := IntWalk.i64_in _ (by omega)
      have hz0 : 0 ≤ s0_1 + 2 := by omega
      split at h
      · rename_i hyes
        simp only [Option.some.injEq, Prod.mk.injEq] at h
        obtain ⟨rfl, rfl, rfl⟩ := h
        have hy : ((s0_0.extract s0_1.toNat (s0_1 + 2).toNat).toList != a1.toList) = false := by simp [hyes]
        have hy2 : ((s0_0.extract s0_1.toNat (s0_1 + 2).toNat).toList == a1.toList) = true := by simp [hyes]
        clear hyes
        go_enter Tryd.func80, Tryd.ntmps80
        go_wp2_with fail
        go_quiet ((go_at_call 39; exact Calls.quiet_of (HL.out _ HI0.out.1 h0 h1 h2)))
        go_wp2
        go_ret
        exact ⟨rfl, by repeat (first | exact HI0.out | apply IsS105.drewN | apply IsS105.set_1), by repeat (first | exact HB.out | apply bwN | refine bwC ?_ (IsS105.ge HI0.out)), by repeat (first | exact HK.out | apply kpN | apply KeepBut.set_)⟩
      · rename_i hno
        simp only [Option.some.injEq, Prod.mk.injEq] at h
        obtain ⟨rfl, rfl, rfl⟩ := h
        have hy : ((s0_0.extract s0_1.toNat (s0_1 + 2).toNat).toList != a1.toList) = true := by simp [hno]
        have hy2 : ((s0_0.extract s0_1.toNat (s0_1 + 2).toNat).toList == a1.toList) = false := by simp [hno]
        clear hno
        go_enter Tryd.func80, Tryd.ntmps80
        go_wp2_with fail
        go_quiet ((go_at_call 39; exact Calls.quiet_of (HL.out _ HI0.out.1 h0 h1 h2)))
        go_wp2
        go_ret
        exact ⟨rfl, HI0.out, by repeat (first | exact HB.out | apply bwN), by repeat (first | exact HK.out | apply kpN)⟩
  · cases h

/-- What is taken where none of some signs stands next. -/
def signFrom : List ByteArray → ByteArray → Int → Option (ByteArray × ByteArray × Int)
  | [], s, a => (text_Reader_Byte.f s a).bind fun b => some (strOfNums [b.1], b.2.1, b.2.2)
  | t :: ts, s, a => (text_Reader_Two.f s a t).bind fun b => if b.1 = true then some (t, b.2.1, b.2.2) else signFrom ts b.2.1 b.2.2

def lex_sign.f (s0_0 : ByteArray) (s0_1 : Int) : Option (ByteArray × ByteArray × Int) := signFrom twosL s0_0 s0_1

set_option maxHeartbeats 2000000 in
set_option maxRecDepth 100000 in
theorem lex_sign.calls (g : Nat) (s0_0 : ByteArray) (s0_1 : Int) (r1 : ByteArray) (r2 : ByteArray) (r3 : Int) (w0 w : World) (hI : IsS105 w0 w g s0_0 s0_1) (hB : Below w0.heap.size w0 w) (hG : Glob w0) (h : lex_sign.f s0_0 s0_1 = some (r1, r2, r3)) :
    Calls Tryd.prog 62 #[.pointer (some ⟨g, 0, none⟩)] w fun e w' => e = .returned (.string r1) ∧ IsS105 w0 w' g r2 r3 ∧ Below w0.heap.size w0 w' ∧ KeepBut w w' g none := by
  have HI0 := As.mk hI
  have HK := As.mk (KeepBut.refl w g none)
  have HB := As.mk hB
  have HH := As.mk h
  obtain ⟨t1, fr1, h1⟩ := (hG.below hB rfl).twos
  have H1 := As.mk h1
  clear hI hB h h1 hG
  have HI0 := HI0
  have HB0 := HB
  have HK0 := HK
  clear HB HK
  have i0 : ∀ w, (Instr.index 127 (.agg #[.string ⟨#[33, 61]⟩, .string ⟨#[60, 61]⟩, .string ⟨#[62, 61]⟩]) (.int .i64 0)).run Tryd.prog w = .ok (.string ⟨#[33, 61]⟩) w := fun _ => by kernel_rfl
  have i1 : ∀ w, (Instr.index 127 (.agg #[.string ⟨#[33, 61]⟩, .string ⟨#[60, 61]⟩, .string ⟨#[62, 61]⟩]) (.int .i64 1)).run Tryd.prog w = .ok (.string ⟨#[60, 61]⟩) w := fun _ => by kernel_rfl
  have i2 : ∀ w, (Instr.index 127 (.agg #[.string ⟨#[33, 61]⟩, .string ⟨#[60, 61]⟩, .string ⟨#[62, 61]⟩]) (.int .i64 2)).run Tryd.prog w = .ok (.string ⟨#[62, 61]⟩) w := fun _ => by kernel_rfl
  obtain ⟨⟨b1, s1, a1⟩, hA1, H⟩ := Option.bind_eq_some_iff.mp HH.out
  have A1 := As.mk hA1
  clear HH hA1
  cases b1 with
  | true =>
    simp only [if_true, Option.some.injEq, Prod.mk.injEq] at H
    obtain ⟨rfl, rfl, rfl⟩ := H
    go_enter Tryd.func62, Tryd.ntmps62
    go_wp2_with (with_reducible refine wpList_load_row rfl 127 (.global 1) rfl 1 rfl t1 _ fr1 _ H1.out Tryd.underlying127 rfl (by kernel_rfl) ?_)
    refine wp_loop_rounds 4 ?_
    rw [rounds_succ]
    go_wp2_with (go_at_call 80; (with_reducible refine (text_Reader_Two.calls g _ _ ⟨#[33, 61]⟩ true s1 a1 w0 _ ?s1_0 ?s2_0 A1.out).mono ?_); (case s1_0 => repeat (first | exact HI0.out | apply IsS105.drewN | apply IsS105.drew)); (case s2_0 => repeat (first | exact HB0.out | apply bwN | apply bwD)); rintro e w1 ⟨rfl, hi, hb, hk⟩; have HI1 := As.mk hi; have HB1 := As.mk hb; have HK1 := As.mk (KeepBut.trans (by repeat (first | exact HK0.out | apply kpN | apply kpD)) hk (.inl rfl)); clear hi hb hk)
    go_ret
    exact ⟨rfl, by repeat (first | exact HI1.out | apply IsS105.drewN | apply IsS105.drew), by repeat (first | exact HB1.out | apply bwN | apply bwD), by repeat (first | exact HK1.out | apply kpN | apply kpD)⟩
  | false =>
    obtain ⟨⟨b2, s2, a2⟩, hA2, H⟩ := Option.bind_eq_some_iff.mp H
    have A2 := As.mk hA2
    clear hA2
    cases b2 with
    | true =>
      simp only [if_true, Option.some.injEq, Prod.mk.injEq] at H
      obtain ⟨rfl, rfl, rfl⟩ := H
      go_enter Tryd.func62, Tryd.ntmps62
      go_wp2_with (with_reducible refine wpList_load_row rfl 127 (.global 1) rfl 1 rfl t1 _ fr1 _ H1.out Tryd.underlying127 rfl (by kernel_rfl) ?_)
      refine wp_loop_rounds 4 ?_
      rw [rounds_succ]
      go_wp2_with (go_at_call 80; (with_reducible refine (text_Reader_Two.calls g _ _ ⟨#[33, 61]⟩ false s1 a1 w0 _ ?s1_0 ?s2_0 A1.out).mono ?_); (case s1_0 => repeat (first | exact HI0.out | apply IsS105.drewN | apply IsS105.drew)); (case s2_0 => repeat (first | exact HB0.out | apply bwN | apply bwD)); rintro e w1 ⟨rfl, hi, hb, hk⟩; have HI1 := As.mk hi; have HB1 := As.mk hb; have HK1 := As.mk (KeepBut.trans (by repeat (first | exact HK0.out | apply kpN | apply kpD)) hk (.inl rfl)); clear hi hb hk)
      rw [rounds_succ]
      go_wp2_with (go_at_call 80; (with_reducible refine (text_Reader_Two.calls g _ _ ⟨#[60, 61]⟩ true s2 a2 w0 _ ?s1_1 ?s2_1 A2.out).mono ?_); (case s1_1 => repeat (first | exact HI1.out | apply IsS105.drewN | apply IsS105.drew)); (case s2_1 => repeat (first | exact HB1.out | apply bwN | apply bwD)); rintro e w2 ⟨rfl, hi, hb, hk⟩; have HI2 := As.mk hi; have HB2 := As.mk hb; have HK2 := As.mk (KeepBut.trans (by repeat (first | exact HK1.out | apply kpN | apply kpD)) hk (.inl rfl)); clear hi hb hk)
      go_ret
      exact ⟨rfl, by repeat (first | exact HI2.out | apply IsS105.drewN | apply IsS105.drew), by repeat (first | exact HB2.out | apply bwN | apply bwD), by repeat (first | exact HK2.out | apply kpN | apply kpD)⟩
    | false =>
      obtain ⟨⟨b3, s3, a3⟩, hA3, H⟩ := Option.bind_eq_some_iff.mp H
      have A3 := As.mk hA3
      clear hA3
      cases b3 with
      | true =>
        simp only [if_true, Option.some.injEq, Prod.mk.injEq] at H
        obtain ⟨rfl, rfl, rfl⟩ := H
        go_enter Tryd.func62, Tryd.ntmps62
        go_wp2_with (with_reducible refine wpList_load_row rfl 127 (.global 1) rfl 1 rfl t1 _ fr1 _ H1.out Tryd.underlying127 rfl (by kernel_rfl) ?_)
        refine wp_loop_rounds 4 ?_
        rw [rounds_succ]
        go_wp2_with (go_at_call 80; (with_reducible refine (text_Reader_Two.calls g _ _ ⟨#[33, 61]⟩ false s1 a1 w0 _ ?s1_0 ?s2_0 A1.out).mono ?_); (case s1_0 => repeat (first | exact HI0.out | apply IsS105.drewN | apply IsS105.drew)); (case s2_0 => repeat (first | exact HB0.out | apply bwN | apply bwD)); rintro e w1 ⟨rfl, hi, hb, hk⟩; have HI1 := As.mk hi; have HB1 := As.mk hb; have HK1 := As.mk (KeepBut.trans (by repeat (first | exact HK0.out | apply kpN | apply kpD)) hk (.inl rfl)); clear hi hb hk)
        rw [rounds_succ]
        go_wp2_with (go_at_call 80; (with_reducible refine (text_Reader_Two.calls g _ _ ⟨#[60, 61]⟩ false s2 a2 w0 _ ?s1_1 ?s2_1 A2.out).mono ?_); (case s1_1 => repeat (first | exact HI1.out | apply IsS105.drewN | apply IsS105.drew)); (case s2_1 => repeat (first | exact HB1.out | apply bwN | apply bwD)); rintro e w2 ⟨rfl, hi, hb, hk⟩; have HI2 := As.mk hi; have HB2 := As.mk hb; have HK2 := As.mk (KeepBut.trans (by repeat (first | exact HK1.out | apply kpN | apply kpD)) hk (.inl rfl)); clear hi hb hk)
        rw [rounds_succ]
        go_wp2_with (go_at_call 80; (with_reducible refine (text_Reader_Two.calls g _ _ ⟨#[62, 61]⟩ true s3 a3 w0 _ ?s1_2 ?s2_2 A3.out).mono ?_); (case s1_2 => repeat (first | exact HI2.out | apply IsS105.drewN | apply IsS105.drew)); (case s2_2 => repeat (first | exact HB2.out | apply bwN | apply bwD)); rintro e w3 ⟨rfl, hi, hb, hk⟩; have HI3 := As.mk hi; have HB3 := As.mk hb; have HK3 := As.mk (KeepBut.trans (by repeat (first | exact HK2.out | apply kpN | apply kpD)) hk (.inl rfl)); clear hi hb hk)
        go_ret
        exact ⟨rfl, by repeat (first | exact HI3.out | apply IsS105.drewN | apply IsS105.drew), by repeat (first | exact HB3.out | apply bwN | apply bwD), by repeat (first | exact HK3.out | apply kpN | apply kpD)⟩
      | false =>
        obtain ⟨⟨c4, s4, a4⟩, hA4, H⟩ := Option.bind_eq_some_iff.mp H
        have A4 := As.mk hA4
        clear hA4
        simp only [Option.some.injEq, Prod.mk.injEq] at H
        obtain ⟨rfl, rfl, rfl⟩ := H
        go_enter Tryd.func62, Tryd.ntmps62
        go_wp2_with (with_reducible refine wpList_load_row rfl 127 (.global 1) rfl 1 rfl t1 _ fr1 _ H1.out Tryd.underlying127 rfl (by kernel_rfl) ?_)
        refine wp_loop_rounds 4 ?_
        rw [rounds_succ]
        go_wp2_with (go_at_call 80; (with_reducible refine (text_Reader_Two.calls g _ _ ⟨#[33, 61]⟩ false s1 a1 w0 _ ?s1_0 ?s2_0 A1.out).mono ?_); (case s1_0 => repeat (first | exact HI0.out | apply IsS105.drewN | apply IsS105.drew)); (case s2_0 => repeat (first | exact HB0.out | apply bwN | apply bwD)); rintro e w1 ⟨rfl, hi, hb, hk⟩; have HI1 := As.mk hi; have HB1 := As.mk hb; have HK1 := As.mk (KeepBut.trans (by repeat (first | exact HK0.out | apply kpN | apply kpD)) hk (.inl rfl)); clear hi hb hk)
        rw [rounds_succ]
        go_wp2_with (go_at_call 80; (with_reducible refine (text_Reader_Two.calls g _ _ ⟨#[60, 61]⟩ false s2 a2 w0 _ ?s1_1 ?s2_1 A2.out).mono ?_); (case s1_1 => repeat (first | exact HI1.out | apply IsS105.drewN | apply IsS105.drew)); (case s2_1 => repeat (first | exact HB1.out | apply bwN | apply bwD)); rintro e w2 ⟨rfl, hi, hb, hk⟩; have HI2 := As.mk hi; have HB2 := As.mk hb; have HK2 := As.mk (KeepBut.trans (by repeat (first | exact HK1.out | apply kpN | apply kpD)) hk (.inl rfl)); clear hi hb hk)
        rw [rounds_succ]
        go_wp2_with (go_at_call 80; (with_reducible refine (text_Reader_Two.calls g _ _ ⟨#[62, 61]⟩ false s3 a3 w0 _ ?s1_2 ?s2_2 A3.out).mono ?_); (case s1_2 => repeat (first | exact HI2.out | apply IsS105.drewN | apply IsS105.drew)); (case s2_2 => repeat (first | exact HB2.out | apply bwN | apply bwD)); rintro e w3 ⟨rfl, hi, hb, hk⟩; have HI3 := As.mk hi; have HB3 := As.mk hb; have HK3 := As.mk (KeepBut.trans (by repeat (first | exact HK2.out | apply kpN | apply kpD)) hk (.inl rfl)); clear hi hb hk)
        rw [rounds_succ]
        go_wp2_with (first | (go_at_call 81; (with_reducible refine (text_Reader_Byte.calls g _ _ c4 s4 a4 w0 _ ?s1_3 ?s2_3 A4.out).mono ?_); (case s1_3 => repeat (first | exact HI3.out | apply IsS105.drewN | apply IsS105.drew)); (case s2_3 => repeat (first | exact HB3.out | apply bwN | apply bwD)); rintro e w4 ⟨rfl, hi, hb, hk⟩; have HI4 := As.mk hi; have HB4 := As.mk hb; have HK4 := As.mk (KeepBut.trans (by repeat (first | exact HK3.out | apply kpN | apply kpD)) hk (.inl rfl)); clear hi hb hk) | ((with_reducible refine gate_dst (N := 16) rfl ?_); refine Kd.R_lit (Kd.int .u8) _ 5 ?hg (N := 16) ?hd (xs := ([c4] : List Int)) (inner := [.int .u8 c4]) (ok := fun _ => True) (okp := fun _ => True) ?hr ?hp (fun _ hk => hk) trivial (Below.refl _ _) (Nat.le_refl _) (by simp) ?_; (case hd => rfl); (case hg => rfl); (case hr => first | (go_simp; done) | (go_simp; rfl)); (case hp => exact (Reps.one (show Kd.M (Kd.int .u8) _ _ _ c4 [.int .u8 c4] from rfl) (Reps.none _ _))); intro v5 w5 ho5 hb5 hg5 hn5; clear hg5 hn5; have HB5 := As.mk (bwS (by repeat (first | exact HB4.out | apply bwN | apply bwD | apply bwA)) hb5); have HI5 := As.mk (IsS105.below (by repeat (first | exact HI4.out | apply IsS105.drewN | apply IsS105.drew | apply IsS105.alloc)) hb5); have HK5 := As.mk (KeepBut.trans (by repeat (first | exact HK4.out | apply kpN | apply kpD | apply kpA)) (KeepBut.of_below hb5 g none) (.inl rfl)); have HO5 := As.mk ho5; clear ho5 hb5; have hcv5 := own_string (P := Tryd.prog) Tryd.underlying103 Tryd.underlying5 Tryd.underlying9 (Kd.own_of_R HO5.out)))
        go_ret
        exact ⟨rfl, by repeat (first | exact HI5.out | apply IsS105.drewN | apply IsS105.drew | apply IsS105.alloc), by repeat (first | exact HB5.out | apply bwN | apply bwD | apply bwA), by repeat (first | exact HK5.out | apply kpN | apply kpD | apply kpA)⟩

end Go.Proofs.YtpijgeijflbmhaaDoor.P

