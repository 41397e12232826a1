/- Go functions of the given program come to what plain Lean functions say: walks, printed by a program of this session's (after the kit's print); no conditions beyond each theorem's own. -/
import Derived.Test.YtpijgeijflbmhaaDoorC1
import Derived.Test.YtpijgeijflbmhaaDoorC8
namespace Go.Proofs.YtpijgeijflbmhaaDoor.P
open Go.RowKit Go.Proofs.YtpijgeijflbmhaaDoorW.PrintWords Go.Proofs.YtpijgeijflbmhaaDoorW.PrintLast Go.Proofs.YtpijgeijflbmhaaDoorW.PrintMore
attribute [local go_sem] max2_int min2_int max_two min_two max_three min_three max_four min_four   -- for this text's walks alone
set_option linter.unusedVariables false
set_option linter.unusedSimpArgs false

/-! ### lamplighterref11_Truth: function 9 -/
mutual
def lamplighterref11_Truth.j0 : Nat → List Int → Int → Int → Int → Option ((List (S53)) × Int)
 | 0, _, _, _, _ => none
 | k + 1, x0, x1, x2, x8 => if (Int.tmod x8 7) = 6 then (some ((([(⟨1, (⟨3, 0, (⟨#[]⟩ : ByteArray), decide ((Go.bits .and .i64 (x8 / 16) 1) > 0)⟩ : S51), (⟨#[]⟩ : ByteArray), (⟨#[]⟩ : ByteArray)⟩ : S53)] : List (S53))), wrap64 (x1 + 1))) else (if (Int.tmod x8 7) = 5 then ((some (([(⟨#[97]⟩ : ByteArray), (⟨#[98]⟩ : ByteArray), (⟨#[99]⟩ : ByteArray)] : List ByteArray) : List ByteArray)).bind fun y258 => (if 0 ≤ (Int.tmod (x8 / 16) 3) then (if (Int.tmod (x8 / 16) 3) < (y258.length : Int) then ((some (([(⟨#[117]⟩ : ByteArray), (⟨#[118]⟩ : ByteArray), (⟨#[105, 116, 39, 115]⟩ : ByteArray)] : List ByteArray) : List ByteArray)).bind fun y262 => (if 0 ≤ (Int.tmod (x8 / 64) 3) then (if (Int.tmod (x8 / 64) 3) < (y262.length : Int) then (some ((([(⟨2, (⟨0, 0, (⟨#[]⟩ : ByteArray), false⟩ : S51), rdOf ByteArray.empty y258 (Int.tmod (x8 / 16) 3), (⟨#[115]⟩ : ByteArray)⟩ : S53), (⟨1, (⟨2, 0, rdOf ByteArray.empty y262 (Int.tmod (x8 / 64) 3), false⟩ : S51), (⟨#[]⟩ : ByteArray), (⟨#[]⟩ : ByteArray)⟩ : S53), (⟨wrap64 (7 + (Int.tmod (x8 / 256) 6)), (⟨0, 0, (⟨#[]⟩ : ByteArray), false⟩ : S51), (⟨#[]⟩ : ByteArray), (⟨#[]⟩ : ByteArray)⟩ : S53)] : List (S53))), wrap64 (x1 + 1))) else (none)) else (none))) else (none)) else (none))) else (if x2 = 0 then (lamplighterref11_Truth.j1 k x0 (wrap64 (x1 + 1)) x2 x8 true) else (lamplighterref11_Truth.j1 k x0 (wrap64 (x1 + 1)) x2 x8 (decide ((Int.tmod x8 7) < 2)))))
def lamplighterref11_Truth.j1 : Nat → List Int → Int → Int → Int → Bool → Option ((List (S53)) × Int)
 | 0, _, _, _, _, _ => none
 | k + 1, x0, x1, x2, x8, x68 => if x68 = true then ((lamplighterref11_Number.f k x0 x1 (mn x2 2)).bind fun bt269 => ((lamplighterref11_Number.f k x0 bt269.2 (mn x2 2)).bind fun bt273 => (if bt269.1.length + bt273.1.length < 1759218604441 then ((some (bt269.1 ++ bt273.1 : List (S53))).bind fun y277 => (if y277.length < 1759218604441 then (some ((y277 ++ [(⟨wrap64 (7 + (Int.tmod (x8 / 16) 6)), (⟨0, 0, (⟨#[]⟩ : ByteArray), false⟩ : S51), (⟨#[]⟩ : ByteArray), (⟨#[]⟩ : ByteArray)⟩ : S53)]), bt273.2)) else (none))) else (none)))) else (if (Int.tmod x8 7) = 2 then ((lamplighterref11_Truth.f k x0 x1 (wrap64 (x2 - 1))).bind fun bt283 => (if bt283.1.length < 1759218604441 then (some ((bt283.1 ++ [(⟨13, (⟨0, 0, (⟨#[]⟩ : ByteArray), false⟩ : S51), (⟨#[]⟩ : ByteArray), (⟨#[]⟩ : ByteArray)⟩ : S53)]), bt283.2)) else (none))) else ((lamplighterref11_Truth.f k x0 x1 (wrap64 (x2 - 1))).bind fun bt290 => ((lamplighterref11_Truth.f k x0 bt290.2 (wrap64 (x2 - 1))).bind fun bt294 => (if bt290.1.length + bt294.1.length < 1759218604441 then ((some (bt290.1 ++ bt294.1 : List (S53))).bind fun y298 => (if y298.length < 1759218604441 then (some ((y298 ++ [(⟨wrap64 (14 + (Go.bits .and .i64 (x8 / 16) 1)), (⟨0, 0, (⟨#[]⟩ : ByteArray), false⟩ : S51), (⟨#[]⟩ : ByteArray), (⟨#[]⟩ : ByteArray)⟩ : S53)]), bt294.2)) else (none))) else (none)))))
def lamplighterref11_Truth.f : Nat → List Int → Int → Int → Option ((List (S53)) × Int)
 | 0, _, _, _ => none
 | k + 1, l0, a1, a2 => if a1 < (l0.length : Int) then (if 0 ≤ a1 then (lamplighterref11_Truth.j0 k l0 a1 a2 (Go.bits .and .i64 (rd l0 a1) 65535)) else (none)) else (lamplighterref11_Truth.j0 k l0 a1 a2 0)
end
def lamplighterref11_Truth.T8 : Bool × List (List Nat × List Nat) := (true, [([], []), ([], []), ([1], [1]), ([2], [2]), ([0, 3], [0, 3]), ([4], [4]), ([5], [5]), ([], []), ([], []), ([8], [8]), ([9], [9]), ([7, 10], [7, 10]), ([11], [11]), ([12], [12]), ([13], [13]), ([], []), ([15], [15]), ([16], [16]), ([17], [17]), ([18], [18]), ([6, 14, 19], [6, 14, 19]), ([], []), ([20, 0, 1, 2, 3, 4, 5, 6, 7, 8, 9, 10, 11, 12, 13, 14, 15, 16, 17, 18, 19, 20], [20]), ([21, 22, 0, 1, 2, 3, 4, 5, 6, 7, 8, 9, 10, 11, 12, 13, 14, 15, 16, 17, 18, 19, 20, 21, 22], [21])])
def lamplighterref11_Truth.B8 : List Nat := [0, 0, 2, 6, 15, 31, 63, 0, 0, 256, 768, 1920, 3968, 8064, 16256, 0, 32768, 98304, 229376, 491520, 1048575, 0, 2097151, 8388607]
theorem lamplighterref11_Truth.tab8 : rtab .any (opsOf Tryd.f9 8) = lamplighterref11_Truth.T8 := by kernel_rfl
theorem lamplighterref11_Truth.bits8 : waitsOk lamplighterref11_Truth.T8.2 lamplighterref11_Truth.B8 = true := by kernel_rfl
set_option maxHeartbeats 8000000 in
set_option maxRecDepth 100000 in
theorem lamplighterref11_Truth.calls (k : Nat) : ∀ (A0 : Option Addr) (c0 : Nat) (l0 : List Int) (a1 : Int) (a2 : Int) (r1 : List (S53)) (r2 : Int) (w : World) (hr0 : Kd.C (Kd.int .i64) w A0 l0.length l0) (hc0 : l0.length ≤ c0) (h : lamplighterref11_Truth.f k l0 a1 a2 = some (r1, r2)),
  Calls Tryd.prog 9 #[.slice A0 l0.length c0, .int .i64 a1, .int .i64 a2] w fun e w' => ∃ v0_ : Value, e = .returned (.tuple #[v0_, .int .i64 r2]) ∧ Kd.R k53 53 w' w.heap.size (fun _ => True) v0_ r1 ∧ Below w.heap.size w w' := by
 induction k using Nat.strongRecOn with
 | _ k ih =>
 intro A0 c0 l0 a1 a2 r1 r2 w hr0 hc0 h
 cases k with
 | zero => exact absurd h (by simp [lamplighterref11_Truth.f])
 | succ k =>
 simp only [lamplighterref11_Truth.f] at h
 have hu51 := Tryd.underlying51
 have hu53 := Tryd.underlying53
 have HR0 := As.mk hr0
 have HC0 := As.mk hc0
 clear hr0 hc0
 have HB := As.mk (Below.refl w.heap.size w)
 have H : (if a1 < (l0.length : Int) then (if 0 ≤ a1 then (lamplighterref11_Truth.j0 k l0 a1 a2 (Go.bits .and .i64 (rd l0 a1) 65535)) else (none)) else (lamplighterref11_Truth.j0 k l0 a1 a2 0)) = some (r1, r2) := h
 clear h
 have HC4 := As.mk H
 clear H
 go_enter Tryd.func9, Tryd.ntmps9
 go_upto_if 22 with (fail)
 go_cut [8] (fun v8 wc => ∃ (kq : Nat) (x8_3 : Int), v8 = .int .i64 x8_3 ∧ As (lamplighterref11_Truth.j0 kq l0 a1 a2 x8_3 = some (r1, r2)) ∧ As (kq ≤ k) ∧ As (Below w.heap.size w wc))
 case first =>
  have H := HC4.out
  clear HC4
  by_cases c5 : a1 < (l0.length : Int)
  ·
   rw [if_pos c5] at H
   have c5b0 : decide (a1 < (l0.length : Int)) = true := decide_eq_true c5
   clear c5
   (first | rw [c5b0] | (simp only [i64_w, i32_w]; rw [c5b0]) | skip)
   replace H := ite_some H
   obtain ⟨c6, H⟩ := H
   have c6b0 : decide (0 ≤ a1) = true := decide_eq_true c6
   clear c6
   have H' := As.mk H
   clear H
   have p254 : 0 ≤ (a1 : Int) := of_decide_eq_true (by first | (with_reducible assumption) | assumption)
   have q254 : a1 < (l0.length : Int) := of_decide_eq_true (by first | (with_reducible assumption) | assumption)
   obtain ⟨ad254, e254, hx254_0⟩ := Kd.at_int HR0.out a1 p254 q254
   cases e254
   replace hx254_0 := (HB.out.cell (World.block_lt_of_cell? w _ hx254_0)).trans hx254_0
   replace p254 := eq_true p254
   replace q254 := eq_true q254
   go_wp2
   go_meet
   case rel => exact ⟨_, (Go.bits .and .i64 (rd l0 a1) 65535), (by first | rfl | (simp; done) | (simp [*]; done)), H', ⟨by first | omega | exact Nat.le_refl _⟩, ⟨by repeat (first | (with_reducible first | exact HB.out | apply bwA | apply bwN | apply bwD) | exact HB.out)⟩⟩
  ·
   rw [if_neg c5] at H
   have c5b0 : decide (a1 < (l0.length : Int)) = false := decide_eq_false c5
   clear c5
   (first | rw [c5b0] | (simp only [i64_w, i32_w]; rw [c5b0]) | skip)
   have H' := As.mk H
   clear H
   go_wp2
   go_meet
   case rel => exact ⟨_, (0), (by first | rfl | (simp; done) | (simp [*]; done)), H', ⟨by first | omega | exact Nat.le_refl _⟩, ⟨by repeat (first | (with_reducible first | exact HB.out | apply bwA | apply bwN | apply bwD) | exact HB.out)⟩⟩
 case rest =>
  clear HC4
  try clear p2
  try clear q2
  try clear hx2
  try clear c5
  try clear c5b0
  try clear c6
  try clear c6b0
  try clear hx254_0
  try clear p254
  try clear q254
  obtain ⟨kq, x8_3, rfl, HA, HJ3, HB⟩ := hcut
  cases kq with
  | zero => exact absurd HA.out (by simp [lamplighterref11_Truth.j0])
  | succ kj3 =>
   have H := HA.out
   clear HA
   simp only [lamplighterref11_Truth.j0] at H
   by_cases c7 : (Int.tmod x8_3 7) = 6
   ·
    rw [if_pos c7] at H
    have c7b0 : ((Int.tmod x8_3 7) == 6) = true := beq_iff_eq.mpr c7
    have c7b1 : ((Int.tmod x8_3 7) != 6) = false := bne_eq_false_iff_eq.mpr c7
    clear c7
    obtain ⟨y255, hy255⟩ : ∃ y_ : List (S53), y_ = (([(⟨1, (⟨3, 0, (⟨#[]⟩ : ByteArray), decide ((Go.bits .and .i64 (x8_3 / 16) 1) > 0)⟩ : S51), (⟨#[]⟩ : ByteArray), (⟨#[]⟩ : ByteArray)⟩ : S53)] : List (S53))) := ⟨_, rfl⟩
    replace H : (some (y255, wrap64 (a1 + 1))) = some (r1, r2) := by first | (rw [hy255]; with_reducible exact H) | (have H2_ := (Option.bind_some _ _).symm.trans H; rw [hy255]; with_reducible exact H2_) | (have H2_ := (Option.bind_some _ _).symm.trans H; with_reducible exact H2_) | with_reducible exact H | (rw [hy255]; exact H) | exact H
    have Ny255 := As.mk hy255
    clear hy255
    simp only [Option.some.injEq, Prod.mk.injEq] at H
    obtain ⟨rfl, rfl⟩ := H
    go_wp2_with (first | ((with_reducible refine gate_dst (N := 40) rfl ?_); refine Kd.R_lit k53 _ 53 ?hg (N := 40) ?hd (xs := ([(⟨1, (⟨3, 0, (⟨#[]⟩ : ByteArray), decide ((Go.bits .and .i64 (x8_3 / 16) 1) > 0)⟩ : S51), (⟨#[]⟩ : ByteArray), (⟨#[]⟩ : ByteArray)⟩ : S53)] : List (S53))) (inner := [.int .i64 1, .int .i64 3, .int .i64 0, .string (⟨#[]⟩ : ByteArray), .bool (decide ((Go.bits .and .i64 (x8_3 / 16) 1) > 0)), .string (⟨#[]⟩ : ByteArray), .string (⟨#[]⟩ : ByteArray)]) (ok := fun _ => True) (okp := fun _ => True) ?hr ?hp (fun _ hk => hk) trivial (Below.refl _ _) (Nat.le_refl _) (by simp) ?_; (case hd => rfl); (case hg => rfl); (case hr => first | (go_simp; done) | (go_simp; rfl)); (case hp => exact (Reps.c7 (show Kd.M k53 _ _ _ (⟨1, (⟨3, 0, (⟨#[]⟩ : ByteArray), decide ((Go.bits .and .i64 (x8_3 / 16) 1) > 0)⟩ : S51), (⟨#[]⟩ : ByteArray), (⟨#[]⟩ : ByteArray)⟩ : S53) [.int .i64 1, .int .i64 3, .int .i64 0, .string (⟨#[]⟩ : ByteArray), .bool (decide ((Go.bits .and .i64 (x8_3 / 16) 1) > 0)), .string (⟨#[]⟩ : ByteArray), .string (⟨#[]⟩ : ByteArray)] from (k53_mkM _ _ _ (⟨1, (⟨3, 0, (⟨#[]⟩ : ByteArray), decide ((Go.bits .and .i64 (x8_3 / 16) 1) > 0)⟩ : S51), (⟨#[]⟩ : ByteArray), (⟨#[]⟩ : ByteArray)⟩ : S53) )) (Reps.none _ _))); intro v256 w8 ho9 hb hg_ hnew_; clear hg_ hnew_; (first | rw [← Ny255.out] at ho9 | (simp only [Int.reduceToNat] at ho9; rw [← Ny255.out] at ho9)); have n0_ := As.mk (Kd.R_lower ho9 (bwZ (by repeat (first | (with_reducible first | exact HB.out | apply bwA | apply bwN | apply bwD) | exact HB.out)))); have n1_ := As.mk (bwS (by repeat (first | (with_reducible first | exact HB.out | apply bwA | apply bwN | apply bwD) | exact HB.out)) hb); clear HB; have HO257 := n0_; have HB := n1_; clear n0_ n1_; clear hb ho9))
    go_ret2
    exact ⟨_, by first | rfl | (simp [errW_none, errW_some] <;> rfl) | (simp [*, errW_none, errW_some] <;> rfl), by (with_reducible repeat (first | apply Kd.rA | apply Kd.rN | apply Kd.rD)); exact HO257.out, by repeat (first | (with_reducible first | exact HB.out | apply bwA | apply bwN | apply bwD) | exact HB.out)⟩
   ·
    rw [if_neg c7] at H
    have c7b0 : ((Int.tmod x8_3 7) == 6) = false := beq_eq_false_iff_ne.mpr c7
    have c7b1 : ((Int.tmod x8_3 7) != 6) = true := bne_iff_ne.mpr c7
    by_cases c10 : (Int.tmod x8_3 7) = 5
    ·
     rw [if_pos c10] at H
     have c10b0 : ((Int.tmod x8_3 7) == 5) = true := beq_iff_eq.mpr c10
     have c10b1 : ((Int.tmod x8_3 7) != 5) = false := bne_eq_false_iff_eq.mpr c10
     clear c10
     obtain ⟨y258, hy258⟩ : ∃ y_ : List ByteArray, y_ = (([(⟨#[97]⟩ : ByteArray), (⟨#[98]⟩ : ByteArray), (⟨#[99]⟩ : ByteArray)] : List ByteArray)) := ⟨_, rfl⟩
     replace H : (if 0 ≤ (Int.tmod (x8_3 / 16) 3) then (if (Int.tmod (x8_3 / 16) 3) < (y258.length : Int) then ((some (([(⟨#[117]⟩ : ByteArray), (⟨#[118]⟩ : ByteArray), (⟨#[105, 116, 39, 115]⟩ : ByteArray)] : List ByteArray) : List ByteArray)).bind fun y262 => (if 0 ≤ (Int.tmod (x8_3 / 64) 3) then (if (Int.tmod (x8_3 / 64) 3) < (y262.length : Int) then (some ((([(⟨2, (⟨0, 0, (⟨#[]⟩ : ByteArray), false⟩ : S51), rdOf ByteArray.empty y258 (Int.tmod (x8_3 / 16) 3), (⟨#[115]⟩ : ByteArray)⟩ : S53), (⟨1, (⟨2, 0, rdOf ByteArray.empty y262 (Int.tmod (x8_3 / 64) 3), false⟩ : S51), (⟨#[]⟩ : ByteArray), (⟨#[]⟩ : ByteArray)⟩ : S53), (⟨wrap64 (7 + (Int.tmod (x8_3 / 256) 6)), (⟨0, 0, (⟨#[]⟩ : ByteArray), false⟩ : S51), (⟨#[]⟩ : ByteArray), (⟨#[]⟩ : ByteArray)⟩ : S53)] : List (S53))), wrap64 (a1 + 1))) else (none)) else (none))) else (none)) else (none)) = some (r1, r2) := by first | (rw [hy258]; with_reducible exact H) | (have H2_ := (Option.bind_some _ _).symm.trans H; rw [hy258]; with_reducible exact H2_) | (have H2_ := (Option.bind_some _ _).symm.trans H; with_reducible exact H2_) | with_reducible exact H | (rw [hy258]; exact H) | exact H
     have Ny258 := As.mk hy258
     clear hy258
     obtain ⟨ji11, hji11⟩ : ∃ j_ : Int, (Int.tmod (x8_3 / 16) 3) = j_ := ⟨_, rfl⟩
     replace H : (if 0 ≤ (ji11) then (if (ji11) < (y258.length : Int) then ((some (([(⟨#[117]⟩ : ByteArray), (⟨#[118]⟩ : ByteArray), (⟨#[105, 116, 39, 115]⟩ : ByteArray)] : List ByteArray) : List ByteArray)).bind fun y262 => (if 0 ≤ (Int.tmod (x8_3 / 64) 3) then (if (Int.tmod (x8_3 / 64) 3) < (y262.length : Int) then (some ((([(⟨2, (⟨0, 0, (⟨#[]⟩ : ByteArray), false⟩ : S51), rdOf ByteArray.empty y258 (ji11), (⟨#[115]⟩ : ByteArray)⟩ : S53), (⟨1, (⟨2, 0, rdOf ByteArray.empty y262 (Int.tmod (x8_3 / 64) 3), false⟩ : S51), (⟨#[]⟩ : ByteArray), (⟨#[]⟩ : ByteArray)⟩ : S53), (⟨wrap64 (7 + (Int.tmod (x8_3 / 256) 6)), (⟨0, 0, (⟨#[]⟩ : ByteArray), false⟩ : S51), (⟨#[]⟩ : ByteArray), (⟨#[]⟩ : ByteArray)⟩ : S53)] : List (S53))), wrap64 (a1 + 1))) else (none)) else (none))) else (none)) else (none)) = some (r1, r2) := by first | (rw [hji11] at H; exact H) | (simp only [hji11] at H ⊢; exact H)
     replace H := ite_some H
     obtain ⟨c12, H⟩ := H
     have c12b0 : decide (0 ≤ (ji11)) = true := decide_eq_true c12
     clear c12
     replace H := ite_some H
     obtain ⟨c13, H⟩ := H
     have c13b0 : decide ((ji11) < (y258.length : Int)) = true := decide_eq_true c13
     clear c13
     obtain ⟨y262, hy262⟩ : ∃ y_ : List ByteArray, y_ = (([(⟨#[117]⟩ : ByteArray), (⟨#[118]⟩ : ByteArray), (⟨#[105, 116, 39, 115]⟩ : ByteArray)] : List ByteArray)) := ⟨_, rfl⟩
     replace H : (if 0 ≤ (Int.tmod (x8_3 / 64) 3) then (if (Int.tmod (x8_3 / 64) 3) < (y262.length : Int) then (some ((([(⟨2, (⟨0, 0, (⟨#[]⟩ : ByteArray), false⟩ : S51), rdOf ByteArray.empty y258 (ji11), (⟨#[115]⟩ : ByteArray)⟩ : S53), (⟨1, (⟨2, 0, rdOf ByteArray.empty y262 (Int.tmod (x8_3 / 64) 3), false⟩ : S51), (⟨#[]⟩ : ByteArray), (⟨#[]⟩ : ByteArray)⟩ : S53), (⟨wrap64 (7 + (Int.tmod (x8_3 / 256) 6)), (⟨0, 0, (⟨#[]⟩ : ByteArray), false⟩ : S51), (⟨#[]⟩ : ByteArray), (⟨#[]⟩ : ByteArray)⟩ : S53)] : List (S53))), wrap64 (a1 + 1))) else (none)) else (none)) = some (r1, r2) := by first | (rw [hy262]; with_reducible exact H) | (have H2_ := (Option.bind_some _ _).symm.trans H; rw [hy262]; with_reducible exact H2_) | (have H2_ := (Option.bind_some _ _).symm.trans H; with_reducible exact H2_) | with_reducible exact H | (rw [hy262]; exact H) | exact H
     have Ny262 := As.mk hy262
     clear hy262
     obtain ⟨ji14, hji14⟩ : ∃ j_ : Int, (Int.tmod (x8_3 / 64) 3) = j_ := ⟨_, rfl⟩
     replace H : (if 0 ≤ (ji14) then (if (ji14) < (y262.length : Int) then (some ((([(⟨2, (⟨0, 0, (⟨#[]⟩ : ByteArray), false⟩ : S51), rdOf ByteArray.empty y258 (ji11), (⟨#[115]⟩ : ByteArray)⟩ : S53), (⟨1, (⟨2, 0, rdOf ByteArray.empty y262 (ji14), false⟩ : S51), (⟨#[]⟩ : ByteArray), (⟨#[]⟩ : ByteArray)⟩ : S53), (⟨wrap64 (7 + (Int.tmod (x8_3 / 256) 6)), (⟨0, 0, (⟨#[]⟩ : ByteArray), false⟩ : S51), (⟨#[]⟩ : ByteArray), (⟨#[]⟩ : ByteArray)⟩ : S53)] : List (S53))), wrap64 (a1 + 1))) else (none)) else (none)) = some (r1, r2) := by first | (rw [hji14] at H; exact H) | (simp only [hji14] at H ⊢; exact H)
     replace H := ite_some H
     obtain ⟨c15, H⟩ := H
     have c15b0 : decide (0 ≤ (ji14)) = true := decide_eq_true c15
     clear c15
     replace H := ite_some H
     obtain ⟨c16, H⟩ := H
     have c16b0 : decide ((ji14) < (y262.length : Int)) = true := decide_eq_true c16
     clear c16
     obtain ⟨y266, hy266⟩ : ∃ y_ : List (S53), y_ = (([(⟨2, (⟨0, 0, (⟨#[]⟩ : ByteArray), false⟩ : S51), rdOf ByteArray.empty y258 (ji11), (⟨#[115]⟩ : ByteArray)⟩ : S53), (⟨1, (⟨2, 0, rdOf ByteArray.empty y262 (ji14), false⟩ : S51), (⟨#[]⟩ : ByteArray), (⟨#[]⟩ : ByteArray)⟩ : S53), (⟨wrap64 (7 + (Int.tmod (x8_3 / 256) 6)), (⟨0, 0, (⟨#[]⟩ : ByteArray), false⟩ : S51), (⟨#[]⟩ : ByteArray), (⟨#[]⟩ : ByteArray)⟩ : S53)] : List (S53))) := ⟨_, rfl⟩
     replace H : (some (y266, wrap64 (a1 + 1))) = some (r1, r2) := by first | (rw [hy266]; with_reducible exact H) | (have H2_ := (Option.bind_some _ _).symm.trans H; rw [hy266]; with_reducible exact H2_) | (have H2_ := (Option.bind_some _ _).symm.trans H; with_reducible exact H2_) | with_reducible exact H | (rw [hy266]; exact H) | exact H
     have Ny266 := As.mk hy266
     clear hy266
     simp only [Option.some.injEq, Prod.mk.injEq] at H
     obtain ⟨rfl, rfl⟩ := H
     try go_wp2
     have pi261 : (0 ≤ ((ji11) : Int)) = True := eq_true (of_decide_eq_true (by first | (with_reducible assumption) | assumption))
     have qi261 : ((ji11) < (y258.length : Int)) = True := eq_true (of_decide_eq_true (by first | (with_reducible assumption) | assumption))
     have pi265 : (0 ≤ ((ji14) : Int)) = True := eq_true (of_decide_eq_true (by first | (with_reducible assumption) | assumption))
     have qi265 : ((ji14) < (y262.length : Int)) = True := eq_true (of_decide_eq_true (by first | (with_reducible assumption) | assumption))
     have n0_ := As.mk (bwD HB.out)
     clear HB
     have HB := n0_
     clear n0_
     refine start_ (n := 24) (S := fun w' => True) (ds := []) #[false, false, false, false, false, false, false, false, false, false, false, false, false, false, false, false, false, false, false, false, false, false, false, false] (by kernel_rfl) rfl rfl trivial (fun hHeld => ?_); refine with_tabW lamplighterref11_Truth.tab8 lamplighterref11_Truth.bits8 (fun HT_ HW_ => ?_)
     generalize wc.drew = w17 at HB hHeld ⊢
     refine pure_ (i := 1) (N := some 47) (v := ?_) (a' := ?_) #[false, true, false, false, false, false, false, false, false, false, false, false, false, false, false, false, false, false, false, false, false, false, false, false] rfl rfl (any_of HT_.out (by kernel_rfl)) (fun _ _ _ h => h) (Or.inl ⟨by rfl, ?_⟩) ?_ ?_
     rotate_left
     ·
      intro w'
      go_simp
      with_reducible rfl
     rotate_left
     ·
      simp only [Act.put, List.setIfInBounds_toArray, List.set_cons_zero, List.set_cons_succ, i64_w, i32_w]
      rfl
     refine pure_ (i := 8) (N := some 54) (v := ?_) (a' := ?_) #[false, true, false, false, false, false, false, false, true, false, false, false, false, false, false, false, false, false, false, false, false, false, false, false] rfl rfl (any_of HT_.out (by kernel_rfl)) (fun _ _ _ h => h) (Or.inl ⟨by rfl, ?_⟩) ?_ ?_
     rotate_left
     ·
      intro w'
      go_simp
      with_reducible rfl
     rotate_left
     ·
      simp only [Act.put, List.setIfInBounds_toArray, List.set_cons_zero, List.set_cons_succ, i64_w, i32_w]
      rfl
     refine pure_ (i := 15) (N := some 61) (v := ?_) (a' := ?_) #[false, true, false, false, false, false, false, false, true, false, false, false, false, false, false, true, false, false, false, false, false, false, false, false] rfl rfl (any_of HT_.out (by kernel_rfl)) (fun _ _ _ h => h) (Or.inl ⟨by rfl, ?_⟩) ?_ ?_
     rotate_left
     ·
      intro w'
      go_simp
      with_reducible rfl
     rotate_left
     ·
      simp only [Act.put, List.setIfInBounds_toArray, List.set_cons_zero, List.set_cons_succ, i64_w, i32_w]
      rfl
     refine pure_ (i := 21) (N := some 67) (v := ?_) (a' := ?_) #[false, true, false, false, false, false, false, false, true, false, false, false, false, false, false, true, false, false, false, false, false, true, false, false] rfl rfl (any_of HT_.out (by kernel_rfl)) (fun _ _ _ h => h) (Or.inl ⟨by rfl, ?_⟩) ?_ ?_
     rotate_left
     ·
      intro w'
      go_simp
      with_reducible rfl
     rotate_left
     ·
      simp only [Act.put, List.setIfInBounds_toArray, List.set_cons_zero, List.set_cons_succ, i64_w, i32_w]
      rfl
     refine inv_at [0, 2, 3, 4, 5, 6, 7, 9, 10, 11, 12, 13, 14, 16, 17, 18, 19, 20, 22, 23] (fun a0_ b a w' => ∃ (v259 : Value) (adz_v259 : Addr) (v263 : Value) (adz_v263 : Addr) (v267 : Value) (m4_ : Value) (m11_ : Value) (m22_ : Value), a = putSel a0_ b [(0, 46, v259), (2, 48, .int .i64 (x8_3 / 16)), (3, 49, .int .i64 ji11), (4, 50, m4_), (5, 51, .string (rdOf ByteArray.empty y258 (ji11))), (6, 52, .agg #[.int .i64 2, .int .i64 0, .int .i64 0, .string (⟨#[]⟩ : ByteArray), .bool false, .string (rdOf ByteArray.empty y258 (ji11)), .string (⟨#[115]⟩ : ByteArray)]), (7, 53, v263), (9, 55, .int .i64 (x8_3 / 64)), (10, 56, .int .i64 ji14), (11, 57, m11_), (12, 58, .string (rdOf ByteArray.empty y262 (ji14))), (13, 59, .agg #[.int .i64 2, .int .i64 0, .string (rdOf ByteArray.empty y262 (ji14)), .bool false]), (14, 60, .agg #[.int .i64 1, .int .i64 2, .int .i64 0, .string (rdOf ByteArray.empty y262 (ji14)), .bool false, .string (⟨#[]⟩ : ByteArray), .string (⟨#[]⟩ : ByteArray)]), (16, 62, .int .i64 (x8_3 / 256)), (17, 63, .int .i64 (Int.tmod (x8_3 / 256) 6)), (18, 64, .int .i64 (wrap64 (7 + (Int.tmod (x8_3 / 256) 6)))), (19, 65, .agg #[.int .i64 (wrap64 (7 + (Int.tmod (x8_3 / 256) 6))), .int .i64 0, .int .i64 0, .string (⟨#[]⟩ : ByteArray), .bool false, .string (⟨#[]⟩ : ByteArray), .string (⟨#[]⟩ : ByteArray)]), (20, 66, v267), (22, 6, m22_), (23, 7, .int .i64 (wrap64 (a1 + 1)))] ∧ (Below w.heap.size w w') ∧ (b 0 = true → Kd.R Kd.string 9 w' w.heap.size (fun _ => True) v259 y258) ∧ (b 0 = true → ∃ c_, (v259 : Value) = .slice (some adz_v259) y258.length c_) ∧ (b 7 = true → Kd.R Kd.string 9 w' w.heap.size (fun _ => True) v263 y262) ∧ (b 7 = true → ∃ c_, (v263 : Value) = .slice (some adz_v263) y262.length c_) ∧ (b 20 = true → Kd.R k53 53 w' w.heap.size (fun _ => True) v267 y266) ∧ (b 4 = true → (m4_ : Value) = .pointer (some (adz_v259.add ((ji11)).toNat))) ∧ (b 11 = true → (m11_ : Value) = .pointer (some (adz_v263.add ((ji14)).toNat))) ∧ (b 22 = true → (m22_ : Value) = v267)) HT_.out HW_.out (by kernel_rfl) (by kernel_rfl) ?_ ?_ ?_
     ·
      exact ⟨.bool false, ⟨0, 0, none⟩, .bool false, ⟨0, 0, none⟩, .bool false, .bool false, .bool false, .bool false, by simp only [putSel, Bool.false_eq_true, if_false], HB.out, fun h_ => absurd h_ (by decide), fun h_ => absurd h_ (by decide), fun h_ => absurd h_ (by decide), fun h_ => absurd h_ (by decide), fun h_ => absurd h_ (by decide), fun h_ => absurd h_ (by decide), fun h_ => absurd h_ (by decide), fun h_ => absurd h_ (by decide)⟩
     ·
      skip
      clear HB
      refine steps_cons ?_ ?_
      ·
       rintro b a w' ⟨v259, adz_v259, v263, adz_v263, v267, m4_, m11_, m22_, ha, Q_HB, Q_HO260, Q_HA_HO260, Q_HO264, Q_HA_HO264, Q_HO268, Q_X4_, Q_X11_, Q_X22_⟩ hb_ hon hoff
       refine ⟨_, rfl, fun K hK => ?_⟩
       replace ha := As.mk ha
       have HB := As.mk Q_HB
       refine Kd.R_lit_step Kd.string _ 9 ?hg (N := 46) ?hd (xs := ([(⟨#[97]⟩ : ByteArray), (⟨#[98]⟩ : ByteArray), (⟨#[99]⟩ : ByteArray)] : List ByteArray)) (inner := [.string (⟨#[97]⟩ : ByteArray), .string (⟨#[98]⟩ : ByteArray), .string (⟨#[99]⟩ : ByteArray)]) (ok := fun _ => True) (okp := fun _ => True) ?hr ?hp (fun _ hk => hk) trivial (Below.refl _ _) (Nat.le_refl _) (by simp) ?_; (case hd => rfl); (case hg => rfl); (case hr => first | (go_simp; done) | (go_simp; rfl)); (case hp => exact (Reps.one (show Kd.M Kd.string _ _ _ (⟨#[97]⟩ : ByteArray) [.string (⟨#[97]⟩ : ByteArray)] from rfl) (Reps.one (show Kd.M Kd.string _ _ _ (⟨#[98]⟩ : ByteArray) [.string (⟨#[98]⟩ : ByteArray)] from rfl) (Reps.one (show Kd.M Kd.string _ _ _ (⟨#[99]⟩ : ByteArray) [.string (⟨#[99]⟩ : ByteArray)] from rfl) (Reps.none _ _)))))
       intro v259 w18 ho19 hb hg_ hnew_
       clear hg_ hnew_
       (first | rw [← Ny258.out] at ho19 | (simp only [Int.reduceToNat] at ho19; rw [← Ny258.out] at ho19))
       have n0_ := As.mk (Kd.R_lower ho19 (bwZ (by repeat (first | (with_reducible first | exact HB.out | apply bwA | apply bwN | apply bwD) | exact HB.out))))
       have n1_ := As.mk (bwS (by repeat (first | (with_reducible first | exact HB.out | apply bwA | apply bwN | apply bwD) | exact HB.out)) hb)
       have z_HO264 := fun (h0_ : b 7 = true) => (show Kd.R Kd.string 9 w18 w.heap.size (fun _ => True) v263 y262 from by first | exact (Kd.R_elder' (by (with_reducible repeat (first | apply Kd.rA | apply Kd.rN | apply Kd.rD)); exact (Q_HO264 h0_)) (Kd.R_base ho19) hb) | exact Kd.R_mono (Kd.R_elder' (by (with_reducible repeat (first | apply Kd.rA | apply Kd.rN | apply Kd.rD)); exact (Q_HO264 h0_)) (Kd.R_base ho19) hb) (fun _ h_ => by first | trivial | exact h_ | exact h_.1))
       clear HB
       have HO260 := n0_
       have HB := n1_
       clear n0_ n1_
       clear hb ho19
       obtain ⟨Ao20, co20, eo20⟩ := Kd.R_slice HO260.out
       subst eo20
       obtain ⟨ado20, fo20, _⟩ := Kd.at_string (Kd.R_reads' HO260.out).2.2 0 (by decide) (by rw [Ny258.out]; simp)
       cases fo20
       refine hK.out _ _ ⟨.slice (some ado20) y258.length co20, ado20, v263, adz_v263, v267, m4_, m11_, m22_, (by rw [ha.out]; exact putSel_upk 0 hb_ rfl rfl rfl), (by repeat (first | (with_reducible first | exact HB.out | apply bwA | apply bwN | apply bwD) | exact HB.out)), fun _ => (by (with_reducible repeat (first | apply Kd.rA | apply Kd.rN | apply Kd.rD)); exact HO260.out), fun _ => ⟨_, rfl⟩, z_HO264, Q_HA_HO264, fun h0_ => absurd ((hoff 20 (by kernel_rfl)).symm.trans h0_) (by decide), fun h0_ => absurd ((hoff 4 (by kernel_rfl)).symm.trans h0_) (by decide), Q_X11_, fun h0_ => absurd ((hoff 22 (by kernel_rfl)).symm.trans h0_) (by decide)⟩
      refine steps_cons ?_ ?_
      ·
       rintro b a w' ⟨v259, adz_v259, v263, adz_v263, v267, m4_, m11_, m22_, ha, Q_HB, Q_HO260, Q_HA_HO260, Q_HO264, Q_HA_HO264, Q_HO268, Q_X4_, Q_X11_, Q_X22_⟩ hb_ hon hoff
       refine ⟨_, rfl, fun K hK => ?_⟩
       have e47 : a.tmps[47]? = some (.int .i64 x8_3) := by rw [ha]; exact (putSel_off rfl).trans rfl
       replace ha := As.mk ha
       have HB := As.mk Q_HB
       refine value_ (w1 := w') (v := .int .i64 (x8_3 / 16)) (by rfl) rfl ?_ ?_
       ·
        go_simp
        (try simp only [i64_w])
        try rfl
       refine hK.out _ _ ⟨v259, adz_v259, v263, adz_v263, v267, m4_, m11_, m22_, (by rw [ha.out]; exact putSel_upk 1 hb_ rfl rfl rfl), Q_HB, Q_HO260, Q_HA_HO260, Q_HO264, Q_HA_HO264, fun h0_ => absurd ((hoff 20 (by kernel_rfl)).symm.trans h0_) (by decide), fun h0_ => absurd ((hoff 4 (by kernel_rfl)).symm.trans h0_) (by decide), Q_X11_, fun h0_ => absurd ((hoff 22 (by kernel_rfl)).symm.trans h0_) (by decide)⟩
      refine steps_cons ?_ ?_
      ·
       rintro b a w' ⟨v259, adz_v259, v263, adz_v263, v267, m4_, m11_, m22_, ha, Q_HB, Q_HO260, Q_HA_HO260, Q_HO264, Q_HA_HO264, Q_HO268, Q_X4_, Q_X11_, Q_X22_⟩ hb_ hon hoff
       refine ⟨_, rfl, fun K hK => ?_⟩
       have e48 : a.tmps[48]? = some (.int .i64 (x8_3 / 16)) := by rw [ha]; exact putSel_on (e := (2, 48, .int .i64 (x8_3 / 16))) 1 rfl rfl (hon 2 (by kernel_rfl)) rfl
       replace ha := As.mk ha
       have HB := As.mk Q_HB
       refine value_ (w1 := w') (v := .int .i64 ji11) (by rfl) rfl ?_ ?_
       ·
        go_simp
        (try simp only [i64_w])
        try rfl
       refine hK.out _ _ ⟨v259, adz_v259, v263, adz_v263, v267, m4_, m11_, m22_, (by rw [ha.out]; exact putSel_upk 2 hb_ rfl rfl rfl), Q_HB, Q_HO260, Q_HA_HO260, Q_HO264, Q_HA_HO264, fun h0_ => absurd ((hoff 20 (by kernel_rfl)).symm.trans h0_) (by decide), fun h0_ => absurd ((hoff 4 (by kernel_rfl)).symm.trans h0_) (by decide), Q_X11_, fun h0_ => absurd ((hoff 22 (by kernel_rfl)).symm.trans h0_) (by decide)⟩
      refine steps_cons ?_ ?_
      ·
       rintro b a w' ⟨v259, adz_v259, v263, adz_v263, v267, m4_, m11_, m22_, ha, Q_HB, Q_HO260, Q_HA_HO260, Q_HO264, Q_HA_HO264, Q_HO268, Q_X4_, Q_X11_, Q_X22_⟩ hb_ hon hoff
       refine ⟨_, rfl, fun K hK => ?_⟩
       have e46 : a.tmps[46]? = some (v259) := by rw [ha]; exact putSel_on (e := (0, 46, v259)) 0 rfl rfl (hon 0 (by kernel_rfl)) rfl
       have e49 : a.tmps[49]? = some (.int .i64 ji11) := by rw [ha]; exact putSel_on (e := (3, 49, .int .i64 ji11)) 2 rfl rfl (hon 3 (by kernel_rfl)) rfl
       replace ha := As.mk ha
       have HB := As.mk Q_HB
       have HO260 := As.mk (Q_HO260 (hon 0 (by kernel_rfl)))
       have HA_HO260 := As.mk (Q_HA_HO260 (hon 0 (by kernel_rfl)))
       obtain ⟨c_, hv_⟩ := HA_HO260.out
       rw [hv_] at e46
       refine value_ (w1 := w') (v := .pointer (some (adz_v259.add ((ji11)).toNat))) (by rfl) rfl ?_ ?_
       ·
        go_simp
        (try simp only [i64_w])
        try rfl
       refine hK.out _ _ ⟨v259, adz_v259, v263, adz_v263, v267, (.pointer (some (adz_v259.add ((ji11)).toNat))), m11_, m22_, (by rw [ha.out]; exact putSel_upk 3 hb_ rfl rfl rfl), Q_HB, Q_HO260, Q_HA_HO260, Q_HO264, Q_HA_HO264, fun h0_ => absurd ((hoff 20 (by kernel_rfl)).symm.trans h0_) (by decide), fun _ => rfl, Q_X11_, fun h0_ => absurd ((hoff 22 (by kernel_rfl)).symm.trans h0_) (by decide)⟩
      refine steps_cons ?_ ?_
      ·
       rintro b a w' ⟨v259, adz_v259, v263, adz_v263, v267, m4_, m11_, m22_, ha, Q_HB, Q_HO260, Q_HA_HO260, Q_HO264, Q_HA_HO264, Q_HO268, Q_X4_, Q_X11_, Q_X22_⟩ hb_ hon hoff
       refine ⟨_, rfl, fun K hK => ?_⟩
       have e50 : a.tmps[50]? = some (m4_) := by rw [ha]; exact putSel_on (e := (4, 50, m4_)) 3 rfl rfl (hon 4 (by kernel_rfl)) rfl
       rw [Q_X4_ (hon 4 (by kernel_rfl))] at e50
       replace ha := As.mk ha
       have HB := As.mk Q_HB
       have HO260 := As.mk (Q_HO260 (hon 0 (by kernel_rfl)))
       have HA_HO260 := As.mk (Q_HA_HO260 (hon 0 (by kernel_rfl)))
       obtain ⟨c_, hv_⟩ := HA_HO260.out
       have hF_ := HO260.out
       rw [hv_] at hF_
       obtain ⟨ad_, ea_, hx_⟩ := Kd.at_string (Kd.R_reads' hF_).2.2 (ji11) (of_eq_true pi261) (of_eq_true qi261)
       cases ea_
       refine value_ (w1 := w') (v := .string (rdOf ByteArray.empty y258 (ji11))) (by rfl) rfl ?_ ?_
       ·
        go_simp
        (try simp only [i64_w])
        try rfl
       refine hK.out _ _ ⟨v259, adz_v259, v263, adz_v263, v267, m4_, m11_, m22_, (by rw [ha.out]; exact putSel_upk 4 hb_ rfl rfl rfl), Q_HB, Q_HO260, Q_HA_HO260, Q_HO264, Q_HA_HO264, fun h0_ => absurd ((hoff 20 (by kernel_rfl)).symm.trans h0_) (by decide), Q_X4_, Q_X11_, fun h0_ => absurd ((hoff 22 (by kernel_rfl)).symm.trans h0_) (by decide)⟩
      refine steps_cons ?_ ?_
      ·
       rintro b a w' ⟨v259, adz_v259, v263, adz_v263, v267, m4_, m11_, m22_, ha, Q_HB, Q_HO260, Q_HA_HO260, Q_HO264, Q_HA_HO264, Q_HO268, Q_X4_, Q_X11_, Q_X22_⟩ hb_ hon hoff
       refine ⟨_, rfl, fun K hK => ?_⟩
       have e51 : a.tmps[51]? = some (.string (rdOf ByteArray.empty y258 (ji11))) := by rw [ha]; exact putSel_on (e := (5, 51, .string (rdOf ByteArray.empty y258 (ji11)))) 4 rfl rfl (hon 5 (by kernel_rfl)) rfl
       replace ha := As.mk ha
       have HB := As.mk Q_HB
       have HO260 := As.mk (Q_HO260 (hon 0 (by kernel_rfl)))
       have HA_HO260 := As.mk (Q_HA_HO260 (hon 0 (by kernel_rfl)))
       refine value_ (w1 := w') (v := .agg #[.int .i64 2, .int .i64 0, .int .i64 0, .string (⟨#[]⟩ : ByteArray), .bool false, .string (rdOf ByteArray.empty y258 (ji11)), .string (⟨#[115]⟩ : ByteArray)]) (by rfl) rfl ?_ ?_
       ·
        go_simp
        (try simp only [i64_w])
        try rfl
       refine hK.out _ _ ⟨v259, adz_v259, v263, adz_v263, v267, m4_, m11_, m22_, (by rw [ha.out]; exact putSel_upk 5 hb_ rfl rfl rfl), Q_HB, Q_HO260, Q_HA_HO260, Q_HO264, Q_HA_HO264, fun h0_ => absurd ((hoff 20 (by kernel_rfl)).symm.trans h0_) (by decide), Q_X4_, Q_X11_, fun h0_ => absurd ((hoff 22 (by kernel_rfl)).symm.trans h0_) (by decide)⟩
      refine steps_cons ?_ ?_
      ·
       rintro b a w' ⟨v259, adz_v259, v263, adz_v263, v267, m4_, m11_, m22_, ha, Q_HB, Q_HO260, Q_HA_HO260, Q_HO264, Q_HA_HO264, Q_HO268, Q_X4_, Q_X11_, Q_X22_⟩ hb_ hon hoff
       refine ⟨_, rfl, fun K hK => ?_⟩
       replace ha := As.mk ha
       have HB := As.mk Q_HB
       refine Kd.R_lit_step Kd.string _ 9 ?hg (N := 53) ?hd (xs := ([(⟨#[117]⟩ : ByteArray), (⟨#[118]⟩ : ByteArray), (⟨#[105, 116, 39, 115]⟩ : ByteArray)] : List ByteArray)) (inner := [.string (⟨#[117]⟩ : ByteArray), .string (⟨#[118]⟩ : ByteArray), .string (⟨#[105, 116, 39, 115]⟩ : ByteArray)]) (ok := fun _ => True) (okp := fun _ => True) ?hr ?hp (fun _ hk => hk) trivial (Below.refl _ _) (Nat.le_refl _) (by simp) ?_; (case hd => rfl); (case hg => rfl); (case hr => first | (go_simp; done) | (go_simp; rfl)); (case hp => exact (Reps.one (show Kd.M Kd.string _ _ _ (⟨#[117]⟩ : ByteArray) [.string (⟨#[117]⟩ : ByteArray)] from rfl) (Reps.one (show Kd.M Kd.string _ _ _ (⟨#[118]⟩ : ByteArray) [.string (⟨#[118]⟩ : ByteArray)] from rfl) (Reps.one (show Kd.M Kd.string _ _ _ (⟨#[105, 116, 39, 115]⟩ : ByteArray) [.string (⟨#[105, 116, 39, 115]⟩ : ByteArray)] from rfl) (Reps.none _ _)))))
       intro v263 w18 ho19 hb hg_ hnew_
       clear hg_ hnew_
       (first | rw [← Ny262.out] at ho19 | (simp only [Int.reduceToNat] at ho19; rw [← Ny262.out] at ho19))
       have n0_ := As.mk (Kd.R_lower ho19 (bwZ (by repeat (first | (with_reducible first | exact HB.out | apply bwA | apply bwN | apply bwD) | exact HB.out))))
       have n1_ := As.mk (bwS (by repeat (first | (with_reducible first | exact HB.out | apply bwA | apply bwN | apply bwD) | exact HB.out)) hb)
       have z_HO260 := fun (h0_ : b 0 = true) => (show Kd.R Kd.string 9 w18 w.heap.size (fun _ => True) v259 y258 from by first | exact (Kd.R_elder' (by (with_reducible repeat (first | apply Kd.rA | apply Kd.rN | apply Kd.rD)); exact (Q_HO260 h0_)) (Kd.R_base ho19) hb) | exact Kd.R_mono (Kd.R_elder' (by (with_reducible repeat (first | apply Kd.rA | apply Kd.rN | apply Kd.rD)); exact (Q_HO260 h0_)) (Kd.R_base ho19) hb) (fun _ h_ => by first | trivial | exact h_ | exact h_.1))
       clear HB
       have HO264 := n0_
       have HB := n1_
       clear n0_ n1_
       clear hb ho19
       obtain ⟨Ao20, co20, eo20⟩ := Kd.R_slice HO264.out
       subst eo20
       obtain ⟨ado20, fo20, _⟩ := Kd.at_string (Kd.R_reads' HO264.out).2.2 0 (by decide) (by rw [Ny262.out]; simp)
       cases fo20
       refine hK.out _ _ ⟨v259, adz_v259, .slice (some ado20) y262.length co20, ado20, v267, m4_, m11_, m22_, (by rw [ha.out]; exact putSel_upk 6 hb_ rfl rfl rfl), (by repeat (first | (with_reducible first | exact HB.out | apply bwA | apply bwN | apply bwD) | exact HB.out)), z_HO260, Q_HA_HO260, fun _ => (by (with_reducible repeat (first | apply Kd.rA | apply Kd.rN | apply Kd.rD)); exact HO264.out), fun _ => ⟨_, rfl⟩, fun h0_ => absurd ((hoff 20 (by kernel_rfl)).symm.trans h0_) (by decide), Q_X4_, fun h0_ => absurd ((hoff 11 (by kernel_rfl)).symm.trans h0_) (by decide), fun h0_ => absurd ((hoff 22 (by kernel_rfl)).symm.trans h0_) (by decide)⟩
      refine steps_cons ?_ ?_
      ·
       rintro b a w' ⟨v259, adz_v259, v263, adz_v263, v267, m4_, m11_, m22_, ha, Q_HB, Q_HO260, Q_HA_HO260, Q_HO264, Q_HA_HO264, Q_HO268, Q_X4_, Q_X11_, Q_X22_⟩ hb_ hon hoff
       refine ⟨_, rfl, fun K hK => ?_⟩
       have e54 : a.tmps[54]? = some (.int .i64 x8_3) := by rw [ha]; exact (putSel_off rfl).trans rfl
       replace ha := As.mk ha
       have HB := As.mk Q_HB
       refine value_ (w1 := w') (v := .int .i64 (x8_3 / 64)) (by rfl) rfl ?_ ?_
       ·
        go_simp
        (try simp only [i64_w])
        try rfl
       refine hK.out _ _ ⟨v259, adz_v259, v263, adz_v263, v267, m4_, m11_, m22_, (by rw [ha.out]; exact putSel_upk 7 hb_ rfl rfl rfl), Q_HB, Q_HO260, Q_HA_HO260, Q_HO264, Q_HA_HO264, fun h0_ => absurd ((hoff 20 (by kernel_rfl)).symm.trans h0_) (by decide), Q_X4_, fun h0_ => absurd ((hoff 11 (by kernel_rfl)).symm.trans h0_) (by decide), fun h0_ => absurd ((hoff 22 (by kernel_rfl)).symm.trans h0_) (by decide)⟩
      refine steps_cons ?_ ?_
      ·
       rintro b a w' ⟨v259, adz_v259, v263, adz_v263, v267, m4_, m11_, m22_, ha, Q_HB, Q_HO260, Q_HA_HO260, Q_HO264, Q_HA_HO264, Q_HO268, Q_X4_, Q_X11_, Q_X22_⟩ hb_ hon hoff
       refine ⟨_, rfl, fun K hK => ?_⟩
       have e55 : a.tmps[55]? = some (.int .i64 (x8_3 / 64)) := by rw [ha]; exact putSel_on (e := (9, 55, .int .i64 (x8_3 / 64))) 7 rfl rfl (hon 9 (by kernel_rfl)) rfl
       replace ha := As.mk ha
       have HB := As.mk Q_HB
       refine value_ (w1 := w') (v := .int .i64 ji14) (by rfl) rfl ?_ ?_
       ·
        go_simp
        (try simp only [i64_w])
        try rfl
       refine hK.out _ _ ⟨v259, adz_v259, v263, adz_v263, v267, m4_, m11_, m22_, (by rw [ha.out]; exact putSel_upk 8 hb_ rfl rfl rfl), Q_HB, Q_HO260, Q_HA_HO260, Q_HO264, Q_HA_HO264, fun h0_ => absurd ((hoff 20 (by kernel_rfl)).symm.trans h0_) (by decide), Q_X4_, fun h0_ => absurd ((hoff 11 (by kernel_rfl)).symm.trans h0_) (by decide), fun h0_ => absurd ((hoff 22 (by kernel_rfl)).symm.trans h0_) (by decide)⟩
      refine steps_cons ?_ ?_
      ·
       rintro b a w' ⟨v259, adz_v259, v263, adz_v263, v267, m4_, m11_, m22_, ha, Q_HB, Q_HO260, Q_HA_HO260, Q_HO264, Q_HA_HO264, Q_HO268, Q_X4_, Q_X11_, Q_X22_⟩ hb_ hon hoff
       refine ⟨_, rfl, fun K hK => ?_⟩
       have e53 : a.tmps[53]? = some (v263) := by rw [ha]; exact putSel_on (e := (7, 53, v263)) 6 rfl rfl (hon 7 (by kernel_rfl)) rfl
       have e56 : a.tmps[56]? = some (.int .i64 ji14) := by rw [ha]; exact putSel_on (e := (10, 56, .int .i64 ji14)) 8 rfl rfl (hon 10 (by kernel_rfl)) rfl
       replace ha := As.mk ha
       have HB := As.mk Q_HB
       have HO264 := As.mk (Q_HO264 (hon 7 (by kernel_rfl)))
       have HA_HO264 := As.mk (Q_HA_HO264 (hon 7 (by kernel_rfl)))
       obtain ⟨c_, hv_⟩ := HA_HO264.out
       rw [hv_] at e53
       refine value_ (w1 := w') (v := .pointer (some (adz_v263.add ((ji14)).toNat))) (by rfl) rfl ?_ ?_
       ·
        go_simp
        (try simp only [i64_w])
        try rfl
       refine hK.out _ _ ⟨v259, adz_v259, v263, adz_v263, v267, m4_, (.pointer (some (adz_v263.add ((ji14)).toNat))), m22_, (by rw [ha.out]; exact putSel_upk 9 hb_ rfl rfl rfl), Q_HB, Q_HO260, Q_HA_HO260, Q_HO264, Q_HA_HO264, fun h0_ => absurd ((hoff 20 (by kernel_rfl)).symm.trans h0_) (by decide), Q_X4_, fun _ => rfl, fun h0_ => absurd ((hoff 22 (by kernel_rfl)).symm.trans h0_) (by decide)⟩
      refine steps_cons ?_ ?_
      ·
       rintro b a w' ⟨v259, adz_v259, v263, adz_v263, v267, m4_, m11_, m22_, ha, Q_HB, Q_HO260, Q_HA_HO260, Q_HO264, Q_HA_HO264, Q_HO268, Q_X4_, Q_X11_, Q_X22_⟩ hb_ hon hoff
       refine ⟨_, rfl, fun K hK => ?_⟩
       have e57 : a.tmps[57]? = some (m11_) := by rw [ha]; exact putSel_on (e := (11, 57, m11_)) 9 rfl rfl (hon 11 (by kernel_rfl)) rfl
       rw [Q_X11_ (hon 11 (by kernel_rfl))] at e57
       replace ha := As.mk ha
       have HB := As.mk Q_HB
       have HO264 := As.mk (Q_HO264 (hon 7 (by kernel_rfl)))
       have HA_HO264 := As.mk (Q_HA_HO264 (hon 7 (by kernel_rfl)))
       obtain ⟨c_, hv_⟩ := HA_HO264.out
       have hF_ := HO264.out
       rw [hv_] at hF_
       obtain ⟨ad_, ea_, hx_⟩ := Kd.at_string (Kd.R_reads' hF_).2.2 (ji14) (of_eq_true pi265) (of_eq_true qi265)
       cases ea_
       refine value_ (w1 := w') (v := .string (rdOf ByteArray.empty y262 (ji14))) (by rfl) rfl ?_ ?_
       ·
        go_simp
        (try simp only [i64_w])
        try rfl
       refine hK.out _ _ ⟨v259, adz_v259, v263, adz_v263, v267, m4_, m11_, m22_, (by rw [ha.out]; exact putSel_upk 10 hb_ rfl rfl rfl), Q_HB, Q_HO260, Q_HA_HO260, Q_HO264, Q_HA_HO264, fun h0_ => absurd ((hoff 20 (by kernel_rfl)).symm.trans h0_) (by decide), Q_X4_, Q_X11_, fun h0_ => absurd ((hoff 22 (by kernel_rfl)).symm.trans h0_) (by decide)⟩
      refine steps_cons ?_ ?_
      ·
       rintro b a w' ⟨v259, adz_v259, v263, adz_v263, v267, m4_, m11_, m22_, ha, Q_HB, Q_HO260, Q_HA_HO260, Q_HO264, Q_HA_HO264, Q_HO268, Q_X4_, Q_X11_, Q_X22_⟩ hb_ hon hoff
       refine ⟨_, rfl, fun K hK => ?_⟩
       have e58 : a.tmps[58]? = some (.string (rdOf ByteArray.empty y262 (ji14))) := by rw [ha]; exact putSel_on (e := (12, 58, .string (rdOf ByteArray.empty y262 (ji14)))) 10 rfl rfl (hon 12 (by kernel_rfl)) rfl
       replace ha := As.mk ha
       have HB := As.mk Q_HB
       have HO264 := As.mk (Q_HO264 (hon 7 (by kernel_rfl)))
       have HA_HO264 := As.mk (Q_HA_HO264 (hon 7 (by kernel_rfl)))
       refine value_ (w1 := w') (v := .agg #[.int .i64 2, .int .i64 0, .string (rdOf ByteArray.empty y262 (ji14)), .bool false]) (by rfl) rfl ?_ ?_
       ·
        go_simp
        (try simp only [i64_w])
        try rfl
       refine hK.out _ _ ⟨v259, adz_v259, v263, adz_v263, v267, m4_, m11_, m22_, (by rw [ha.out]; exact putSel_upk 11 hb_ rfl rfl rfl), Q_HB, Q_HO260, Q_HA_HO260, Q_HO264, Q_HA_HO264, fun h0_ => absurd ((hoff 20 (by kernel_rfl)).symm.trans h0_) (by decide), Q_X4_, Q_X11_, fun h0_ => absurd ((hoff 22 (by kernel_rfl)).symm.trans h0_) (by decide)⟩
      refine steps_cons ?_ ?_
      ·
       rintro b a w' ⟨v259, adz_v259, v263, adz_v263, v267, m4_, m11_, m22_, ha, Q_HB, Q_HO260, Q_HA_HO260, Q_HO264, Q_HA_HO264, Q_HO268, Q_X4_, Q_X11_, Q_X22_⟩ hb_ hon hoff
       refine ⟨_, rfl, fun K hK => ?_⟩
       have e59 : a.tmps[59]? = some (.agg #[.int .i64 2, .int .i64 0, .string (rdOf ByteArray.empty y262 (ji14)), .bool false]) := by rw [ha]; exact putSel_on (e := (13, 59, .agg #[.int .i64 2, .int .i64 0, .string (rdOf ByteArray.empty y262 (ji14)), .bool false])) 11 rfl rfl (hon 13 (by kernel_rfl)) rfl
       replace ha := As.mk ha
       have HB := As.mk Q_HB
       have HO264 := As.mk (Q_HO264 (hon 7 (by kernel_rfl)))
       have HA_HO264 := As.mk (Q_HA_HO264 (hon 7 (by kernel_rfl)))
       refine value_ (w1 := w') (v := .agg #[.int .i64 1, .int .i64 2, .int .i64 0, .string (rdOf ByteArray.empty y262 (ji14)), .bool false, .string (⟨#[]⟩ : ByteArray), .string (⟨#[]⟩ : ByteArray)]) (by rfl) rfl ?_ ?_
       ·
        go_simp
        (try simp only [i64_w])
        try rfl
       refine hK.out _ _ ⟨v259, adz_v259, v263, adz_v263, v267, m4_, m11_, m22_, (by rw [ha.out]; exact putSel_upk 12 hb_ rfl rfl rfl), Q_HB, Q_HO260, Q_HA_HO260, Q_HO264, Q_HA_HO264, fun h0_ => absurd ((hoff 20 (by kernel_rfl)).symm.trans h0_) (by decide), Q_X4_, Q_X11_, fun h0_ => absurd ((hoff 22 (by kernel_rfl)).symm.trans h0_) (by decide)⟩
      refine steps_cons ?_ ?_
      ·
       rintro b a w' ⟨v259, adz_v259, v263, adz_v263, v267, m4_, m11_, m22_, ha, Q_HB, Q_HO260, Q_HA_HO260, Q_HO264, Q_HA_HO264, Q_HO268, Q_X4_, Q_X11_, Q_X22_⟩ hb_ hon hoff
       refine ⟨_, rfl, fun K hK => ?_⟩
       have e61 : a.tmps[61]? = some (.int .i64 x8_3) := by rw [ha]; exact (putSel_off rfl).trans rfl
       replace ha := As.mk ha
       have HB := As.mk Q_HB
       refine value_ (w1 := w') (v := .int .i64 (x8_3 / 256)) (by rfl) rfl ?_ ?_
       ·
        go_simp
        (try simp only [i64_w])
        try rfl
       refine hK.out _ _ ⟨v259, adz_v259, v263, adz_v263, v267, m4_, m11_, m22_, (by rw [ha.out]; exact putSel_upk 13 hb_ rfl rfl rfl), Q_HB, Q_HO260, Q_HA_HO260, Q_HO264, Q_HA_HO264, fun h0_ => absurd ((hoff 20 (by kernel_rfl)).symm.trans h0_) (by decide), Q_X4_, Q_X11_, fun h0_ => absurd ((hoff 22 (by kernel_rfl)).symm.trans h0_) (by decide)⟩
      refine steps_cons ?_ ?_
      ·
       rintro b a w' ⟨v259, adz_v259, v263, adz_v263, v267, m4_, m11_, m22_, ha, Q_HB, Q_HO260, Q_HA_HO260, Q_HO264, Q_HA_HO264, Q_HO268, Q_X4_, Q_X11_, Q_X22_⟩ hb_ hon hoff
       refine ⟨_, rfl, fun K hK => ?_⟩
       have e62 : a.tmps[62]? = some (.int .i64 (x8_3 / 256)) := by rw [ha]; exact putSel_on (e := (16, 62, .int .i64 (x8_3 / 256))) 13 rfl rfl (hon 16 (by kernel_rfl)) rfl
       replace ha := As.mk ha
       have HB := As.mk Q_HB
       refine value_ (w1 := w') (v := .int .i64 (Int.tmod (x8_3 / 256) 6)) (by rfl) rfl ?_ ?_
       ·
        go_simp
        (try simp only [i64_w])
        try rfl
       refine hK.out _ _ ⟨v259, adz_v259, v263, adz_v263, v267, m4_, m11_, m22_, (by rw [ha.out]; exact putSel_upk 14 hb_ rfl rfl rfl), Q_HB, Q_HO260, Q_HA_HO260, Q_HO264, Q_HA_HO264, fun h0_ => absurd ((hoff 20 (by kernel_rfl)).symm.trans h0_) (by decide), Q_X4_, Q_X11_, fun h0_ => absurd ((hoff 22 (by kernel_rfl)).symm.trans h0_) (by decide)⟩
      refine steps_cons ?_ ?_
      ·
       rintro b a w' ⟨v259, adz_v259, v263, adz_v263, v267, m4_, m11_, m22_, ha, Q_HB, Q_HO260, Q_HA_HO260, Q_HO264, Q_HA_HO264, Q_HO268, Q_X4_, Q_X11_, Q_X22_⟩ hb_ hon hoff
       refine ⟨_, rfl, fun K hK => ?_⟩
       have e63 : a.tmps[63]? = some (.int .i64 (Int.tmod (x8_3 / 256) 6)) := by rw [ha]; exact putSel_on (e := (17, 63, .int .i64 (Int.tmod (x8_3 / 256) 6))) 14 rfl rfl (hon 17 (by kernel_rfl)) rfl
       replace ha := As.mk ha
       have HB := As.mk Q_HB
       refine value_ (w1 := w') (v := .int .i64 (wrap64 (7 + (Int.tmod (x8_3 / 256) 6)))) (by rfl) rfl ?_ ?_
       ·
        go_simp
        (try simp only [i64_w])
        try rfl
       refine hK.out _ _ ⟨v259, adz_v259, v263, adz_v263, v267, m4_, m11_, m22_, (by rw [ha.out]; exact putSel_upk 15 hb_ rfl rfl rfl), Q_HB, Q_HO260, Q_HA_HO260, Q_HO264, Q_HA_HO264, fun h0_ => absurd ((hoff 20 (by kernel_rfl)).symm.trans h0_) (by decide), Q_X4_, Q_X11_, fun h0_ => absurd ((hoff 22 (by kernel_rfl)).symm.trans h0_) (by decide)⟩
      refine steps_cons ?_ ?_
      ·
       rintro b a w' ⟨v259, adz_v259, v263, adz_v263, v267, m4_, m11_, m22_, ha, Q_HB, Q_HO260, Q_HA_HO260, Q_HO264, Q_HA_HO264, Q_HO268, Q_X4_, Q_X11_, Q_X22_⟩ hb_ hon hoff
       refine ⟨_, rfl, fun K hK => ?_⟩
       have e64 : a.tmps[64]? = some (.int .i64 (wrap64 (7 + (Int.tmod (x8_3 / 256) 6)))) := by rw [ha]; exact putSel_on (e := (18, 64, .int .i64 (wrap64 (7 + (Int.tmod (x8_3 / 256) 6))))) 15 rfl rfl (hon 18 (by kernel_rfl)) rfl
       replace ha := As.mk ha
       have HB := As.mk Q_HB
       refine value_ (w1 := w') (v := .agg #[.int .i64 (wrap64 (7 + (Int.tmod (x8_3 / 256) 6))), .int .i64 0, .int .i64 0, .string (⟨#[]⟩ : ByteArray), .bool false, .string (⟨#[]⟩ : ByteArray), .string (⟨#[]⟩ : ByteArray)]) (by rfl) rfl ?_ ?_
       ·
        go_simp
        (try simp only [i64_w])
        try rfl
       refine hK.out _ _ ⟨v259, adz_v259, v263, adz_v263, v267, m4_, m11_, m22_, (by rw [ha.out]; exact putSel_upk 16 hb_ rfl rfl rfl), Q_HB, Q_HO260, Q_HA_HO260, Q_HO264, Q_HA_HO264, fun h0_ => absurd ((hoff 20 (by kernel_rfl)).symm.trans h0_) (by decide), Q_X4_, Q_X11_, fun h0_ => absurd ((hoff 22 (by kernel_rfl)).symm.trans h0_) (by decide)⟩
      refine steps_cons ?_ ?_
      ·
       rintro b a w' ⟨v259, adz_v259, v263, adz_v263, v267, m4_, m11_, m22_, ha, Q_HB, Q_HO260, Q_HA_HO260, Q_HO264, Q_HA_HO264, Q_HO268, Q_X4_, Q_X11_, Q_X22_⟩ hb_ hon hoff
       refine ⟨_, rfl, fun K hK => ?_⟩
       have e52 : a.tmps[52]? = some (.agg #[.int .i64 2, .int .i64 0, .int .i64 0, .string (⟨#[]⟩ : ByteArray), .bool false, .string (rdOf ByteArray.empty y258 (ji11)), .string (⟨#[115]⟩ : ByteArray)]) := by rw [ha]; exact putSel_on (e := (6, 52, .agg #[.int .i64 2, .int .i64 0, .int .i64 0, .string (⟨#[]⟩ : ByteArray), .bool false, .string (rdOf ByteArray.empty y258 (ji11)), .string (⟨#[115]⟩ : ByteArray)])) 5 rfl rfl (hon 6 (by kernel_rfl)) rfl
       have e60 : a.tmps[60]? = some (.agg #[.int .i64 1, .int .i64 2, .int .i64 0, .string (rdOf ByteArray.empty y262 (ji14)), .bool false, .string (⟨#[]⟩ : ByteArray), .string (⟨#[]⟩ : ByteArray)]) := by rw [ha]; exact putSel_on (e := (14, 60, .agg #[.int .i64 1, .int .i64 2, .int .i64 0, .string (rdOf ByteArray.empty y262 (ji14)), .bool false, .string (⟨#[]⟩ : ByteArray), .string (⟨#[]⟩ : ByteArray)])) 12 rfl rfl (hon 14 (by kernel_rfl)) rfl
       have e65 : a.tmps[65]? = some (.agg #[.int .i64 (wrap64 (7 + (Int.tmod (x8_3 / 256) 6))), .int .i64 0, .int .i64 0, .string (⟨#[]⟩ : ByteArray), .bool false, .string (⟨#[]⟩ : ByteArray), .string (⟨#[]⟩ : ByteArray)]) := by rw [ha]; exact putSel_on (e := (19, 65, .agg #[.int .i64 (wrap64 (7 + (Int.tmod (x8_3 / 256) 6))), .int .i64 0, .int .i64 0, .string (⟨#[]⟩ : ByteArray), .bool false, .string (⟨#[]⟩ : ByteArray), .string (⟨#[]⟩ : ByteArray)])) 16 rfl rfl (hon 19 (by kernel_rfl)) rfl
       replace ha := As.mk ha
       have HB := As.mk Q_HB
       have HO260 := As.mk (Q_HO260 (hon 0 (by kernel_rfl)))
       have HA_HO260 := As.mk (Q_HA_HO260 (hon 0 (by kernel_rfl)))
       have HO264 := As.mk (Q_HO264 (hon 7 (by kernel_rfl)))
       have HA_HO264 := As.mk (Q_HA_HO264 (hon 7 (by kernel_rfl)))
       obtain ⟨co25, eo25⟩ := HA_HO260.out
       clear HA_HO260
       subst eo25
       obtain ⟨co26, eo26⟩ := HA_HO264.out
       clear HA_HO264
       subst eo26
       refine Kd.R_lit_step k53 _ 53 ?hg (N := 66) ?hd (xs := ([(⟨2, (⟨0, 0, (⟨#[]⟩ : ByteArray), false⟩ : S51), rdOf ByteArray.empty y258 (ji11), (⟨#[115]⟩ : ByteArray)⟩ : S53), (⟨1, (⟨2, 0, rdOf ByteArray.empty y262 (ji14), false⟩ : S51), (⟨#[]⟩ : ByteArray), (⟨#[]⟩ : ByteArray)⟩ : S53), (⟨wrap64 (7 + (Int.tmod (x8_3 / 256) 6)), (⟨0, 0, (⟨#[]⟩ : ByteArray), false⟩ : S51), (⟨#[]⟩ : ByteArray), (⟨#[]⟩ : ByteArray)⟩ : S53)] : List (S53))) (inner := [.int .i64 2, .int .i64 0, .int .i64 0, .string (⟨#[]⟩ : ByteArray), .bool false, .string (rdOf ByteArray.empty y258 (ji11)), .string (⟨#[115]⟩ : ByteArray), .int .i64 1, .int .i64 2, .int .i64 0, .string (rdOf ByteArray.empty y262 (ji14)), .bool false, .string (⟨#[]⟩ : ByteArray), .string (⟨#[]⟩ : ByteArray), .int .i64 (wrap64 (7 + (Int.tmod (x8_3 / 256) 6))), .int .i64 0, .int .i64 0, .string (⟨#[]⟩ : ByteArray), .bool false, .string (⟨#[]⟩ : ByteArray), .string (⟨#[]⟩ : ByteArray)]) (ok := fun _ => True) (okp := fun _ => True) ?hr ?hp (fun _ hk => hk) trivial (Below.refl _ _) (Nat.le_refl _) (by simp) ?_; (case hd => rfl); (case hg => rfl); (case hr => first | (go_simp; done) | (go_simp; rfl)); (case hp => exact (Reps.c7 (show Kd.M k53 _ _ _ (⟨2, (⟨0, 0, (⟨#[]⟩ : ByteArray), false⟩ : S51), rdOf ByteArray.empty y258 (ji11), (⟨#[115]⟩ : ByteArray)⟩ : S53) [.int .i64 2, .int .i64 0, .int .i64 0, .string (⟨#[]⟩ : ByteArray), .bool false, .string (rdOf ByteArray.empty y258 (ji11)), .string (⟨#[115]⟩ : ByteArray)] from (k53_mkM _ _ _ (⟨2, (⟨0, 0, (⟨#[]⟩ : ByteArray), false⟩ : S51), rdOf ByteArray.empty y258 (ji11), (⟨#[115]⟩ : ByteArray)⟩ : S53) )) (Reps.c7 (show Kd.M k53 _ _ _ (⟨1, (⟨2, 0, rdOf ByteArray.empty y262 (ji14), false⟩ : S51), (⟨#[]⟩ : ByteArray), (⟨#[]⟩ : ByteArray)⟩ : S53) [.int .i64 1, .int .i64 2, .int .i64 0, .string (rdOf ByteArray.empty y262 (ji14)), .bool false, .string (⟨#[]⟩ : ByteArray), .string (⟨#[]⟩ : ByteArray)] from (k53_mkM _ _ _ (⟨1, (⟨2, 0, rdOf ByteArray.empty y262 (ji14), false⟩ : S51), (⟨#[]⟩ : ByteArray), (⟨#[]⟩ : ByteArray)⟩ : S53) )) (Reps.c7 (show Kd.M k53 _ _ _ (⟨wrap64 (7 + (Int.tmod (x8_3 / 256) 6)), (⟨0, 0, (⟨#[]⟩ : ByteArray), false⟩ : S51), (⟨#[]⟩ : ByteArray), (⟨#[]⟩ : ByteArray)⟩ : S53) [.int .i64 (wrap64 (7 + (Int.tmod (x8_3 / 256) 6))), .int .i64 0, .int .i64 0, .string (⟨#[]⟩ : ByteArray), .bool false, .string (⟨#[]⟩ : ByteArray), .string (⟨#[]⟩ : ByteArray)] from (k53_mkM _ _ _ (⟨wrap64 (7 + (Int.tmod (x8_3 / 256) 6)), (⟨0, 0, (⟨#[]⟩ : ByteArray), false⟩ : S51), (⟨#[]⟩ : ByteArray), (⟨#[]⟩ : ByteArray)⟩ : S53) )) (Reps.none _ _)))))
       intro v267 w27 ho28 hb hg_ hnew_
       clear hg_ hnew_
       (first | rw [← Ny266.out] at ho28 | (simp only [Int.reduceToNat] at ho28; rw [← Ny266.out] at ho28))
       have n0_ := As.mk (Kd.R_below (by (with_reducible repeat (first | apply Kd.rA | apply Kd.rN | apply Kd.rD)); exact HO260.out) hb)
       have n1_ := As.mk (Kd.R_below (by (with_reducible repeat (first | apply Kd.rA | apply Kd.rN | apply Kd.rD)); exact HO264.out) hb)
       have n2_ := As.mk (Kd.R_lower ho28 (bwZ (by repeat (first | (with_reducible first | exact HB.out | apply bwA | apply bwN | apply bwD) | exact HB.out))))
       have n3_ := As.mk (bwS (by repeat (first | (with_reducible first | exact HB.out | apply bwA | apply bwN | apply bwD) | exact HB.out)) hb)
       clear HO260
       clear HO264
       clear HB
       have HO260 := n0_
       have HO264 := n1_
       have HO268 := n2_
       have HB := n3_
       clear n0_ n1_ n2_ n3_
       clear hb ho28
       refine hK.out _ _ ⟨.slice (some adz_v259) y258.length co25, adz_v259, .slice (some adz_v263) y262.length co26, adz_v263, v267, m4_, m11_, m22_, (by rw [ha.out]; exact putSel_upk 17 hb_ rfl rfl rfl), (by repeat (first | (with_reducible first | exact HB.out | apply bwA | apply bwN | apply bwD) | exact HB.out)), fun _ => (by (with_reducible repeat (first | apply Kd.rA | apply Kd.rN | apply Kd.rD)); exact HO260.out), fun _ => ⟨_, rfl⟩, fun _ => (by (with_reducible repeat (first | apply Kd.rA | apply Kd.rN | apply Kd.rD)); exact HO264.out), fun _ => ⟨_, rfl⟩, fun _ => (by (with_reducible repeat (first | apply Kd.rA | apply Kd.rN | apply Kd.rD)); exact HO268.out), Q_X4_, Q_X11_, fun h0_ => absurd ((hoff 22 (by kernel_rfl)).symm.trans h0_) (by decide)⟩
      refine steps_cons ?_ ?_
      ·
       rintro b a w' ⟨v259, adz_v259, v263, adz_v263, v267, m4_, m11_, m22_, ha, Q_HB, Q_HO260, Q_HA_HO260, Q_HO264, Q_HA_HO264, Q_HO268, Q_X4_, Q_X11_, Q_X22_⟩ hb_ hon hoff
       refine ⟨_, rfl, fun K hK => ?_⟩
       have e66 : a.tmps[66]? = some (v267) := by rw [ha]; exact putSel_on (e := (20, 66, v267)) 17 rfl rfl (hon 20 (by kernel_rfl)) rfl
       replace ha := As.mk ha
       have HB := As.mk Q_HB
       have HO260 := As.mk (Q_HO260 (hon 0 (by kernel_rfl)))
       have HA_HO260 := As.mk (Q_HA_HO260 (hon 0 (by kernel_rfl)))
       have HO264 := As.mk (Q_HO264 (hon 7 (by kernel_rfl)))
       have HA_HO264 := As.mk (Q_HA_HO264 (hon 7 (by kernel_rfl)))
       have HO268 := As.mk (Q_HO268 (hon 20 (by kernel_rfl)))
       refine value_ (w1 := w') (v := v267) (by rfl) rfl ?_ ?_
       ·
        go_simp
        (try simp only [i64_w])
        try rfl
       refine hK.out _ _ ⟨v259, adz_v259, v263, adz_v263, v267, m4_, m11_, (v267), (by rw [ha.out]; exact putSel_upk 18 hb_ rfl rfl rfl), Q_HB, Q_HO260, Q_HA_HO260, Q_HO264, Q_HA_HO264, Q_HO268, Q_X4_, Q_X11_, fun _ => rfl⟩
      refine steps_cons ?_ ?_
      ·
       rintro b a w' ⟨v259, adz_v259, v263, adz_v263, v267, m4_, m11_, m22_, ha, Q_HB, Q_HO260, Q_HA_HO260, Q_HO264, Q_HA_HO264, Q_HO268, Q_X4_, Q_X11_, Q_X22_⟩ hb_ hon hoff
       refine ⟨_, rfl, fun K hK => ?_⟩
       have e67 : a.tmps[67]? = some (.int .i64 (wrap64 (a1 + 1))) := by rw [ha]; exact (putSel_off rfl).trans rfl
       replace ha := As.mk ha
       have HB := As.mk Q_HB
       have HO260 := As.mk (Q_HO260 (hon 0 (by kernel_rfl)))
       have HA_HO260 := As.mk (Q_HA_HO260 (hon 0 (by kernel_rfl)))
       have HO264 := As.mk (Q_HO264 (hon 7 (by kernel_rfl)))
       have HA_HO264 := As.mk (Q_HA_HO264 (hon 7 (by kernel_rfl)))
       have HO268 := As.mk (Q_HO268 (hon 20 (by kernel_rfl)))
       refine value_ (w1 := w') (v := .int .i64 (wrap64 (a1 + 1))) (by rfl) rfl ?_ ?_
       ·
        go_simp
        (try simp only [i64_w])
        try rfl
       refine hK.out _ _ ⟨v259, adz_v259, v263, adz_v263, v267, m4_, m11_, m22_, (by rw [ha.out]; exact putSel_upk 19 hb_ rfl rfl rfl), Q_HB, Q_HO260, Q_HA_HO260, Q_HO264, Q_HA_HO264, Q_HO268, Q_X4_, Q_X11_, Q_X22_⟩
      exact steps_nil
     rintro b a w26 hall ⟨v259, adz_v259, v263, adz_v263, v267, m4_, m11_, m22_, ha, Q_HB, Q_HO260, Q_HA_HO260, Q_HO264, Q_HA_HO264, Q_HO268, Q_X4_, Q_X11_, Q_X22_⟩
     clear HB
     have hb0_ := hall 0 (by kernel_rfl)
     have hb2_ := hall 2 (by kernel_rfl)
     have hb3_ := hall 3 (by kernel_rfl)
     have hb4_ := hall 4 (by kernel_rfl)
     have hb5_ := hall 5 (by kernel_rfl)
     have hb6_ := hall 6 (by kernel_rfl)
     have hb7_ := hall 7 (by kernel_rfl)
     have hb9_ := hall 9 (by kernel_rfl)
     have hb10_ := hall 10 (by kernel_rfl)
     have hb11_ := hall 11 (by kernel_rfl)
     have hb12_ := hall 12 (by kernel_rfl)
     have hb13_ := hall 13 (by kernel_rfl)
     have hb14_ := hall 14 (by kernel_rfl)
     have hb16_ := hall 16 (by kernel_rfl)
     have hb17_ := hall 17 (by kernel_rfl)
     have hb18_ := hall 18 (by kernel_rfl)
     have hb19_ := hall 19 (by kernel_rfl)
     have hb20_ := hall 20 (by kernel_rfl)
     have hb22_ := hall 22 (by kernel_rfl)
     have hb23_ := hall 23 (by kernel_rfl)
     subst ha
     obtain rfl := Q_X4_ hb4_
     obtain rfl := Q_X11_ hb11_
     obtain rfl := Q_X22_ hb22_
     simp only [putSel, hb0_, hb2_, hb3_, hb4_, hb5_, hb6_, hb7_, hb9_, hb10_, hb11_, hb12_, hb13_, hb14_, hb16_, hb17_, hb18_, hb19_, hb20_, hb22_, hb23_, if_true, Act.put, List.setIfInBounds_toArray, List.set_cons_zero, List.set_cons_succ]
     have HB := As.mk Q_HB
     clear Q_HB
     have HO260 := As.mk (Q_HO260 hb0_)
     clear Q_HO260
     have HA_HO260 := As.mk (Q_HA_HO260 hb0_)
     clear Q_HA_HO260
     have HO264 := As.mk (Q_HO264 hb7_)
     clear Q_HO264
     have HA_HO264 := As.mk (Q_HA_HO264 hb7_)
     clear Q_HA_HO264
     have HO268 := As.mk (Q_HO268 hb20_)
     clear Q_HO268
     clear hall hb0_ hb2_ hb3_ hb4_ hb5_ hb6_ hb7_ hb9_ hb10_ hb11_ hb12_ hb13_ hb14_ hb16_ hb17_ hb18_ hb19_ hb20_ hb22_ hb23_
     obtain ⟨co27, eo27⟩ := HA_HO260.out
     clear HA_HO260
     subst eo27
     obtain ⟨co28, eo28⟩ := HA_HO264.out
     clear HA_HO264
     subst eo28
     try go_wp2
     go_ret2
     exact ⟨_, by first | rfl | (simp [errW_none, errW_some] <;> rfl) | (simp only [← hji11, ← hji14]; first | rfl | (simp [errW_none, errW_some] <;> rfl)) | (simp [*, errW_none, errW_some] <;> rfl), by (with_reducible repeat (first | apply Kd.rA | apply Kd.rN | apply Kd.rD)); exact HO268.out, by repeat (first | (with_reducible first | exact HB.out | apply bwA | apply bwN | apply bwD) | exact HB.out)⟩
    ·
     rw [if_neg c10] at H
     have c10b0 : ((Int.tmod x8_3 7) == 5) = false := beq_eq_false_iff_ne.mpr c10
     have c10b1 : ((Int.tmod x8_3 7) != 5) = true := bne_iff_ne.mpr c10
     have HC29 := As.mk H
     clear H
     go_upto_region 9 with (fail)
     go_cut [68] (fun v68 wc => ∃ (kq : Nat) (x68_28 : Bool), v68 = .bool x68_28 ∧ As (lamplighterref11_Truth.j1 kq l0 (wrap64 (a1 + 1)) a2 x8_3 x68_28 = some (r1, r2)) ∧ As (kq ≤ kj3) ∧ As (Below w.heap.size w wc))
     case first =>
      have H := HC29.out
      clear HC29
      by_cases c30 : a2 = 0
      ·
       rw [if_pos c30] at H
       have c30b0 : (a2 == 0) = true := beq_iff_eq.mpr c30
       have c30b1 : (a2 != 0) = false := bne_eq_false_iff_eq.mpr c30
       clear c30
       (first | rw [c30b0] | (simp only [i64_w, i32_w]; rw [c30b0]) | skip)
       have H' := As.mk H
       clear H
       go_wp2
       go_meet
       case rel => exact ⟨_, (true), (by first | rfl | (simp; done) | (simp [*]; done)), H', ⟨by have := HJ3.out; first | omega | exact Nat.le_refl _⟩, ⟨by repeat (first | (with_reducible first | exact HB.out | apply bwA | apply bwN | apply bwD) | exact HB.out)⟩⟩
      ·
       rw [if_neg c30] at H
       have c30b0 : (a2 == 0) = false := beq_eq_false_iff_ne.mpr c30
       have c30b1 : (a2 != 0) = true := bne_iff_ne.mpr c30
       (first | rw [c30b0] | (simp only [i64_w, i32_w]; rw [c30b0]) | skip)
       have H' := As.mk H
       clear H
       go_wp2
       go_meet
       case rel => exact ⟨_, (decide ((Int.tmod x8_3 7) < 2)), (by first | rfl | (simp; done) | (simp [*]; done)), H', ⟨by have := HJ3.out; first | omega | exact Nat.le_refl _⟩, ⟨by repeat (first | (with_reducible first | exact HB.out | apply bwA | apply bwN | apply bwD) | exact HB.out)⟩⟩
     case rest =>
      clear HC29
      try clear c1
      try clear p2
      try clear q2
      try clear hx2
      try clear qi2
      try clear c3
      try clear c5
      try clear c5b0
      try clear c6
      try clear c6b0
      try clear p6
      try clear c7
      try clear c7b0
      try clear c7b1
      try clear c9
      try clear c10
      try clear c10b0
      try clear c10b1
      try clear c12
      try clear c12b0
      try clear c13
      try clear c13b0
      try clear c15
      try clear c15b0
      try clear c16
      try clear c16b0
      try clear p25
      try clear q25
      try clear hx25
      try clear qi26
      try clear c30
      try clear c30b0
      try clear c30b1
      try clear hx254_0
      try clear p2
      try clear p254
      try clear q2
      try clear q254
      obtain ⟨kq, x68_28, rfl, HA, HJ28, HB⟩ := hcut
      cases kq with
      | zero => exact absurd HA.out (by simp [lamplighterref11_Truth.j1])
      | succ kj28 =>
       have H := HA.out
       clear HA
       simp only [lamplighterref11_Truth.j1] at H
       by_cases c31 : x68_28 = true
       ·
        subst c31
        have H1 : ((lamplighterref11_Number.f kj28 l0 (wrap64 (a1 + 1)) (mn a2 2)).bind fun bt269 => ((lamplighterref11_Number.f kj28 l0 bt269.2 (mn a2 2)).bind fun bt273 => (if bt269.1.length + bt273.1.length < 1759218604441 then ((some (bt269.1 ++ bt273.1 : List (S53))).bind fun y277 => (if y277.length < 1759218604441 then (some ((y277 ++ [(⟨wrap64 (7 + (Int.tmod (x8_3 / 16) 6)), (⟨0, 0, (⟨#[]⟩ : ByteArray), false⟩ : S51), (⟨#[]⟩ : ByteArray), (⟨#[]⟩ : ByteArray)⟩ : S53)]), bt273.2)) else (none))) else (none)))) = some (r1, r2) := by rw [if_pos rfl] at H; exact H
        clear H
        have H := H1
        clear H1
        obtain ⟨ji32, hji32⟩ : ∃ j_ : Int, (mn a2 2) = j_ := ⟨_, rfl⟩
        replace H : ((lamplighterref11_Number.f kj28 l0 (wrap64 (a1 + 1)) (ji32)).bind fun bt269 => ((lamplighterref11_Number.f kj28 l0 bt269.2 (ji32)).bind fun bt273 => (if bt269.1.length + bt273.1.length < 1759218604441 then ((some (bt269.1 ++ bt273.1 : List (S53))).bind fun y277 => (if y277.length < 1759218604441 then (some ((y277 ++ [(⟨wrap64 (7 + (Int.tmod (x8_3 / 16) 6)), (⟨0, 0, (⟨#[]⟩ : ByteArray), false⟩ : S51), (⟨#[]⟩ : ByteArray), (⟨#[]⟩ : ByteArray)⟩ : S53)]), bt273.2)) else (none))) else (none)))) = some (r1, r2) := by first | (rw [hji32] at H; exact H) | (simp only [hji32] at H ⊢; exact H)
        have hji32_ : (if 2 < a2 then 2 else a2) = ji32 := hji32
        replace H := Option.bind_eq_some_iff.mp H
        obtain ⟨⟨t269, t270⟩, A330, H⟩ := H
        replace H : ((lamplighterref11_Number.f kj28 l0 t270 (ji32)).bind fun bt273 => (if t269.length + bt273.1.length < 1759218604441 then ((some (t269 ++ bt273.1 : List (S53))).bind fun y277 => (if y277.length < 1759218604441 then (some ((y277 ++ [(⟨wrap64 (7 + (Int.tmod (x8_3 / 16) 6)), (⟨0, 0, (⟨#[]⟩ : ByteArray), false⟩ : S51), (⟨#[]⟩ : ByteArray), (⟨#[]⟩ : ByteArray)⟩ : S53)]), bt273.2)) else (none))) else (none))) = some (r1, r2) := H
        have A33 := As.mk A330
        clear A330
        replace H := Option.bind_eq_some_iff.mp H
        obtain ⟨⟨t273, t274⟩, A340, H⟩ := H
        replace H : (if t269.length + t273.length < 1759218604441 then ((some (t269 ++ t273 : List (S53))).bind fun y277 => (if y277.length < 1759218604441 then (some ((y277 ++ [(⟨wrap64 (7 + (Int.tmod (x8_3 / 16) 6)), (⟨0, 0, (⟨#[]⟩ : ByteArray), false⟩ : S51), (⟨#[]⟩ : ByteArray), (⟨#[]⟩ : ByteArray)⟩ : S53)]), t274)) else (none))) else (none)) = some (r1, r2) := H
        have A34 := As.mk A340
        clear A340
        replace H := ite_some H
        obtain ⟨c35, H⟩ := H
        have LMc35 := As.mk c35
        clear c35
        obtain ⟨y277, hy277⟩ : ∃ y_ : List (S53), y_ = (t269 ++ t273) := ⟨_, rfl⟩
        replace H : (if y277.length < 1759218604441 then (some ((y277 ++ [(⟨wrap64 (7 + (Int.tmod (x8_3 / 16) 6)), (⟨0, 0, (⟨#[]⟩ : ByteArray), false⟩ : S51), (⟨#[]⟩ : ByteArray), (⟨#[]⟩ : ByteArray)⟩ : S53)]), t274)) else (none)) = some (r1, r2) := by first | (rw [hy277]; with_reducible exact H) | (have H2_ := (Option.bind_some _ _).symm.trans H; rw [hy277]; with_reducible exact H2_) | (have H2_ := (Option.bind_some _ _).symm.trans H; with_reducible exact H2_) | with_reducible exact H | (rw [hy277]; exact H) | exact H
        have Ny277 := As.mk hy277
        clear hy277
        replace H := ite_some H
        obtain ⟨c36, H⟩ := H
        have LMc36 := As.mk c36
        clear c36
        obtain ⟨y280, hy280⟩ : ∃ y_ : List (S53), y_ = (y277 ++ [(⟨wrap64 (7 + (Int.tmod (x8_3 / 16) 6)), (⟨0, 0, (⟨#[]⟩ : ByteArray), false⟩ : S51), (⟨#[]⟩ : ByteArray), (⟨#[]⟩ : ByteArray)⟩ : S53)]) := ⟨_, rfl⟩
        replace H : (some (y280, t274)) = some (r1, r2) := by first | (rw [hy280]; with_reducible exact H) | (have H2_ := (Option.bind_some _ _).symm.trans H; rw [hy280]; with_reducible exact H2_) | (have H2_ := (Option.bind_some _ _).symm.trans H; with_reducible exact H2_) | with_reducible exact H | (rw [hy280]; exact H) | exact H
        have Ny280 := As.mk hy280
        clear hy280
        simp only [Option.some.injEq, Prod.mk.injEq] at H
        obtain ⟨rfl, rfl⟩ := H
        go_wp2_with (first | ((with_reducible refine gaC (f := 10) rfl ?_); refine goesL_ (some 81) rfl rfl Tryd.func10 (by kernel_rfl) rfl #[.slice A0 l0.length c0, .int .i64 (wrap64 (a1 + 1)), .int .i64 ji32] rfl (by (try simp only [List.map_toArray, List.map_cons, List.map_nil]); first | done | (simp only [hji32]; rfl) | rfl | (simp only [List.length_drop, List.length_take]; rfl)) ?_; (with_reducible refine (lamplighterref11_Number.calls kj28 _ _ l0 (wrap64 (a1 + 1)) ji32 t269 t270 _ ?side1 ?side2 A33.out).mono ?_); (case side1 => repeat (first | exact (Kd.C_below HR0.out HB.out) | (with_reducible refine Kd.C_alloc ?_ _) | (with_reducible refine Kd.C_drewN ?_ _) | (with_reducible refine Kd.C_drew ?_))); (case side2 => exact HC0.out); rintro e w37 ⟨v271, rfl, ho0, hb⟩; refine ⟨_, rfl, ?_⟩; have n0_ := As.mk (Kd.R_lower ho0 (bwZ (by repeat (first | (with_reducible first | exact HB.out | apply bwA | apply bwN | apply bwD) | exact HB.out)))); have n1_ := As.mk (bwS (by repeat (first | (with_reducible first | exact HB.out | apply bwA | apply bwN | apply bwD) | exact HB.out)) hb); clear HB; have HO272 := n0_; have HB := n1_; clear n0_ n1_; (try clear hb); (try clear hb2); (try clear hk); (try clear hi); (try clear ho0)) | ((with_reducible refine gaC (f := 10) rfl ?_); refine goesL_ (some 89) rfl rfl Tryd.func10 (by kernel_rfl) rfl #[.slice A0 l0.length c0, .int .i64 t270, .int .i64 ji32] rfl (by (try simp only [List.map_toArray, List.map_cons, List.map_nil]); first | done | (simp only [hji32]; rfl) | rfl | (simp only [List.length_drop, List.length_take]; rfl)) ?_; (with_reducible refine (lamplighterref11_Number.calls kj28 _ _ l0 t270 ji32 t273 t274 _ ?side1 ?side2 A34.out).mono ?_); (case side1 => repeat (first | exact (Kd.C_below HR0.out HB.out) | (with_reducible refine Kd.C_alloc ?_ _) | (with_reducible refine Kd.C_drewN ?_ _) | (with_reducible refine Kd.C_drew ?_))); (case side2 => exact HC0.out); rintro e w38 ⟨v275, rfl, ho0, hb⟩; refine ⟨_, rfl, ?_⟩; have n0_ := As.mk (Kd.R_elder' (by (with_reducible repeat (first | apply Kd.rA | apply Kd.rN | apply Kd.rD)); exact HO272.out) (Kd.R_base ho0) hb); have n1_ := As.mk (Kd.R_lower (Kd.R_new' ho0 (Kd.R_lt (by (with_reducible repeat (first | apply Kd.rA | apply Kd.rN | apply Kd.rD)); exact HO272.out))) (bwZ (by repeat (first | (with_reducible first | exact HB.out | apply bwA | apply bwN | apply bwD) | exact HB.out)))); have n2_ := As.mk (bwS (by repeat (first | (with_reducible first | exact HB.out | apply bwA | apply bwN | apply bwD) | exact HB.out)) hb); clear HO272; clear HB; have HO272 := n0_; have HO276 := n1_; have HB := n2_; clear n0_ n1_ n2_; (try clear hb); (try clear hb2); (try clear hk); (try clear hi); (try clear ho0); obtain ⟨Ao40, co40, eo40⟩ := Kd.R_slice HO276.out; subst eo40) | ((with_reducible refine gaB (b := .append) (xs := #[.tmp 92, .tmp 93]) rfl ?_); at_builtin; refine Kd.R_append_rows k53 (w0 := w) w.heap.size rfl (.tmp 92) (.tmp 93) 23 53 (.agg #[(.int .i64 0), (.int .i64 0), (.int .i64 0), (.string ⟨#[]⟩), (.bool false), (.string ⟨#[]⟩), (.string ⟨#[]⟩)]) 80 rfl Tryd.underlying23 info53 rfl (by decide) (by omega) v271 t269 t273 _ _ _ (fun k_ => some k_ ≠ (.slice Ao40 t273.length co40 : Value).ownBlock) (fun _ => False) rfl rfl ?aO ?aR (fun _ _ h => h) (fun _ h => h.elim) ?aF ?aB ?aS ?aL ?_; (case aR => repeat (first | exact (Kd.R_reads' HO276.out).2.2 | (with_reducible refine Kd.C_alloc ?_ _) | (with_reducible refine Kd.C_drewN ?_ _) | (with_reducible refine Kd.C_drew ?_))); (case aB => exact (by repeat (first | (with_reducible first | exact HB.out | apply bwA | apply bwN | apply bwD) | exact HB.out))); (case aF => exact (fun k_ hk => Kd.fresh' (Kd.R_lt (by (with_reducible repeat (first | apply Kd.rA | apply Kd.rN | apply Kd.rD)); exact HO276.out)) k_ hk)); (case aO => exact (by (with_reducible repeat (first | apply Kd.rA | apply Kd.rN | apply Kd.rD)); exact Kd.R_mono HO272.out (fun _ hk => hk.2))); (case aS => exact (bwZ (by repeat (first | (with_reducible first | exact HB.out | apply bwA | apply bwN | apply bwD) | exact HB.out)))); (case aL => have := LMc35.out; omega); intro v278 w39 ho hb hg hat; rw [← Ny277.out] at ho; have n0_ := As.mk (Kd.R_after (ok := (fun _ => True)) (by (with_reducible repeat (first | apply Kd.rA | apply Kd.rN | apply Kd.rD)); exact HO276.out) hg hat); have n1_ := As.mk (hb); have n2_ := As.mk (ho); clear HO276; clear HB; clear HO272; have HO276 := n0_; have HB := n1_; have HO279 := n2_; clear n0_ n1_ n2_; clear ho hb hg hat) | ((with_reducible refine gaB (b := .append) (xs := #[.tmp 94, .tmp 100]) rfl ?_); at_builtin; refine Kd.R_append k53 (w0 := w) w.heap.size rfl (.tmp 94) (.tmp 100) 23 53 (.agg #[(.int .i64 0), (.int .i64 0), (.int .i64 0), (.string ⟨#[]⟩), (.bool false), (.string ⟨#[]⟩), (.string ⟨#[]⟩)]) 80 rfl Tryd.underlying23 info53 rfl (by decide) (by omega) v278 y277 (⟨wrap64 (7 + (Int.tmod (x8_3 / 16) 6)), (⟨0, 0, (⟨#[]⟩ : ByteArray), false⟩ : S51), (⟨#[]⟩ : ByteArray), (⟨#[]⟩ : ByteArray)⟩ : S53) [.int .i64 (wrap64 (7 + (Int.tmod (x8_3 / 16) 6))), .int .i64 0, .int .i64 0, .string (⟨#[]⟩ : ByteArray), .bool false, .string (⟨#[]⟩ : ByteArray), .string (⟨#[]⟩ : ByteArray)] (fun k_ => some k_ ≠ (.slice Ao40 t273.length co40 : Value).ownBlock) (fun _ => False) rfl rfl ?aP (fun _ hk => hk.elim) ?aF ?aO ?aB ?aS ?aL ?_; (case aP => exact k53_mkM _ _ _ (⟨wrap64 (7 + (Int.tmod (x8_3 / 16) 6)), (⟨0, 0, (⟨#[]⟩ : ByteArray), false⟩ : S51), (⟨#[]⟩ : ByteArray), (⟨#[]⟩ : ByteArray)⟩ : S53)); (case aB => exact (by repeat (first | (with_reducible first | exact HB.out | apply bwA | apply bwN | apply bwD) | exact HB.out))); (case aF => exact (fun k_ hk => Kd.fresh' (Kd.R_lt (by (with_reducible repeat (first | apply Kd.rA | apply Kd.rN | apply Kd.rD)); exact HO276.out)) k_ hk)); (case aO => exact (by (with_reducible repeat (first | apply Kd.rA | apply Kd.rN | apply Kd.rD)); exact HO279.out)); (case aS => exact (bwZ (by repeat (first | (with_reducible first | exact HB.out | apply bwA | apply bwN | apply bwD) | exact HB.out)))); (case aL => have := LMc36.out; omega); intro v281 w41 ho hb hg hat; rw [← Ny280.out] at ho; have n0_ := As.mk (Kd.R_after (ok := (fun _ => True)) (by (with_reducible repeat (first | apply Kd.rA | apply Kd.rN | apply Kd.rD)); exact HO276.out) hg hat); have n1_ := As.mk (hb); have n2_ := As.mk (ho); clear HO276; clear HB; clear HO279; have HO276 := n0_; have HB := n1_; have HO282 := n2_; clear n0_ n1_ n2_; clear ho hb hg hat))
        go_ret2
        exact ⟨_, by first | rfl | (simp [errW_none, errW_some] <;> rfl) | (simp only [← hji32]; first | rfl | (simp [errW_none, errW_some] <;> rfl)) | (simp [*, errW_none, errW_some] <;> rfl), by (with_reducible repeat (first | apply Kd.rA | apply Kd.rN | apply Kd.rD)); exact Kd.R_mono HO282.out (fun _ hk => trivial), by repeat (first | (with_reducible first | exact HB.out | apply bwA | apply bwN | apply bwD) | exact HB.out)⟩
       ·
        replace c31 := Bool.eq_false_iff.mpr c31
        subst c31
        have H1 : (if (Int.tmod x8_3 7) = 2 then ((lamplighterref11_Truth.f kj28 l0 (wrap64 (a1 + 1)) (wrap64 (a2 - 1))).bind fun bt283 => (if bt283.1.length < 1759218604441 then (some ((bt283.1 ++ [(⟨13, (⟨0, 0, (⟨#[]⟩ : ByteArray), false⟩ : S51), (⟨#[]⟩ : ByteArray), (⟨#[]⟩ : ByteArray)⟩ : S53)]), bt283.2)) else (none))) else ((lamplighterref11_Truth.f kj28 l0 (wrap64 (a1 + 1)) (wrap64 (a2 - 1))).bind fun bt290 => ((lamplighterref11_Truth.f kj28 l0 bt290.2 (wrap64 (a2 - 1))).bind fun bt294 => (if bt290.1.length + bt294.1.length < 1759218604441 then ((some (bt290.1 ++ bt294.1 : List (S53))).bind fun y298 => (if y298.length < 1759218604441 then (some ((y298 ++ [(⟨wrap64 (14 + (Go.bits .and .i64 (x8_3 / 16) 1)), (⟨0, 0, (⟨#[]⟩ : ByteArray), false⟩ : S51), (⟨#[]⟩ : ByteArray), (⟨#[]⟩ : ByteArray)⟩ : S53)]), bt294.2)) else (none))) else (none))))) = some (r1, r2) := by rw [if_neg (show ¬ (false = true) by decide)] at H; exact H
        clear H
        have H := H1
        clear H1
        by_cases c42 : (Int.tmod x8_3 7) = 2
        ·
         rw [if_pos c42] at H
         have c42b0 : ((Int.tmod x8_3 7) == 2) = true := beq_iff_eq.mpr c42
         have c42b1 : ((Int.tmod x8_3 7) != 2) = false := bne_eq_false_iff_eq.mpr c42
         clear c42
         replace H := Option.bind_eq_some_iff.mp H
         obtain ⟨⟨t283, t284⟩, A430, H⟩ := H
         replace H : (if t283.length < 1759218604441 then (some ((t283 ++ [(⟨13, (⟨0, 0, (⟨#[]⟩ : ByteArray), false⟩ : S51), (⟨#[]⟩ : ByteArray), (⟨#[]⟩ : ByteArray)⟩ : S53)]), t284)) else (none)) = some (r1, r2) := H
         have A43 := As.mk A430
         clear A430
         replace H := ite_some H
         obtain ⟨c44, H⟩ := H
         have LMc44 := As.mk c44
         clear c44
         obtain ⟨y287, hy287⟩ : ∃ y_ : List (S53), y_ = (t283 ++ [(⟨13, (⟨0, 0, (⟨#[]⟩ : ByteArray), false⟩ : S51), (⟨#[]⟩ : ByteArray), (⟨#[]⟩ : ByteArray)⟩ : S53)]) := ⟨_, rfl⟩
         replace H : (some (y287, t284)) = some (r1, r2) := by first | (rw [hy287]; with_reducible exact H) | (have H2_ := (Option.bind_some _ _).symm.trans H; rw [hy287]; with_reducible exact H2_) | (have H2_ := (Option.bind_some _ _).symm.trans H; with_reducible exact H2_) | with_reducible exact H | (rw [hy287]; exact H) | exact H
         have Ny287 := As.mk hy287
         clear hy287
         simp only [Option.some.injEq, Prod.mk.injEq] at H
         obtain ⟨rfl, rfl⟩ := H
         go_wp2_with (first | ((with_reducible refine gaC (f := 9) rfl ?_); refine goesL_ (some 112) rfl rfl Tryd.func9 (by kernel_rfl) rfl #[.slice A0 l0.length c0, .int .i64 (wrap64 (a1 + 1)), .int .i64 (wrap64 (a2 - 1))] rfl (by simp only [List.map_toArray, List.map_cons, List.map_nil]; try rfl) ?_; (with_reducible refine (ih kj28 (by have := HJ3.out; have := HJ28.out; omega) _ _ l0 (wrap64 (a1 + 1)) (wrap64 (a2 - 1)) t283 t284 _ ?side1 ?side2 A43.out).mono ?_); (case side1 => repeat (first | exact (Kd.C_below HR0.out HB.out) | (with_reducible refine Kd.C_alloc ?_ _) | (with_reducible refine Kd.C_drewN ?_ _) | (with_reducible refine Kd.C_drew ?_))); (case side2 => exact HC0.out); rintro e w45 ⟨v285, rfl, ho0, hb⟩; refine ⟨_, rfl, ?_⟩; have n0_ := As.mk (Kd.R_lower ho0 (bwZ (by repeat (first | (with_reducible first | exact HB.out | apply bwA | apply bwN | apply bwD) | exact HB.out)))); have n1_ := As.mk (bwS (by repeat (first | (with_reducible first | exact HB.out | apply bwA | apply bwN | apply bwD) | exact HB.out)) hb); clear HB; have HO286 := n0_; have HB := n1_; clear n0_ n1_; (try clear hb); (try clear hb2); (try clear hk); (try clear hi); (try clear ho0)) | ((with_reducible refine gaB (b := .append) (xs := #[.tmp 115, .tmp 117]) rfl ?_); at_builtin; refine Kd.R_append k53 (w0 := w) w.heap.size rfl (.tmp 115) (.tmp 117) 23 53 (.agg #[(.int .i64 0), (.int .i64 0), (.int .i64 0), (.string ⟨#[]⟩), (.bool false), (.string ⟨#[]⟩), (.string ⟨#[]⟩)]) 80 rfl Tryd.underlying23 info53 rfl (by decide) (by omega) v285 t283 (⟨13, (⟨0, 0, (⟨#[]⟩ : ByteArray), false⟩ : S51), (⟨#[]⟩ : ByteArray), (⟨#[]⟩ : ByteArray)⟩ : S53) [.int .i64 13, .int .i64 0, .int .i64 0, .string (⟨#[]⟩ : ByteArray), .bool false, .string (⟨#[]⟩ : ByteArray), .string (⟨#[]⟩ : ByteArray)] (fun _ => True) (fun _ => False) rfl rfl ?aP (fun _ hk => hk.elim) ?aF ?aO ?aB ?aS ?aL ?_; (case aP => exact k53_mkM _ _ _ (⟨13, (⟨0, 0, (⟨#[]⟩ : ByteArray), false⟩ : S51), (⟨#[]⟩ : ByteArray), (⟨#[]⟩ : ByteArray)⟩ : S53)); (case aB => exact (by repeat (first | (with_reducible first | exact HB.out | apply bwA | apply bwN | apply bwD) | exact HB.out))); (case aF => exact (fun _ _ => trivial)); (case aO => exact (by (with_reducible repeat (first | apply Kd.rA | apply Kd.rN | apply Kd.rD)); exact HO286.out)); (case aS => exact (bwZ (by repeat (first | (with_reducible first | exact HB.out | apply bwA | apply bwN | apply bwD) | exact HB.out)))); (case aL => have := LMc44.out; omega); intro v288 w46 ho hb hg hat; rw [← Ny287.out] at ho; have n0_ := As.mk (hb); have n1_ := As.mk (ho); clear HB; clear HO286; have HB := n0_; have HO289 := n1_; clear n0_ n1_; clear ho hb hg hat))
         go_ret2
         exact ⟨_, by first | rfl | (simp [errW_none, errW_some] <;> rfl) | (simp [*, errW_none, errW_some] <;> rfl), by (with_reducible repeat (first | apply Kd.rA | apply Kd.rN | apply Kd.rD)); exact HO289.out, by repeat (first | (with_reducible first | exact HB.out | apply bwA | apply bwN | apply bwD) | exact HB.out)⟩
        ·
         rw [if_neg c42] at H
         have c42b0 : ((Int.tmod x8_3 7) == 2) = false := beq_eq_false_iff_ne.mpr c42
         have c42b1 : ((Int.tmod x8_3 7) != 2) = true := bne_iff_ne.mpr c42
         replace H := Option.bind_eq_some_iff.mp H
         obtain ⟨⟨t290, t291⟩, A470, H⟩ := H
         replace H : ((lamplighterref11_Truth.f kj28 l0 t291 (wrap64 (a2 - 1))).bind fun bt294 => (if t290.length + bt294.1.length < 1759218604441 then ((some (t290 ++ bt294.1 : List (S53))).bind fun y298 => (if y298.length < 1759218604441 then (some ((y298 ++ [(⟨wrap64 (14 + (Go.bits .and .i64 (x8_3 / 16) 1)), (⟨0, 0, (⟨#[]⟩ : ByteArray), false⟩ : S51), (⟨#[]⟩ : ByteArray), (⟨#[]⟩ : ByteArray)⟩ : S53)]), bt294.2)) else (none))) else (none))) = some (r1, r2) := H
         have A47 := As.mk A470
         clear A470
         replace H := Option.bind_eq_some_iff.mp H
         obtain ⟨⟨t294, t295⟩, A480, H⟩ := H
         replace H : (if t290.length + t294.length < 1759218604441 then ((some (t290 ++ t294 : List (S53))).bind fun y298 => (if y298.length < 1759218604441 then (some ((y298 ++ [(⟨wrap64 (14 + (Go.bits .and .i64 (x8_3 / 16) 1)), (⟨0, 0, (⟨#[]⟩ : ByteArray), false⟩ : S51), (⟨#[]⟩ : ByteArray), (⟨#[]⟩ : ByteArray)⟩ : S53)]), t295)) else (none))) else (none)) = some (r1, r2) := H
         have A48 := As.mk A480
         clear A480
         replace H := ite_some H
         obtain ⟨c49, H⟩ := H
         have LMc49 := As.mk c49
         clear c49
         obtain ⟨y298, hy298⟩ : ∃ y_ : List (S53), y_ = (t290 ++ t294) := ⟨_, rfl⟩
         replace H : (if y298.length < 1759218604441 then (some ((y298 ++ [(⟨wrap64 (14 + (Go.bits .and .i64 (x8_3 / 16) 1)), (⟨0, 0, (⟨#[]⟩ : ByteArray), false⟩ : S51), (⟨#[]⟩ : ByteArray), (⟨#[]⟩ : ByteArray)⟩ : S53)]), t295)) else (none)) = some (r1, r2) := by first | (rw [hy298]; with_reducible exact H) | (have H2_ := (Option.bind_some _ _).symm.trans H; rw [hy298]; with_reducible exact H2_) | (have H2_ := (Option.bind_some _ _).symm.trans H; with_reducible exact H2_) | with_reducible exact H | (rw [hy298]; exact H) | exact H
         have Ny298 := As.mk hy298
         clear hy298
         replace H := ite_some H
         obtain ⟨c50, H⟩ := H
         have LMc50 := As.mk c50
         clear c50
         obtain ⟨y301, hy301⟩ : ∃ y_ : List (S53), y_ = (y298 ++ [(⟨wrap64 (14 + (Go.bits .and .i64 (x8_3 / 16) 1)), (⟨0, 0, (⟨#[]⟩ : ByteArray), false⟩ : S51), (⟨#[]⟩ : ByteArray), (⟨#[]⟩ : ByteArray)⟩ : S53)]) := ⟨_, rfl⟩
         replace H : (some (y301, t295)) = some (r1, r2) := by first | (rw [hy301]; with_reducible exact H) | (have H2_ := (Option.bind_some _ _).symm.trans H; rw [hy301]; with_reducible exact H2_) | (have H2_ := (Option.bind_some _ _).symm.trans H; with_reducible exact H2_) | with_reducible exact H | (rw [hy301]; exact H) | exact H
         have Ny301 := As.mk hy301
         clear hy301
         simp only [Option.some.injEq, Prod.mk.injEq] at H
         obtain ⟨rfl, rfl⟩ := H
         go_wp2_with (first | ((with_reducible refine gaC (f := 9) rfl ?_); refine goesL_ (some 125) rfl rfl Tryd.func9 (by kernel_rfl) rfl #[.slice A0 l0.length c0, .int .i64 (wrap64 (a1 + 1)), .int .i64 (wrap64 (a2 - 1))] rfl (by simp only [List.map_toArray, List.map_cons, List.map_nil]; try rfl) ?_; (with_reducible refine (ih kj28 (by have := HJ3.out; have := HJ28.out; omega) _ _ l0 (wrap64 (a1 + 1)) (wrap64 (a2 - 1)) t290 t291 _ ?side1 ?side2 A47.out).mono ?_); (case side1 => repeat (first | exact (Kd.C_below HR0.out HB.out) | (with_reducible refine Kd.C_alloc ?_ _) | (with_reducible refine Kd.C_drewN ?_ _) | (with_reducible refine Kd.C_drew ?_))); (case side2 => exact HC0.out); rintro e w51 ⟨v292, rfl, ho0, hb⟩; refine ⟨_, rfl, ?_⟩; have n0_ := As.mk (Kd.R_lower ho0 (bwZ (by repeat (first | (with_reducible first | exact HB.out | apply bwA | apply bwN | apply bwD) | exact HB.out)))); have n1_ := As.mk (bwS (by repeat (first | (with_reducible first | exact HB.out | apply bwA | apply bwN | apply bwD) | exact HB.out)) hb); clear HB; have HO293 := n0_; have HB := n1_; clear n0_ n1_; (try clear hb); (try clear hb2); (try clear hk); (try clear hi); (try clear ho0)) | ((with_reducible refine gaC (f := 9) rfl ?_); refine goesL_ (some 133) rfl rfl Tryd.func9 (by kernel_rfl) rfl #[.slice A0 l0.length c0, .int .i64 t291, .int .i64 (wrap64 (a2 - 1))] rfl (by simp only [List.map_toArray, List.map_cons, List.map_nil]; try rfl) ?_; (with_reducible refine (ih kj28 (by have := HJ3.out; have := HJ28.out; omega) _ _ l0 t291 (wrap64 (a2 - 1)) t294 t295 _ ?side1 ?side2 A48.out).mono ?_); (case side1 => repeat (first | exact (Kd.C_below HR0.out HB.out) | (with_reducible refine Kd.C_alloc ?_ _) | (with_reducible refine Kd.C_drewN ?_ _) | (with_reducible refine Kd.C_drew ?_))); (case side2 => exact HC0.out); rintro e w52 ⟨v296, rfl, ho0, hb⟩; refine ⟨_, rfl, ?_⟩; have n0_ := As.mk (Kd.R_elder' (by (with_reducible repeat (first | apply Kd.rA | apply Kd.rN | apply Kd.rD)); exact HO293.out) (Kd.R_base ho0) hb); have n1_ := As.mk (Kd.R_lower (Kd.R_new' ho0 (Kd.R_lt (by (with_reducible repeat (first | apply Kd.rA | apply Kd.rN | apply Kd.rD)); exact HO293.out))) (bwZ (by repeat (first | (with_reducible first | exact HB.out | apply bwA | apply bwN | apply bwD) | exact HB.out)))); have n2_ := As.mk (bwS (by repeat (first | (with_reducible first | exact HB.out | apply bwA | apply bwN | apply bwD) | exact HB.out)) hb); clear HO293; clear HB; have HO293 := n0_; have HO297 := n1_; have HB := n2_; clear n0_ n1_ n2_; (try clear hb); (try clear hb2); (try clear hk); (try clear hi); (try clear ho0); obtain ⟨Ao54, co54, eo54⟩ := Kd.R_slice HO297.out; subst eo54) | ((with_reducible refine gaB (b := .append) (xs := #[.tmp 136, .tmp 137]) rfl ?_); at_builtin; refine Kd.R_append_rows k53 (w0 := w) w.heap.size rfl (.tmp 136) (.tmp 137) 23 53 (.agg #[(.int .i64 0), (.int .i64 0), (.int .i64 0), (.string ⟨#[]⟩), (.bool false), (.string ⟨#[]⟩), (.string ⟨#[]⟩)]) 80 rfl Tryd.underlying23 info53 rfl (by decide) (by omega) v292 t290 t294 _ _ _ (fun k_ => some k_ ≠ (.slice Ao54 t294.length co54 : Value).ownBlock) (fun _ => False) rfl rfl ?aO ?aR (fun _ _ h => h) (fun _ h => h.elim) ?aF ?aB ?aS ?aL ?_; (case aR => repeat (first | exact (Kd.R_reads' HO297.out).2.2 | (with_reducible refine Kd.C_alloc ?_ _) | (with_reducible refine Kd.C_drewN ?_ _) | (with_reducible refine Kd.C_drew ?_))); (case aB => exact (by repeat (first | (with_reducible first | exact HB.out | apply bwA | apply bwN | apply bwD) | exact HB.out))); (case aF => exact (fun k_ hk => Kd.fresh' (Kd.R_lt (by (with_reducible repeat (first | apply Kd.rA | apply Kd.rN | apply Kd.rD)); exact HO297.out)) k_ hk)); (case aO => exact (by (with_reducible repeat (first | apply Kd.rA | apply Kd.rN | apply Kd.rD)); exact Kd.R_mono HO293.out (fun _ hk => hk.2))); (case aS => exact (bwZ (by repeat (first | (with_reducible first | exact HB.out | apply bwA | apply bwN | apply bwD) | exact HB.out)))); (case aL => have := LMc49.out; omega); intro v299 w53 ho hb hg hat; rw [← Ny298.out] at ho; have n0_ := As.mk (Kd.R_after (ok := (fun _ => True)) (by (with_reducible repeat (first | apply Kd.rA | apply Kd.rN | apply Kd.rD)); exact HO297.out) hg hat); have n1_ := As.mk (hb); have n2_ := As.mk (ho); clear HO297; clear HB; clear HO293; have HO297 := n0_; have HB := n1_; have HO300 := n2_; clear n0_ n1_ n2_; clear ho hb hg hat) | ((with_reducible refine gaB (b := .append) (xs := #[.tmp 138, .tmp 144]) rfl ?_); at_builtin; refine Kd.R_append k53 (w0 := w) w.heap.size rfl (.tmp 138) (.tmp 144) 23 53 (.agg #[(.int .i64 0), (.int .i64 0), (.int .i64 0), (.string ⟨#[]⟩), (.bool false), (.string ⟨#[]⟩), (.string ⟨#[]⟩)]) 80 rfl Tryd.underlying23 info53 rfl (by decide) (by omega) v299 y298 (⟨wrap64 (14 + (Go.bits .and .i64 (x8_3 / 16) 1)), (⟨0, 0, (⟨#[]⟩ : ByteArray), false⟩ : S51), (⟨#[]⟩ : ByteArray), (⟨#[]⟩ : ByteArray)⟩ : S53) [.int .i64 (wrap64 (14 + (Go.bits .and .i64 (x8_3 / 16) 1))), .int .i64 0, .int .i64 0, .string (⟨#[]⟩ : ByteArray), .bool false, .string (⟨#[]⟩ : ByteArray), .string (⟨#[]⟩ : ByteArray)] (fun k_ => some k_ ≠ (.slice Ao54 t294.length co54 : Value).ownBlock) (fun _ => False) rfl rfl ?aP (fun _ hk => hk.elim) ?aF ?aO ?aB ?aS ?aL ?_; (case aP => exact k53_mkM _ _ _ (⟨wrap64 (14 + (Go.bits .and .i64 (x8_3 / 16) 1)), (⟨0, 0, (⟨#[]⟩ : ByteArray), false⟩ : S51), (⟨#[]⟩ : ByteArray), (⟨#[]⟩ : ByteArray)⟩ : S53)); (case aB => exact (by repeat (first | (with_reducible first | exact HB.out | apply bwA | apply bwN | apply bwD) | exact HB.out))); (case aF => exact (fun k_ hk => Kd.fresh' (Kd.R_lt (by (with_reducible repeat (first | apply Kd.rA | apply Kd.rN | apply Kd.rD)); exact HO297.out)) k_ hk)); (case aO => exact (by (with_reducible repeat (first | apply Kd.rA | apply Kd.rN | apply Kd.rD)); exact HO300.out)); (case aS => exact (bwZ (by repeat (first | (with_reducible first | exact HB.out | apply bwA | apply bwN | apply bwD) | exact HB.out)))); (case aL => have := LMc50.out; omega); intro v302 w55 ho hb hg hat; rw [← Ny301.out] at ho; have n0_ := As.mk (Kd.R_after (ok := (fun _ => True)) (by (with_reducible repeat (first | apply Kd.rA | apply Kd.rN | apply Kd.rD)); exact HO297.out) hg hat); have n1_ := As.mk (hb); have n2_ := As.mk (ho); clear HO297; clear HB; clear HO300; have HO297 := n0_; have HB := n1_; have HO303 := n2_; clear n0_ n1_ n2_; clear ho hb hg hat))
         go_ret2
         exact ⟨_, by first | rfl | (simp [errW_none, errW_some] <;> rfl) | (simp [*, errW_none, errW_some] <;> rfl), by (with_reducible repeat (first | apply Kd.rA | apply Kd.rN | apply Kd.rD)); exact Kd.R_mono HO303.out (fun _ hk => trivial), by repeat (first | (with_reducible first | exact HB.out | apply bwA | apply bwN | apply bwD) | exact HB.out)⟩
end Go.Proofs.YtpijgeijflbmhaaDoor.P

