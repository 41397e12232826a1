/- What lex.Source's Next comes to: the next piece, and the pieces that are left; no conditions. -/
import Derived.Test.YtpijgeijflbmhaaDoorF0
import Derived.Shelf.Strings.Builder1
import Derived.Shelf.Strings.Builder2
import Derived.Shelf.Small.Strs
import Derived.Shelf.Strings.Search1
import Derived.Shelf.Strings.Search2
import Derived.Shelf.Strings.Search3
import Derived.Shelf.Strings.Count
import Derived.Shelf.LaysM
import Derived.Shelf.Strings.Shaped
import Derived.Shelf.Strings.Split
import Derived.Shelf.Strings.Replace
import Derived.Shelf.Strings.SplitShaped
import Derived.Shelf.Unicode.DecodeSlow
import Derived.Shelf.Slices.Turned
import Derived.Test.YtpijgeijflbmhaaDoorProg
import Derived.Lib.SplitLaws
namespace Go.Proofs.YtpijgeijflbmhaaDoor.P
open Go.RowKit Go.Proofs.YtpijgeijflbmhaaDoorW.PrintWords Go.Proofs.YtpijgeijflbmhaaDoorW.PrintLast Go.Proofs.YtpijgeijflbmhaaDoorW.PrintMore
set_option linter.unusedVariables false

set_option maxHeartbeats 4000000 in
set_option maxRecDepth 100000 in
theorem next_end (g : Nat) (l : List S67) (t : S67) (ht : peekT l = t) (h0 : t.f0 = 0) (w0 w : World) (hI : Src w0 w g l) (hB : Below w0.heap.size w0 w) :
    Calls Tryd.prog 45 #[.pointer (some ⟨g, 0, none⟩)] w fun e w' => e = .returned (tokV t) ∧ Src w0 w' g l ∧ Below w0.heap.size w0 w' ∧ KeepBut w w' g none := by
  have HP := As.mk (fun w1 h1 h2 => peek_calls g l w0 w1 h1 h2)
  rw [ht] at HP
  have HI0 := As.mk hI
  have HB0 := As.mk hB
  have HLe := As.mk hB.size
  have hz : (t.f0 != 0) = false := by simp [h0]
  clear hI hB ht h0
  go_enter Tryd.func45, Tryd.ntmps45
  go_wp2_with (first
    | ((with_reducible refine gate_dst (N := 2) rfl ?_); refine box_event ?hgg2 (N := 2) ?hdg2 (cs := #[.int .i64 0, .string (⟨#[]⟩ : ByteArray), .int .i64 0, .int .i64 0]) (t := 67) ?hrg2 ?_; (case hdg2 => rfl); (case hgg2 => rfl); (case hrg2 => first | (go_simp; done) | (go_simp; rfl)); intro g2 hg2 w2 hbx2 hbl2; have HI2 := As.mk (HI0.out.below hbl2); have HB2 := As.mk (bwS HB0.out hbl2); have HK2 := As.mk (KeepBut.of_below hbl2 g none); have X2 := As.mk hbx2; have HG2 := As.mk hg2; clear hbx2 hbl2 hg2)
    | (go_at_call 44; (with_reducible refine (HP.out _ ?s1 ?s2).mono ?_); (case s1 => exact HI2.out); (case s2 => exact HB2.out); rintro e w3 ⟨rfl, hb⟩; have HI3 := As.mk (HI2.out.below hb); have HB3 := As.mk (bwS HB2.out hb); have HK3 := As.mk (KeepBut.trans HK2.out (KeepBut.of_below hb g none) (.inl rfl)); have X3 := As.mk ((hb.block _ (blk_lt X2.out)).trans X2.out); clear hb)
    | ((with_reducible refine gate_dst (N := 3) rfl ?_); refine box_event ?hgg3 (N := 3) ?hdg3 (cs := #[.int .i64 0, .string (⟨#[]⟩ : ByteArray), .int .i64 0, .int .i64 0]) (t := 67) ?hrg3 ?_; (case hdg3 => rfl); (case hgg3 => rfl); (case hrg3 => first | (go_simp; done) | (go_simp; rfl)); intro g3 hg3 w4 hbx3 hbl3; have HI4 := As.mk (HI3.out.below hbl3); have HB4 := As.mk (bwS HB3.out hbl3); have HK4 := As.mk (KeepBut.trans HK3.out (KeepBut.of_below hbl3 g none) (.inl rfl)); have X4 := As.mk ((hbl3.block _ (blk_lt X3.out)).trans X3.out); have Y4 := As.mk hbx3; have HG3 := As.mk (show g3 ≠ g ∧ g2 ≠ g3 ∧ g2 ≠ g ∧ w.heap.size ≤ g2 ∧ w.heap.size ≤ g3 from ⟨by rw [hg3]; exact Nat.ne_of_gt HI3.out.lt, by rw [hg3]; exact Nat.ne_of_lt (blk_lt X3.out), by rw [HG2.out]; exact Nat.ne_of_gt HI0.out.lt, by rw [HG2.out]; exact Nat.le_refl _, by rw [hg3]; exact HK3.out.1⟩); clear hbx3 hbl3 hg3)
    | ((with_reducible refine gaS (t := 67) (p := 3) (v := .tmp 5) rfl ?_); refine row_event rfl 67 (.tmp 3) (.tmp 5) rfl g3 #[.int .i64 t.f0, .string t.f1, .int .i64 t.f2, .int .i64 t.f3] rfl rfl 67 _ Y4.out (by kernel_rfl) rfl (by simp [Value.oneCell']) rfl ?_; intro w5 hbut hb5; have HI5 := As.mk (HI4.out.but hbut (Ne.symm HG3.out.1)); have HB5 := As.mk (hbut.below HB4.out (Nat.le_trans HLe.out HG3.out.2.2.2.2)); have HK5 := As.mk (hbut.keep_far HK4.out HG3.out.2.2.2.2); have X5 := As.mk ((hbut.blk _ HG3.out.2.1).trans X4.out); have hk0 : w5.cell? ⟨g3, 0, none⟩ = some (.int .i64 t.f0) := (blk_cell hb5 0).trans rfl; have Y5 := As.mk hb5; clear hb5 hbut)
    | ((with_reducible refine gate_dst (N := 17) rfl ?_); refine wpList_load_row rfl 67 (.tmp 3) rfl g3 rfl 67 #[.int .i64 t.f0, .string t.f1, .int .i64 t.f2, .int .i64 t.f3] (0, 0) _ ?yy Tryd.underlying67 rfl (by kernel_rfl) ?_; (case yy => exact Y5.out))
    | ((with_reducible refine gaS (t := 67) (p := 2) (v := .tmp 17) rfl ?_); refine row_event rfl 67 (.tmp 2) (.tmp 17) rfl g2 #[.int .i64 t.f0, .string t.f1, .int .i64 t.f2, .int .i64 t.f3] rfl rfl 67 _ X5.out (by kernel_rfl) rfl (by simp [Value.oneCell']) rfl ?_; intro w6 hbut hb6; have HBut6 := As.mk hbut; have Z6 := As.mk hb6; clear hb6 hbut))
  refine bodyPost_ret (results_cell_row rfl _ _ g2 67 #[.int .i64 t.f0, .string t.f1, .int .i64 t.f2, .int .i64 t.f3] (0, 0) _ rfl Z6.out Tryd.underlying67 rfl (by kernel_rfl)) rfl ?_
  exact ⟨rfl, HI5.out.but HBut6.out (Ne.symm HG3.out.2.2.1), HBut6.out.below HB5.out (Nat.le_trans HLe.out HG3.out.2.2.2.1), HBut6.out.keep_far HK5.out HG3.out.2.2.2.1⟩

set_option maxHeartbeats 4000000 in
set_option maxRecDepth 100000 in
theorem next_more (g : Nat) (l : List S67) (t : S67) (ht : t.f0 ≠ 0) (w0 w : World) (hI : Src w0 w g (t :: l)) (hB : Below w0.heap.size w0 w) :
    Calls Tryd.prog 45 #[.pointer (some ⟨g, 0, none⟩)] w fun e w' => e = .returned (tokV t) ∧ Src w0 w' g l ∧ Below w0.heap.size w0 w' ∧ KeepBut w w' g none := by
  have HP := As.mk (fun w1 h1 h2 => peek_calls g (t :: l) w0 w1 h1 h2)
  rw [show peekT (t :: l) = t from rfl] at HP
  have HI0 := As.mk hI
  have HB0 := As.mk hB
  have HLe := As.mk hB.size
  have hz : (t.f0 != 0) = true := by simp [ht]
  clear hI hB ht
  go_enter Tryd.func45, Tryd.ntmps45
  go_wp2_with (first
    | ((with_reducible refine gate_dst (N := 2) rfl ?_); refine box_event ?hgg2 (N := 2) ?hdg2 (cs := #[.int .i64 0, .string (⟨#[]⟩ : ByteArray), .int .i64 0, .int .i64 0]) (t := 67) ?hrg2 ?_; (case hdg2 => rfl); (case hgg2 => rfl); (case hrg2 => first | (go_simp; done) | (go_simp; rfl)); intro g2 hg2 w2 hbx2 hbl2; have HI2 := As.mk (HI0.out.below hbl2); have HB2 := As.mk (bwS HB0.out hbl2); have HK2 := As.mk (KeepBut.of_below hbl2 g none); have X2 := As.mk hbx2; have HG2 := As.mk hg2; clear hbx2 hbl2 hg2)
    | (go_at_call 44; (with_reducible refine (HP.out _ ?s1 ?s2).mono ?_); (case s1 => exact HI2.out); (case s2 => exact HB2.out); rintro e w3 ⟨rfl, hb⟩; have HI3 := As.mk (HI2.out.below hb); have HB3 := As.mk (bwS HB2.out hb); have HK3 := As.mk (KeepBut.trans HK2.out (KeepBut.of_below hb g none) (.inl rfl)); have X3 := As.mk ((hb.block _ (blk_lt X2.out)).trans X2.out); clear hb)
    | ((with_reducible refine gate_dst (N := 3) rfl ?_); refine box_event ?hgg3 (N := 3) ?hdg3 (cs := #[.int .i64 0, .string (⟨#[]⟩ : ByteArray), .int .i64 0, .int .i64 0]) (t := 67) ?hrg3 ?_; (case hdg3 => rfl); (case hgg3 => rfl); (case hrg3 => first | (go_simp; done) | (go_simp; rfl)); intro g3 hg3 w4 hbx3 hbl3; have HI4 := As.mk (HI3.out.below hbl3); have HB4 := As.mk (bwS HB3.out hbl3); have HK4 := As.mk (KeepBut.trans HK3.out (KeepBut.of_below hbl3 g none) (.inl rfl)); have X4 := As.mk ((hbl3.block _ (blk_lt X3.out)).trans X3.out); have Y4 := As.mk hbx3; have HG3 := As.mk (show g3 ≠ g ∧ g2 ≠ g3 ∧ g2 ≠ g ∧ w.heap.size ≤ g2 ∧ w.heap.size ≤ g3 from ⟨by rw [hg3]; exact Nat.ne_of_gt HI3.out.lt, by rw [hg3]; exact Nat.ne_of_lt (blk_lt X3.out), by rw [HG2.out]; exact Nat.ne_of_gt HI0.out.lt, by rw [HG2.out]; exact Nat.le_refl _, by rw [hg3]; exact HK3.out.1⟩); clear hbx3 hbl3 hg3)
    | ((with_reducible refine gaS (t := 67) (p := 3) (v := .tmp 5) rfl ?_); refine row_event rfl 67 (.tmp 3) (.tmp 5) rfl g3 #[.int .i64 t.f0, .string t.f1, .int .i64 t.f2, .int .i64 t.f3] rfl rfl 67 _ Y4.out (by kernel_rfl) rfl (by simp [Value.oneCell']) rfl ?_; intro w5 hbut hb5; have HI5 := As.mk (HI4.out.but hbut (Ne.symm HG3.out.1)); have HB5 := As.mk (hbut.below HB4.out (Nat.le_trans HLe.out HG3.out.2.2.2.2)); have HK5 := As.mk (hbut.keep_far HK4.out HG3.out.2.2.2.2); have X5 := As.mk ((hbut.blk _ HG3.out.2.1).trans X4.out); have hk0 : w5.cell? ⟨g3, 0, none⟩ = some (.int .i64 t.f0) := (blk_cell hb5 0).trans rfl; have Y5 := As.mk hb5; clear hb5 hbut; obtain ⟨A, c, h1, h2, h3, h4⟩ := HI5.out; have hc : w5.cell? ⟨g, 0, none⟩ = some (.slice A (l.length + 1) c) := (blk_cell h1 0).trans rfl; have hfz := blk_frozen h1 0; have hcl : 1 ≤ c := Nat.le_trans (Nat.succ_le_succ (Nat.zero_le l.length)) h3; have H1 := As.mk h1; have H2 := As.mk h2; have H3 := As.mk h3; have H4 := As.mk h4; clear h1 h2 h3 h4)
    | ((with_reducible refine gate_dst (N := 17) rfl ?_); refine wpList_load_row rfl 67 (.tmp 3) rfl g3 rfl 67 #[.int .i64 t.f0, .string t.f1, .int .i64 t.f2, .int .i64 t.f3] (0, 0) _ ?yy Tryd.underlying67 rfl (by kernel_rfl) ?_; (case yy => exact blk_far Y5.out HG3.out.1 _))
    | ((with_reducible refine gaS (t := 67) (p := 2) (v := .tmp 17) rfl ?_); refine row_event rfl 67 (.tmp 2) (.tmp 17) rfl g2 #[.int .i64 t.f0, .string t.f1, .int .i64 t.f2, .int .i64 t.f3] rfl rfl 67 _ (blk_far X5.out HG3.out.2.2.1 _) (by kernel_rfl) rfl (by simp [Value.oneCell']) rfl ?_; intro w6 hbut hb6; have HBut6 := As.mk hbut; have Z6 := As.mk hb6; clear hb6 hbut))
  all_goals
    refine bodyPost_ret (results_cell_row rfl _ _ g2 67 #[.int .i64 t.f0, .string t.f1, .int .i64 t.f2, .int .i64 t.f3] (0, 0) _ rfl Z6.out Tryd.underlying67 rfl (by kernel_rfl)) rfl ?_
    refine ⟨rfl, ?_, HBut6.out.below (bwC HB5.out H2.out) (Nat.le_trans HLe.out HG3.out.2.2.2.1), HBut6.out.keep_far (KeepBut.set_ HK5.out 0 _) HG3.out.2.2.2.1⟩
    refine Src.but ?_ HBut6.out (Ne.symm HG3.out.2.2.1)
    have hd := Kd.C_drop (m := 1) H4.out (Nat.succ_le_succ (Nat.zero_le l.length)) H3.out
    refine ⟨_, c - 1, blk_put H1.out 0 _ rfl, H2.out, by have := H3.out; simp only [List.length_cons] at this; omega, ?_⟩
    have he : (Option.map (fun x => ({ block := x.block, off := x.off + 4, spot := none } : Addr)) A) = A.map (·.add (1 * k67.sz)) := by
      congr 1
    rw [he]
    exact hd

theorem next_calls (g : Nat) (l : List S67) (w0 w : World) (hI : Src w0 w g l) (hB : Below w0.heap.size w0 w) :
    Calls Tryd.prog 45 #[.pointer (some ⟨g, 0, none⟩)] w fun e w' => e = .returned (tokV (peekT l)) ∧ Src w0 w' g (nextT l) ∧ Below w0.heap.size w0 w' ∧ KeepBut w w' g none := by
  unfold nextT
  by_cases h : (peekT l).f0 = 0
  · rw [if_pos h]
    exact next_end g l _ rfl h w0 w hI hB
  · rw [if_neg h]
    cases l with
    | nil => exact absurd rfl h
    | cons t l => exact next_more g l t h w0 w hI hB

theorem bytes_eq {a b : ByteArray} (h : a.toList = b.toList) : a = b := by
  have e : a.data.toList = b.data.toList := by rw [← ByteArray.toList_eq, ← ByteArray.toList_eq]; exact h
  have : a.data = b.data := Array.toList_inj.1 e
  cases a; cases b
  simp_all

def isB (l : List S67) (kind : Int) (x : ByteArray) : Bool := decide ((peekT l).f0 = kind) && decide ((peekT l).f1 = x)

set_option maxHeartbeats 4000000 in
set_option maxRecDepth 100000 in
theorem is_kind (g : Nat) (l : List S67) (kind : Int) (x : ByteArray) (t : S67) (ht : peekT l = t) (h0 : t.f0 ≠ kind) (w0 w : World) (hI : Src w0 w g l) (hB : Below w0.heap.size w0 w) :
    Calls Tryd.prog 52 #[.pointer (some ⟨g, 0, none⟩), .int .i64 kind, .string x] w fun e w' => e = .returned (.bool false) ∧ Src w0 w' g l ∧ Below w0.heap.size w0 w' ∧ KeepBut w w' g none := by
  have HP := As.mk (fun w1 h1 h2 => peek_calls g l w0 w1 h1 h2)
  rw [ht] at HP
  have HI0 := As.mk hI
  have HB0 := As.mk hB
  have HLe := As.mk hB.size
  have hz : (t.f0 != kind) = true := by simp [h0]
  clear hI hB ht h0
  go_enter Tryd.func52, Tryd.ntmps52
  go_wp2_with (first
    | (go_at_call 44; (with_reducible refine (HP.out _ HI0.out HB0.out).mono ?_); rintro e w3 ⟨rfl, hb⟩; have HI3 := As.mk (HI0.out.below hb); have HB3 := As.mk (bwS HB0.out hb); have HK3 := As.mk (KeepBut.of_below hb g none); clear hb)
    | ((with_reducible refine gate_dst (N := 7) rfl ?_); refine box_event ?hgg3 (N := 7) ?hdg3 (cs := #[.int .i64 0, .string (⟨#[]⟩ : ByteArray), .int .i64 0, .int .i64 0]) (t := 67) ?hrg3 ?_; (case hdg3 => rfl); (case hgg3 => rfl); (case hrg3 => first | (go_simp; done) | (go_simp; rfl)); intro g3 hg7 w4 hbx7 hbl7; have HI4 := As.mk (HI3.out.below hbl7); have HB4 := As.mk (bwS HB3.out hbl7); have HK4 := As.mk (KeepBut.trans HK3.out (KeepBut.of_below hbl7 g none) (.inl rfl)); have Y4 := As.mk hbx7; have HG3 := As.mk (show g3 ≠ g ∧ w.heap.size ≤ g3 from ⟨by rw [hg7]; exact Nat.ne_of_gt HI3.out.lt, by rw [hg7]; exact HK3.out.1⟩); clear hbx7 hbl7 hg7)
    | ((with_reducible refine gaS (t := 67) (p := 7) (v := .tmp 9) rfl ?_); refine row_event rfl 67 (.tmp 7) (.tmp 9) rfl g3 #[.int .i64 t.f0, .string t.f1, .int .i64 t.f2, .int .i64 t.f3] rfl rfl 67 _ Y4.out (by kernel_rfl) rfl (by simp [Value.oneCell']) rfl ?_; intro w5 hbut hb5; have HI5 := As.mk (HI4.out.but hbut (Ne.symm HG3.out.1)); have HB5 := As.mk (hbut.below HB4.out (Nat.le_trans HLe.out HG3.out.2)); have HK5 := As.mk (hbut.keep_far HK4.out HG3.out.2); have hk0 : w5.cell? ⟨g3, 0, none⟩ = some (.int .i64 t.f0) := (blk_cell hb5 0).trans rfl; have hk1 : w5.cell? ⟨g3, 1, none⟩ = some (.string t.f1) := (blk_cell hb5 1).trans rfl; clear hb5 hbut)
    | (go_at_call 45; (with_reducible refine (next_calls g l w0 _ HI5.out HB5.out).mono ?_); rintro e w6 ⟨rfl, hi, hb, hk⟩; have HI6 := As.mk hi; have HB6 := As.mk hb; have HK6 := As.mk (KeepBut.trans HK5.out hk (.inl rfl)); clear hi hb hk))
  go_ret
  exact ⟨rfl, HI5.out, HB5.out, HK5.out⟩

set_option maxHeartbeats 4000000 in
set_option maxRecDepth 100000 in
theorem is_text (g : Nat) (l : List S67) (kind : Int) (x : ByteArray) (t : S67) (ht : peekT l = t) (h0 : t.f0 = kind) (h1 : t.f1.toList ≠ x.toList) (w0 w : World) (hI : Src w0 w g l) (hB : Below w0.heap.size w0 w) :
    Calls Tryd.prog 52 #[.pointer (some ⟨g, 0, none⟩), .int .i64 kind, .string x] w fun e w' => e = .returned (.bool false) ∧ Src w0 w' g l ∧ Below w0.heap.size w0 w' ∧ KeepBut w w' g none := by
  have HP := As.mk (fun w1 h1 h2 => peek_calls g l w0 w1 h1 h2)
  rw [ht] at HP
  have HI0 := As.mk hI
  have HB0 := As.mk hB
  have HLe := As.mk hB.size
  have hz : (t.f0 != kind) = false := by simp [h0]
  have hy : (t.f1.toList != x.toList) = true := by simp [h1]
  have hy2 : (t.f1.toList == x.toList) = false := by simp [h1]
  clear hI hB ht h0 h1
  go_enter Tryd.func52, Tryd.ntmps52
  go_wp2_with (first
    | (go_at_call 44; (with_reducible refine (HP.out _ HI0.out HB0.out).mono ?_); rintro e w3 ⟨rfl, hb⟩; have HI3 := As.mk (HI0.out.below hb); have HB3 := As.mk (bwS HB0.out hb); have HK3 := As.mk (KeepBut.of_below hb g none); clear hb)
    | ((with_reducible refine gate_dst (N := 7) rfl ?_); refine box_event ?hgg3 (N := 7) ?hdg3 (cs := #[.int .i64 0, .string (⟨#[]⟩ : ByteArray), .int .i64 0, .int .i64 0]) (t := 67) ?hrg3 ?_; (case hdg3 => rfl); (case hgg3 => rfl); (case hrg3 => first | (go_simp; done) | (go_simp; rfl)); intro g3 hg7 w4 hbx7 hbl7; have HI4 := As.mk (HI3.out.below hbl7); have HB4 := As.mk (bwS HB3.out hbl7); have HK4 := As.mk (KeepBut.trans HK3.out (KeepBut.of_below hbl7 g none) (.inl rfl)); have Y4 := As.mk hbx7; have HG3 := As.mk (show g3 ≠ g ∧ w.heap.size ≤ g3 from ⟨by rw [hg7]; exact Nat.ne_of_gt HI3.out.lt, by rw [hg7]; exact HK3.out.1⟩); clear hbx7 hbl7 hg7)
    | ((with_reducible refine gaS (t := 67) (p := 7) (v := .tmp 9) rfl ?_); refine row_event rfl 67 (.tmp 7) (.tmp 9) rfl g3 #[.int .i64 t.f0, .string t.f1, .int .i64 t.f2, .int .i64 t.f3] rfl rfl 67 _ Y4.out (by kernel_rfl) rfl (by simp [Value.oneCell']) rfl ?_; intro w5 hbut hb5; have HI5 := As.mk (HI4.out.but hbut (Ne.symm HG3.out.1)); have HB5 := As.mk (hbut.below HB4.out (Nat.le_trans HLe.out HG3.out.2)); have HK5 := As.mk (hbut.keep_far HK4.out HG3.out.2); have hk0 : w5.cell? ⟨g3, 0, none⟩ = some (.int .i64 t.f0) := (blk_cell hb5 0).trans rfl; have hk1 : w5.cell? ⟨g3, 1, none⟩ = some (.string t.f1) := (blk_cell hb5 1).trans rfl; clear hb5 hbut)
    | (go_at_call 45; (with_reducible refine (next_calls g l w0 _ HI5.out HB5.out).mono ?_); rintro e w6 ⟨rfl, hi, hb, hk⟩; have HI6 := As.mk hi; have HB6 := As.mk hb; have HK6 := As.mk (KeepBut.trans HK5.out hk (.inl rfl)); clear hi hb hk))
  go_ret
  exact ⟨rfl, HI5.out, HB5.out, HK5.out⟩

set_option maxHeartbeats 4000000 in
set_option maxRecDepth 100000 in
theorem is_yes (g : Nat) (l : List S67) (kind : Int) (x : ByteArray) (t : S67) (ht : peekT l = t) (h0 : t.f0 = kind) (h1 : t.f1.toList = x.toList) (hk : kind ≠ 0) (w0 w : World) (hI : Src w0 w g l) (hB : Below w0.heap.size w0 w) :
    Calls Tryd.prog 52 #[.pointer (some ⟨g, 0, none⟩), .int .i64 kind, .string x] w fun e w' => e = .returned (.bool true) ∧ Src w0 w' g (nextT l) ∧ Below w0.heap.size w0 w' ∧ KeepBut w w' g none := by
  have HP := As.mk (fun w1 h1 h2 => peek_calls g l w0 w1 h1 h2)
  rw [ht] at HP
  have HI0 := As.mk hI
  have HB0 := As.mk hB
  have HLe := As.mk hB.size
  have hz : (t.f0 != kind) = false := by simp [h0]
  have hy : (t.f1.toList != x.toList) = false := by simp [h1]
  have hy2 : (t.f1.toList == x.toList) = true := by simp [h1]
  have hk0 : (kind == 0) = false := by simp [hk]
  clear hI hB ht h0 h1 hk
  go_enter Tryd.func52, Tryd.ntmps52
  go_wp2_with (first
    | (go_at_call 44; (with_reducible refine (HP.out _ HI0.out HB0.out).mono ?_); rintro e w3 ⟨rfl, hb⟩; have HI3 := As.mk (HI0.out.below hb); have HB3 := As.mk (bwS HB0.out hb); have HK3 := As.mk (KeepBut.of_below hb g none); clear hb)
    | ((with_reducible refine gate_dst (N := 7) rfl ?_); refine box_event ?hgg3 (N := 7) ?hdg3 (cs := #[.int .i64 0, .string (⟨#[]⟩ : ByteArray), .int .i64 0, .int .i64 0]) (t := 67) ?hrg3 ?_; (case hdg3 => rfl); (case hgg3 => rfl); (case hrg3 => first | (go_simp; done) | (go_simp; rfl)); intro g3 hg7 w4 hbx7 hbl7; have HI4 := As.mk (HI3.out.below hbl7); have HB4 := As.mk (bwS HB3.out hbl7); have HK4 := As.mk (KeepBut.trans HK3.out (KeepBut.of_below hbl7 g none) (.inl rfl)); have Y4 := As.mk hbx7; have HG3 := As.mk (show g3 ≠ g ∧ w.heap.size ≤ g3 from ⟨by rw [hg7]; exact Nat.ne_of_gt HI3.out.lt, by rw [hg7]; exact HK3.out.1⟩); clear hbx7 hbl7 hg7)
    | ((with_reducible refine gaS (t := 67) (p := 7) (v := .tmp 9) rfl ?_); refine row_event rfl 67 (.tmp 7) (.tmp 9) rfl g3 #[.int .i64 t.f0, .string t.f1, .int .i64 t.f2, .int .i64 t.f3] rfl rfl 67 _ Y4.out (by kernel_rfl) rfl (by simp [Value.oneCell']) rfl ?_; intro w5 hbut hb5; have HI5 := As.mk (HI4.out.but hbut (Ne.symm HG3.out.1)); have HB5 := As.mk (hbut.below HB4.out (Nat.le_trans HLe.out HG3.out.2)); have HK5 := As.mk (hbut.keep_far HK4.out HG3.out.2); have hk0 : w5.cell? ⟨g3, 0, none⟩ = some (.int .i64 t.f0) := (blk_cell hb5 0).trans rfl; have hk1 : w5.cell? ⟨g3, 1, none⟩ = some (.string t.f1) := (blk_cell hb5 1).trans rfl; clear hb5 hbut)
    | (go_at_call 45; (with_reducible refine (next_calls g l w0 _ HI5.out HB5.out).mono ?_); rintro e w6 ⟨rfl, hi, hb, hk⟩; have HI6 := As.mk hi; have HB6 := As.mk hb; have HK6 := As.mk (KeepBut.trans HK5.out hk (.inl rfl)); clear hi hb hk))
  go_ret
  exact ⟨rfl, HI6.out, HB6.out, HK6.out⟩

theorem is_calls (g : Nat) (l : List S67) (kind : Int) (x : ByteArray) (hk : kind ≠ 0) (w0 w : World) (hI : Src w0 w g l) (hB : Below w0.heap.size w0 w) :
    Calls Tryd.prog 52 #[.pointer (some ⟨g, 0, none⟩), .int .i64 kind, .string x] w fun e w' => e = .returned (.bool (isB l kind x)) ∧ Src w0 w' g (if isB l kind x then nextT l else l) ∧ Below w0.heap.size w0 w' ∧ KeepBut w w' g none := by
  unfold isB
  by_cases h0 : (peekT l).f0 = kind
  · by_cases h1 : (peekT l).f1 = x
    · rw [decide_eq_true h0, decide_eq_true h1]
      exact is_yes g l kind x _ rfl h0 (by rw [h1]) hk w0 w hI hB
    · rw [decide_eq_true h0, decide_eq_false h1]
      exact is_text g l kind x _ rfl h0 (fun h => h1 (bytes_eq h)) w0 w hI hB
  · rw [decide_eq_false h0]
    exact is_kind g l kind x _ rfl h0 w0 w hI hB

/-- The first error stays. -/
def wr (e c : Int) : Int := if e = 0 then c else e

def opNode (op : Int) : S53 := ⟨op, z51, ⟨#[]⟩, ⟨#[]⟩⟩
def conNode (kind n : Int) (s : ByteArray) (b : Bool) : S53 := ⟨1, ⟨kind, n, s, b⟩, ⟨#[]⟩, ⟨#[]⟩⟩
def fldNode (v f : ByteArray) : S53 := ⟨2, z51, v, f⟩

/-- Which part a piece between two others is, and how strong; (0, 0): none. -/
def binF (t : S67) : Int × Int :=
  if t.f0 = 5 ∨ t.f0 = 2 then
    (if t.f1 = ⟨#[43]⟩ then (4, 5) else if t.f1 = ⟨#[45]⟩ then (5, 5) else if t.f1 = ⟨#[42]⟩ then (6, 6)
     else if t.f1 = ⟨#[61]⟩ then (7, 4) else if t.f1 = ⟨#[33, 61]⟩ then (8, 4) else if t.f1 = ⟨#[60]⟩ then (9, 4)
     else if t.f1 = ⟨#[60, 61]⟩ then (10, 4) else if t.f1 = ⟨#[62]⟩ then (11, 4) else if t.f1 = ⟨#[62, 61]⟩ then (12, 4)
     else if t.f1 = ⟨#[97, 110, 100]⟩ then (14, 2) else if t.f1 = ⟨#[111, 114]⟩ then (15, 1) else (0, 0))
  else (0, 0)

mutual
/-- Parts that are at least so strong: their nodes, the pieces left, the first error. -/
def levelF : Nat → Int → Int → List S67 → Int → Option (List S53 × List S67 × Int)
  | 0, _, _, _, _ => none
  | k + 1, least, depth, l, e =>
    if 140 < depth then some ([], l, wr e 5)
    else (oneF k depth l e).bind fun r => loopF k least depth r.1 r.2.1 r.2.2
def loopF : Nat → Int → Int → List S53 → List S67 → Int → Option (List S53 × List S67 × Int)
  | 0, _, _, _, _, _ => none
  | k + 1, least, depth, a, l, e =>
    if e = 0 then
      (if (binF (peekT l)).1 = 0 then some (a, l, e)
       else if (binF (peekT l)).2 < least then some (a, l, e)
       else (levelF k ((binF (peekT l)).2 + 1) (depth + 1) (nextT l) e).bind fun r =>
         if 64 < (a ++ r.1 ++ [opNode (binF (peekT l)).1]).length then some ([], r.2.1, wr r.2.2 5)
         else if (binF (peekT l)).2 = 4 ∧ (binF (peekT r.2.1)).2 = 4 then some ([], r.2.1, wr r.2.2 2)
         else loopF k least depth (a ++ r.1 ++ [opNode (binF (peekT l)).1]) r.2.1 r.2.2)
    else some (a, l, e)
def oneF : Nat → Int → List S67 → Int → Option (List S53 × List S67 × Int)
  | 0, _, _, _ => none
  | k + 1, depth, l, e =>
    if 140 < depth then some ([], l, wr e 5)
    else if (peekT l).f0 = 3 then some ([conNode 1 (peekT l).f2 ⟨#[]⟩ false], nextT l, e)
    else if (peekT l).f0 = 4 then some ([conNode 2 0 (peekT l).f1 false], nextT l, e)
    else if (peekT l).f0 = 2 then
      (if (peekT l).f1 = ⟨#[116, 114, 117, 101]⟩ then some ([conNode 3 0 ⟨#[]⟩ true], nextT l, e)
       else if (peekT l).f1 = ⟨#[102, 97, 108, 115, 101]⟩ then some ([conNode 3 0 ⟨#[]⟩ false], nextT l, e)
       else if (peekT l).f1 = ⟨#[110, 111, 116]⟩ then (levelF k 3 (depth + 1) (nextT l) e).bind fun r => some (r.1 ++ [opNode 13], r.2.1, r.2.2)
       else some ([], nextT l, wr e 2))
    else if (peekT l).f0 = 5 then
      (if (peekT l).f1 = ⟨#[45]⟩ then minusF k depth (nextT l) e
       else if (peekT l).f1 = ⟨#[40]⟩ then (levelF k 1 (depth + 1) (nextT l) e).bind fun r =>
         if isB r.2.1 5 ⟨#[41]⟩ then some (r.1, nextT r.2.1, r.2.2) else some ([], r.2.1, wr r.2.2 2)
       else some ([], nextT l, wr e 2))
    else if (peekT l).f0 = 1 then
      (if isB (nextT l) 5 ⟨#[46]⟩ then
        (if (peekT (nextT (nextT l))).f0 = 1 then some ([fldNode (peekT l).f1 (peekT (nextT (nextT l))).f1], nextT (nextT (nextT l)), e)
         else some ([], nextT (nextT (nextT l)), wr e 2))
       else some ([], nextT l, wr e 2))
    else some ([], nextT l, wr e 2)
def minusF : Nat → Int → List S67 → Int → Option (List S53 × List S67 × Int)
  | 0, _, _, _ => none
  | k + 1, depth, l, e =>
    if (peekT l).f0 = 3 then some ([conNode 1 (wrap64 (-(peekT l).f2)) ⟨#[]⟩ false], nextT l, e)
    else (oneF k (depth + 1) l e).bind fun r => some (r.1 ++ [opNode 3], r.2.1, r.2.2)
end

end Go.Proofs.YtpijgeijflbmhaaDoor.P

/- Go functions of the given program come to what plain Lean functions say: walks, printed by a program of this session's (after the kit's print); no conditions beyond each theorem's own. -/
namespace Go.Proofs.YtpijgeijflbmhaaDoor.P
open Go.RowKit Go.Proofs.YtpijgeijflbmhaaDoorW.PrintWords Go.Proofs.YtpijgeijflbmhaaDoorW.PrintLast Go.Proofs.YtpijgeijflbmhaaDoorW.PrintMore
attribute [local go_sem] max2_int min2_int max_two min_two max_three min_three max_four min_four   -- for this text's walks alone
set_option linter.unusedVariables false
set_option linter.unusedSimpArgs false

/-- A state of type 105 at block g of W; what its slices lead to came in by w0. -/
def IsS105 (w0 W : World) (g : Nat) (f0 : ByteArray) (f1 : Int) : Prop := W.heap[g]? = some (.cells #[.string f0, .int .i64 f1] 105 (0, 0)) ∧ w0.heap.size ≤ g
theorem IsS105.grown {w0 W : World} {g : Nat} {f0 : ByteArray} {f1 : Int} {W1 : World} {row : Option Nat} (h : IsS105 w0 W g f0 f1) (hw : W.grownBy W1 row) (hne : some g ≠ row) : IsS105 w0 W1 g f0 f1 := by
 obtain ⟨hb, hg⟩ := h
 exact ⟨blk_grown hb hw hne, hg⟩
theorem IsS105.below {w0 W : World} {g : Nat} {f0 : ByteArray} {f1 : Int} {W1 : World} (h : IsS105 w0 W g f0 f1) (hw : Below W.heap.size W W1) : IsS105 w0 W1 g f0 f1 := h.grown (grown_of_below hw none) (by simp)
theorem IsS105.drewN {w0 W : World} {g : Nat} {f0 : ByteArray} {f1 : Int} (h : IsS105 w0 W g f0 f1) (m : Nat) : IsS105 w0 (W.drewN m) g f0 f1 := h
theorem IsS105.apart {w0 W : World} {g : Nat} {f0 : ByteArray} {f1 : Int} {α : Type} {d : Kd α} {e : Nat} {base : Nat} {ok : Nat → Prop} {v : Value} {xs : List α} (h : IsS105 w0 W g f0 f1) (ho : d.R e W base ok v xs) (ht : ∀ q, q ∈ e :: d.E → q ≠ 105) : d.R e W base (fun k => ok k ∧ k ≠ g) v xs := by
 obtain ⟨hb, hg⟩ := h
 exact Kd.R_types ho hb ht
theorem IsS105.own_ne {w0 W : World} {g : Nat} {f0 : ByteArray} {f1 : Int} {α : Type} {d : Kd α} {e : Nat} {base : Nat} {ok : Nat → Prop} {v : Value} {xs : List α} (h : IsS105 w0 W g f0 f1) (ho : d.R e W base ok v xs) (ht : e ≠ 105) : some g ≠ v.ownBlock := by
 obtain ⟨hb, hg⟩ := h
 exact Kd.R_ne ho hb ht
theorem IsS105.lt {w0 W : World} {g : Nat} {f0 : ByteArray} {f1 : Int} (h : IsS105 w0 W g f0 f1) : g < W.heap.size := by
 obtain ⟨hb, hg⟩ := h
 exact blk_lt hb
theorem IsS105.ge {w0 W : World} {g : Nat} {f0 : ByteArray} {f1 : Int} (h : IsS105 w0 W g f0 f1) : w0.heap.size ≤ g := by
 obtain ⟨hb, hg⟩ := h
 exact hg
theorem IsS105.far {w0 W : World} {g : Nat} {f0 : ByteArray} {f1 : Int} {p : Addr} (h : IsS105 w0 W g f0 f1) (hne : g ≠ p.block) (u : Value) : IsS105 w0 (W.setCell p u) g f0 f1 := by
 obtain ⟨hb, hg⟩ := h
 exact ⟨blk_far hb hne u, hg⟩
theorem cellS105_0 {W : World} {g : Nat} {f0 : ByteArray} {f1 : Int} (h : W.heap[g]? = some (.cells #[.string f0, .int .i64 f1] 105 (0, 0))) : W.cell? ⟨g, 0, none⟩ = some (.string f0) := (blk_cell h 0).trans rfl
theorem cellS105_1 {W : World} {g : Nat} {f0 : ByteArray} {f1 : Int} (h : W.heap[g]? = some (.cells #[.string f0, .int .i64 f1] 105 (0, 0))) : W.cell? ⟨g, 1, none⟩ = some (.int .i64 f1) := (blk_cell h 1).trans rfl
theorem IsS105.set_1 {w0 W : World} {g : Nat} {f0 : ByteArray} {f1 : Int} (h : IsS105 w0 W g f0 f1) (x : Int) : IsS105 w0 (W.setCell ⟨g, 1, none⟩ (.int .i64 x)) g f0 x := by
 obtain ⟨hb, hg⟩ := h
 exact ⟨by simpa using blk_set hb 1 (.int .i64 x), hg⟩

/-! ### text_Reader_Left: function 39 -/
def text_Reader_Left.f (s0_0 : ByteArray) (s0_1 : Int) : Option (Int × ByteArray × Int) := some (wrap64 ((s0_0.size : Int) - s0_1), s0_0, s0_1)
set_option maxHeartbeats 8000000 in
set_option maxRecDepth 100000 in
theorem text_Reader_Left.calls (g : Nat) (s0_0 : ByteArray) (s0_1 : Int) (r1 : Int) (r2 : ByteArray) (r3 : Int) (w0 w : World) (hI : IsS105 w0 w g s0_0 s0_1) (hB : Below w0.heap.size w0 w) (h : text_Reader_Left.f s0_0 s0_1 = some (r1, r2, r3)) :
  Calls Tryd.prog 39 #[.pointer (some ⟨g, 0, none⟩)] w fun e w' => e = .returned (.int .i64 r1) ∧ IsS105 w0 w' g r2 r3 ∧ Below w0.heap.size w0 w' ∧ KeepBut w w' g none := by
 have HI0 := As.mk hI
 have HK := As.mk (KeepBut.refl w g none)
 have HL := As.mk hB.size
 clear hI
 have HW0 := As.mk hB.size
 have HB := As.mk hB
 clear hB
 have H : (some (wrap64 ((s0_0.size : Int) - s0_1), s0_0, s0_1)) = some (r1, r2, r3) := h
 clear h
 simp only [Option.some.injEq, Prod.mk.injEq] at H
 obtain ⟨rfl, rfl, rfl⟩ := H
 obtain ⟨HGz2, hgz2⟩ := HI0.out
 have hcz2_0 := cellS105_0 HGz2
 have hcz2_1 := cellS105_1 HGz2
 have hfz2_0 := blk_frozen HGz2 0
 have hfz2_1 := blk_frozen HGz2 1
 clear HGz2 hgz2
 go_enter Tryd.func39, Tryd.ntmps39
 go_wp2
 repeat (go_quiet (fail); try go_wp2)
 go_ret
 exact ⟨by first | rfl | (simp [errW_none, errW_some] <;> rfl) | (simp [*, errW_none, errW_some] <;> rfl), by repeat (first | (with_reducible first | exact HI0.out | apply IsS105.alloc | apply IsS105.drewN | apply IsS105.drew | apply IsS105.set_0 | apply IsS105.set_1) | exact HI0.out), by repeat (first | (with_reducible first | exact HB.out | apply bwA | apply bwN | apply bwD | refine bwC ?_ (IsS105.ge HI0.out)) | exact HB.out), by repeat (first | (with_reducible first | exact HK.out | apply KeepBut.set_ | apply kpN | apply kpD | apply kpA) | exact HK.out)⟩

/-! ### text_Reader_Byte: function 81 -/
def text_Reader_Byte.f (s0_0 : ByteArray) (s0_1 : Int) : Option (Int × ByteArray × Int) := (text_Reader_Left.f s0_0 s0_1).bind fun bt101 => (if bt101.1 = 0 then (some (0, bt101.2.1, bt101.2.2)) else (if 0 ≤ (wrap64 ((wrap64 (bt101.2.2 + 1)) - 1)) then (if (wrap64 ((wrap64 (bt101.2.2 + 1)) - 1)) < (bt101.2.1.size : Int) then (some (bt bt101.2.1 (wrap64 ((wrap64 (bt101.2.2 + 1)) - 1)), bt101.2.1, wrap64 (bt101.2.2 + 1))) else (none)) else (none)))
set_option maxHeartbeats 8000000 in
set_option maxRecDepth 100000 in
theorem text_Reader_Byte.calls (g : Nat) (s0_0 : ByteArray) (s0_1 : Int) (r1 : Int) (r2 : ByteArray) (r3 : Int) (w0 w : World) (hI : IsS105 w0 w g s0_0 s0_1) (hB : Below w0.heap.size w0 w) (h : text_Reader_Byte.f s0_0 s0_1 = some (r1, r2, r3)) :
  Calls Tryd.prog 81 #[.pointer (some ⟨g, 0, none⟩)] w fun e w' => e = .returned (.int .u8 r1) ∧ IsS105 w0 w' g r2 r3 ∧ Below w0.heap.size w0 w' ∧ KeepBut w w' g none := by
 have HI0 := As.mk hI
 have HK := As.mk (KeepBut.refl w g none)
 have HL := As.mk hB.size
 clear hI
 have HW0 := As.mk hB.size
 have HB := As.mk hB
 clear hB
 have H : ((text_Reader_Left.f s0_0 s0_1).bind fun bt101 => (if bt101.1 = 0 then (some (0, bt101.2.1, bt101.2.2)) else (if 0 ≤ (wrap64 ((wrap64 (bt101.2.2 + 1)) - 1)) then (if (wrap64 ((wrap64 (bt101.2.2 + 1)) - 1)) < (bt101.2.1.size : Int) then (some (bt bt101.2.1 (wrap64 ((wrap64 (bt101.2.2 + 1)) - 1)), bt101.2.1, wrap64 (bt101.2.2 + 1))) else (none)) else (none)))) = some (r1, r2, r3) := h
 clear h
 replace H := Option.bind_eq_some_iff.mp H
 obtain ⟨⟨t101, t102, t103⟩, A20, H⟩ := H
 replace H : (if t101 = 0 then (some (0, t102, t103)) else (if 0 ≤ (wrap64 ((wrap64 (t103 + 1)) - 1)) then (if (wrap64 ((wrap64 (t103 + 1)) - 1)) < (t102.size : Int) then (some (bt t102 (wrap64 ((wrap64 (t103 + 1)) - 1)), t102, wrap64 (t103 + 1))) else (none)) else (none))) = some (r1, r2, r3) := H
 have A2 := As.mk A20
 clear A20
 by_cases c3 : t101 = 0
 ·
  rw [if_pos c3] at H
  have c3b0 : (t101 == 0) = true := beq_iff_eq.mpr c3
  have c3b1 : (t101 != 0) = false := bne_eq_false_iff_eq.mpr c3
  clear c3
  simp only [Option.some.injEq, Prod.mk.injEq] at H
  obtain ⟨rfl, rfl, rfl⟩ := H
  go_enter Tryd.func81, Tryd.ntmps81
  go_wp2_with (first | (go_at_call 39; (with_reducible refine (text_Reader_Left.calls g s0_0 s0_1 t101 t102 t103 w0 _ ?side1 ?side2 A2.out).mono ?_); (case side1 => repeat (first | (with_reducible first | exact HI0.out | apply IsS105.alloc | apply IsS105.drewN | apply IsS105.drew | apply IsS105.set_0 | apply IsS105.set_1) | exact HI0.out)); (case side2 => repeat (first | (with_reducible first | exact HB.out | apply bwA | apply bwN | apply bwD | refine bwC ?_ (IsS105.ge HI0.out)) | exact HB.out)); rintro e w4 ⟨rfl, hi, hb, hk⟩; have n0_ := As.mk (KeepBut.trans (by repeat (first | (with_reducible first | exact HK.out | apply KeepBut.set_ | apply kpN | apply kpD | apply kpA) | exact HK.out)) hk (.inl rfl)); have n1_ := As.mk (hb); have n2_ := As.mk (hi); clear HK; clear HB; clear HI0; have HK := n0_; have HB := n1_; have HI0 := n2_; clear n0_ n1_ n2_; (try clear hb); (try clear hb2); (try clear hk); (try clear hi)))
  repeat (go_quiet (first | (go_at_call 39; (with_reducible refine (text_Reader_Left.calls g s0_0 s0_1 t101 t102 t103 w0 _ ?side1 ?side2 A2.out).mono ?_); (case side1 => repeat (first | (with_reducible first | exact HI0.out | apply IsS105.alloc | apply IsS105.drewN | apply IsS105.drew | apply IsS105.set_0 | apply IsS105.set_1) | exact HI0.out)); (case side2 => repeat (first | (with_reducible first | exact HB.out | apply bwA | apply bwN | apply bwD | refine bwC ?_ (IsS105.ge HI0.out)) | exact HB.out)); rintro e w4 ⟨rfl, hi, hb, hk⟩; have n0_ := As.mk (KeepBut.trans (by repeat (first | (with_reducible first | exact HK.out | apply KeepBut.set_ | apply kpN | apply kpD | apply kpA) | exact HK.out)) hk (.inl rfl)); have n1_ := As.mk (hb); have n2_ := As.mk (hi); clear HK; clear HB; clear HI0; have HK := n0_; have HB := n1_; have HI0 := n2_; clear n0_ n1_ n2_; (try clear hb); (try clear hb2); (try clear hk); (try clear hi))); try go_wp2_with (first | (go_at_call 39; (with_reducible refine (text_Reader_Left.calls g s0_0 s0_1 t101 t102 t103 w0 _ ?side1 ?side2 A2.out).mono ?_); (case side1 => repeat (first | (with_reducible first | exact HI0.out | apply IsS105.alloc | apply IsS105.drewN | apply IsS105.drew | apply IsS105.set_0 | apply IsS105.set_1) | exact HI0.out)); (case side2 => repeat (first | (with_reducible first | exact HB.out | apply bwA | apply bwN | apply bwD | refine bwC ?_ (IsS105.ge HI0.out)) | exact HB.out)); rintro e w4 ⟨rfl, hi, hb, hk⟩; have n0_ := As.mk (KeepBut.trans (by repeat (first | (with_reducible first | exact HK.out | apply KeepBut.set_ | apply kpN | apply kpD | apply kpA) | exact HK.out)) hk (.inl rfl)); have n1_ := As.mk (hb); have n2_ := As.mk (hi); clear HK; clear HB; clear HI0; have HK := n0_; have HB := n1_; have HI0 := n2_; clear n0_ n1_ n2_; (try clear hb); (try clear hb2); (try clear hk); (try clear hi))))
  go_ret
  exact ⟨by first | rfl | (simp [errW_none, errW_some] <;> rfl) | (simp [*, errW_none, errW_some] <;> rfl), by repeat (first | (with_reducible first | exact HI0.out | apply IsS105.alloc | apply IsS105.drewN | apply IsS105.drew | apply IsS105.set_0 | apply IsS105.set_1) | exact HI0.out), by repeat (first | (with_reducible first | exact HB.out | apply bwA | apply bwN | apply bwD | refine bwC ?_ (IsS105.ge HI0.out)) | exact HB.out), by repeat (first | (with_reducible first | exact HK.out | apply KeepBut.set_ | apply kpN | apply kpD | apply kpA) | exact HK.out)⟩
 ·
  rw [if_neg c3] at H
  have c3b0 : (t101 == 0) = false := beq_eq_false_iff_ne.mpr c3
  have c3b1 : (t101 != 0) = true := bne_iff_ne.mpr c3
  obtain ⟨ji5, hji5⟩ : ∃ j_ : Int, (wrap64 ((wrap64 (t103 + 1)) - 1)) = j_ := ⟨_, rfl⟩
  replace H : (if 0 ≤ (ji5) then (if (ji5) < (t102.size : Int) then (some (bt t102 (ji5), t102, wrap64 (t103 + 1))) else (none)) else (none)) = some (r1, r2, r3) := by first | (rw [hji5] at H; exact H) | (simp only [hji5] at H ⊢; exact H)
  (try rw [hji5] at A2)
  have hji5w : (IntKind.i64.wrap ((wrap64 (t103 + 1)) - 1)) = ji5 := (i64_w _).trans hji5
  replace H := ite_some H
  obtain ⟨c6, H⟩ := H
  have c6b0 : decide (0 ≤ (ji5)) = true := decide_eq_true c6
  clear c6
  replace H := ite_some H
  obtain ⟨c7, H⟩ := H
  have c7b0 : decide ((ji5) < (t102.size : Int)) = true := decide_eq_true c7
  clear c7
  simp only [Option.some.injEq, Prod.mk.injEq] at H
  obtain ⟨rfl, rfl, rfl⟩ := H
  go_enter Tryd.func81, Tryd.ntmps81
  go_wp2_with (first | (go_at_call 39; (with_reducible refine (text_Reader_Left.calls g s0_0 s0_1 t101 t102 t103 w0 _ ?side1 ?side2 A2.out).mono ?_); (case side1 => repeat (first | (with_reducible first | exact HI0.out | apply IsS105.alloc | apply IsS105.drewN | apply IsS105.drew | apply IsS105.set_0 | apply IsS105.set_1) | exact HI0.out)); (case side2 => repeat (first | (with_reducible first | exact HB.out | apply bwA | apply bwN | apply bwD | refine bwC ?_ (IsS105.ge HI0.out)) | exact HB.out)); rintro e w9 ⟨rfl, hi, hb, hk⟩; have n0_ := As.mk (KeepBut.trans (by repeat (first | (with_reducible first | exact HK.out | apply KeepBut.set_ | apply kpN | apply kpD | apply kpA) | exact HK.out)) hk (.inl rfl)); have n1_ := As.mk (hb); have n2_ := As.mk (hi); clear HK; clear HB; clear HI0; have HK := n0_; have HB := n1_; have HI0 := n2_; clear n0_ n1_ n2_; (try clear hb); (try clear hb2); (try clear hk); (try clear hi); obtain ⟨HGz10, hgz10⟩ := HI0.out; have hcz10_0 := cellS105_0 HGz10; have hcz10_1 := cellS105_1 HGz10; have hfz10_0 := blk_frozen HGz10 0; have hfz10_1 := blk_frozen HGz10 1; clear HGz10 hgz10; have p8 : 0 ≤ ((ji5) : Int) := of_decide_eq_true (by first | (with_reducible assumption) | assumption); have q8 : (ji5) < (t102.size : Int) := of_decide_eq_true (by first | (with_reducible assumption) | assumption); have hx8 := bt_at t102 (ji5); replace p8 := eq_true p8; replace q8 := eq_true q8))
  repeat (go_quiet (first | (go_at_call 39; (with_reducible refine (text_Reader_Left.calls g s0_0 s0_1 t101 t102 t103 w0 _ ?side1 ?side2 A2.out).mono ?_); (case side1 => repeat (first | (with_reducible first | exact HI0.out | apply IsS105.alloc | apply IsS105.drewN | apply IsS105.drew | apply IsS105.set_0 | apply IsS105.set_1) | exact HI0.out)); (case side2 => repeat (first | (with_reducible first | exact HB.out | apply bwA | apply bwN | apply bwD | refine bwC ?_ (IsS105.ge HI0.out)) | exact HB.out)); rintro e w9 ⟨rfl, hi, hb, hk⟩; have n0_ := As.mk (KeepBut.trans (by repeat (first | (with_reducible first | exact HK.out | apply KeepBut.set_ | apply kpN | apply kpD | apply kpA) | exact HK.out)) hk (.inl rfl)); have n1_ := As.mk (hb); have n2_ := As.mk (hi); clear HK; clear HB; clear HI0; have HK := n0_; have HB := n1_; have HI0 := n2_; clear n0_ n1_ n2_; (try clear hb); (try clear hb2); (try clear hk); (try clear hi); obtain ⟨HGz10, hgz10⟩ := HI0.out; have hcz10_0 := cellS105_0 HGz10; have hcz10_1 := cellS105_1 HGz10; have hfz10_0 := blk_frozen HGz10 0; have hfz10_1 := blk_frozen HGz10 1; clear HGz10 hgz10; have p8 : 0 ≤ ((ji5) : Int) := of_decide_eq_true (by first | (with_reducible assumption) | assumption); have q8 : (ji5) < (t102.size : Int) := of_decide_eq_true (by first | (with_reducible assumption) | assumption); have hx8 := bt_at t102 (ji5); replace p8 := eq_true p8; replace q8 := eq_true q8)); try go_wp2_with (first | (go_at_call 39; (with_reducible refine (text_Reader_Left.calls g s0_0 s0_1 t101 t102 t103 w0 _ ?side1 ?side2 A2.out).mono ?_); (case side1 => repeat (first | (with_reducible first | exact HI0.out | apply IsS105.alloc | apply IsS105.drewN | apply IsS105.drew | apply IsS105.set_0 | apply IsS105.set_1) | exact HI0.out)); (case side2 => repeat (first | (with_reducible first | exact HB.out | apply bwA | apply bwN | apply bwD | refine bwC ?_ (IsS105.ge HI0.out)) | exact HB.out)); rintro e w9 ⟨rfl, hi, hb, hk⟩; have n0_ := As.mk (KeepBut.trans (by repeat (first | (with_reducible first | exact HK.out | apply KeepBut.set_ | apply kpN | apply kpD | apply kpA) | exact HK.out)) hk (.inl rfl)); have n1_ := As.mk (hb); have n2_ := As.mk (hi); clear HK; clear HB; clear HI0; have HK := n0_; have HB := n1_; have HI0 := n2_; clear n0_ n1_ n2_; (try clear hb); (try clear hb2); (try clear hk); (try clear hi); obtain ⟨HGz10, hgz10⟩ := HI0.out; have hcz10_0 := cellS105_0 HGz10; have hcz10_1 := cellS105_1 HGz10; have hfz10_0 := blk_frozen HGz10 0; have hfz10_1 := blk_frozen HGz10 1; clear HGz10 hgz10; have p8 : 0 ≤ ((ji5) : Int) := of_decide_eq_true (by first | (with_reducible assumption) | assumption); have q8 : (ji5) < (t102.size : Int) := of_decide_eq_true (by first | (with_reducible assumption) | assumption); have hx8 := bt_at t102 (ji5); replace p8 := eq_true p8; replace q8 := eq_true q8)))
  go_ret
  exact ⟨by first | rfl | (simp [errW_none, errW_some] <;> rfl) | (simp only [← hji5]; first | rfl | (simp [errW_none, errW_some] <;> rfl)) | (simp [*, errW_none, errW_some] <;> rfl), by repeat (first | (with_reducible first | exact HI0.out | apply IsS105.alloc | apply IsS105.drewN | apply IsS105.drew | apply IsS105.set_0 | apply IsS105.set_1) | exact HI0.out), by repeat (first | (with_reducible first | exact HB.out | apply bwA | apply bwN | apply bwD | refine bwC ?_ (IsS105.ge HI0.out)) | exact HB.out), by repeat (first | (with_reducible first | exact HK.out | apply KeepBut.set_ | apply kpN | apply kpD | apply kpA) | exact HK.out)⟩
/-! ### lex_Source_Peek: function 44 -/

/-! ### ppred_both: function 46 -/
def ppred_both.f (l0 : List (S53)) (l1 : List (S53)) (a2 : Int) : Option ((List (S53))) := (some (([] : List (S53)) : List (S53))).bind fun y106 => (if y106.length + l0.length < 1759218604441 then ((some (y106 ++ l0 : List (S53))).bind fun y109 => (if y109.length + l1.length < 1759218604441 then ((some (y109 ++ l1 : List (S53))).bind fun y112 => (if y112.length < 1759218604441 then (some (y112 ++ [(⟨a2, (⟨0, 0, (⟨#[]⟩ : ByteArray), false⟩ : S51), (⟨#[]⟩ : ByteArray), (⟨#[]⟩ : ByteArray)⟩ : S53)])) else (none))) else (none))) else (none))
set_option maxHeartbeats 8000000 in
set_option maxRecDepth 100000 in
theorem ppred_both.calls (A0 : Option Addr) (c0 : Nat) (l0 : List (S53)) (A1 : Option Addr) (c1 : Nat) (l1 : List (S53)) (a2 : Int) (r : List (S53)) (w : World) (hr0 : Kd.C k53 w A0 l0.length l0) (hc0 : l0.length ≤ c0) (hr1 : Kd.C k53 w A1 l1.length l1) (hc1 : l1.length ≤ c1) (h : ppred_both.f l0 l1 a2 = some r) :
  Calls Tryd.prog 46 #[.slice A0 l0.length c0, .slice A1 l1.length c1, .int .i64 a2] w fun e w' => ∃ v0_ : Value, e = .returned (v0_) ∧ Kd.R k53 53 w' w.heap.size (fun _ => True) v0_ r ∧ Below w.heap.size w w' := by
 have hu53 := Tryd.underlying53
 have HR0 := As.mk hr0
 have HC0 := As.mk hc0
 clear hr0 hc0
 have HR1 := As.mk hr1
 have HC1 := As.mk hc1
 clear hr1 hc1
 have HB := As.mk (Below.refl w.heap.size w)
 have H : ((some (([] : List (S53)) : List (S53))).bind fun y106 => (if y106.length + l0.length < 1759218604441 then ((some (y106 ++ l0 : List (S53))).bind fun y109 => (if y109.length + l1.length < 1759218604441 then ((some (y109 ++ l1 : List (S53))).bind fun y112 => (if y112.length < 1759218604441 then (some (y112 ++ [(⟨a2, (⟨0, 0, (⟨#[]⟩ : ByteArray), false⟩ : S51), (⟨#[]⟩ : ByteArray), (⟨#[]⟩ : ByteArray)⟩ : S53)])) else (none))) else (none))) else (none))) = some r := h
 clear h
 obtain ⟨y106, hy106⟩ : ∃ y_ : List (S53), y_ = (([] : List (S53))) := ⟨_, rfl⟩
 replace H : (if y106.length + l0.length < 1759218604441 then ((some (y106 ++ l0 : List (S53))).bind fun y109 => (if y109.length + l1.length < 1759218604441 then ((some (y109 ++ l1 : List (S53))).bind fun y112 => (if y112.length < 1759218604441 then (some (y112 ++ [(⟨a2, (⟨0, 0, (⟨#[]⟩ : ByteArray), false⟩ : S51), (⟨#[]⟩ : ByteArray), (⟨#[]⟩ : ByteArray)⟩ : S53)])) else (none))) else (none))) else (none)) = some r := by first | (rw [hy106]; with_reducible exact H) | (have H2_ := (Option.bind_some _ _).symm.trans H; rw [hy106]; with_reducible exact H2_) | (have H2_ := (Option.bind_some _ _).symm.trans H; with_reducible exact H2_) | with_reducible exact H | (rw [hy106]; exact H) | exact H
 have Ny106 := As.mk hy106
 clear hy106
 replace H := ite_some H
 obtain ⟨c4, H⟩ := H
 have LMc4 := As.mk c4
 clear c4
 obtain ⟨y109, hy109⟩ : ∃ y_ : List (S53), y_ = (y106 ++ l0) := ⟨_, rfl⟩
 replace H : (if y109.length + l1.length < 1759218604441 then ((some (y109 ++ l1 : List (S53))).bind fun y112 => (if y112.length < 1759218604441 then (some (y112 ++ [(⟨a2, (⟨0, 0, (⟨#[]⟩ : ByteArray), false⟩ : S51), (⟨#[]⟩ : ByteArray), (⟨#[]⟩ : ByteArray)⟩ : S53)])) else (none))) else (none)) = some r := by first | (rw [hy109]; with_reducible exact H) | (have H2_ := (Option.bind_some _ _).symm.trans H; rw [hy109]; with_reducible exact H2_) | (have H2_ := (Option.bind_some _ _).symm.trans H; with_reducible exact H2_) | with_reducible exact H | (rw [hy109]; exact H) | exact H
 have Ny109 := As.mk hy109
 clear hy109
 replace H := ite_some H
 obtain ⟨c5, H⟩ := H
 have LMc5 := As.mk c5
 clear c5
 obtain ⟨y112, hy112⟩ : ∃ y_ : List (S53), y_ = (y109 ++ l1) := ⟨_, rfl⟩
 replace H : (if y112.length < 1759218604441 then (some (y112 ++ [(⟨a2, (⟨0, 0, (⟨#[]⟩ : ByteArray), false⟩ : S51), (⟨#[]⟩ : ByteArray), (⟨#[]⟩ : ByteArray)⟩ : S53)])) else (none)) = some r := by first | (rw [hy112]; with_reducible exact H) | (have H2_ := (Option.bind_some _ _).symm.trans H; rw [hy112]; with_reducible exact H2_) | (have H2_ := (Option.bind_some _ _).symm.trans H; with_reducible exact H2_) | with_reducible exact H | (rw [hy112]; exact H) | exact H
 have Ny112 := As.mk hy112
 clear hy112
 replace H := ite_some H
 obtain ⟨c6, H⟩ := H
 have LMc6 := As.mk c6
 clear c6
 obtain ⟨y115, hy115⟩ : ∃ y_ : List (S53), y_ = (y112 ++ [(⟨a2, (⟨0, 0, (⟨#[]⟩ : ByteArray), false⟩ : S51), (⟨#[]⟩ : ByteArray), (⟨#[]⟩ : ByteArray)⟩ : S53)]) := ⟨_, rfl⟩
 replace H : (some y115) = some r := by first | (rw [hy115]; with_reducible exact H) | (have H2_ := (Option.bind_some _ _).symm.trans H; rw [hy115]; with_reducible exact H2_) | (have H2_ := (Option.bind_some _ _).symm.trans H; with_reducible exact H2_) | with_reducible exact H | (rw [hy115]; exact H) | exact H
 have Ny115 := As.mk hy115
 clear hy115
 obtain rfl := Option.some.inj H
 go_enter Tryd.func46, Tryd.ntmps46
 go_wp2_with (first | ((with_reducible refine gate_dst (N := 8) rfl ?_); refine Kd.R_lit k53 _ 53 ?hg (N := 8) ?hd (xs := ([] : List (S53))) (inner := []) (ok := fun _ => True) (okp := fun _ => True) ?hr ?hp (fun _ hk => hk) trivial (Below.refl _ _) (Nat.le_refl _) (by simp) ?_; (case hd => rfl); (case hg => rfl); (case hr => first | (go_simp; done) | (go_simp; rfl)); (case hp => exact (Reps.none _ _)); intro v107 w7 ho8 hb hg_ hnew_; clear hg_ hnew_; (first | rw [← Ny106.out] at ho8 | (simp only [Int.reduceToNat] at ho8; rw [← Ny106.out] at ho8)); have n0_ := As.mk (Kd.R_lower ho8 (bwZ (by repeat (first | (with_reducible first | exact HB.out | apply bwA | apply bwN | apply bwD) | exact HB.out)))); have n1_ := As.mk (bwS (by repeat (first | (with_reducible first | exact HB.out | apply bwA | apply bwN | apply bwD) | exact HB.out)) hb); clear HB; have HO108 := n0_; have HB := n1_; clear n0_ n1_; clear hb ho8) | ((with_reducible refine gaB (b := .append) (xs := #[.tmp 8, .tmp 9]) rfl ?_); at_builtin; refine Kd.R_append_rows k53 (w0 := w) w.heap.size rfl (.tmp 8) (.tmp 9) 23 53 (.agg #[(.int .i64 0), (.int .i64 0), (.int .i64 0), (.string ⟨#[]⟩), (.bool false), (.string ⟨#[]⟩), (.string ⟨#[]⟩)]) 80 rfl Tryd.underlying23 info53 rfl (by decide) (by omega) v107 y106 l0 _ _ _ (fun _ => True) (fun _ => False) rfl rfl ?aO ?aR (fun _ _ h => h) (fun _ h => h.elim) ?aF ?aB ?aS ?aL ?_; (case aR => repeat (first | exact (Kd.C_below HR0.out HB.out) | (with_reducible refine Kd.C_alloc ?_ _) | (with_reducible refine Kd.C_drewN ?_ _) | (with_reducible refine Kd.C_drew ?_))); (case aB => exact (by repeat (first | (with_reducible first | exact HB.out | apply bwA | apply bwN | apply bwD) | exact HB.out))); (case aF => exact (fun _ _ => trivial)); (case aO => exact (by (with_reducible repeat (first | apply Kd.rA | apply Kd.rN | apply Kd.rD)); exact HO108.out)); (case aS => exact (bwZ (by repeat (first | (with_reducible first | exact HB.out | apply bwA | apply bwN | apply bwD) | exact HB.out)))); (case aL => have := LMc4.out; omega); intro v110 w9 ho hb hg hat; rw [← Ny109.out] at ho; have n0_ := As.mk (hb); have n1_ := As.mk (ho); clear HB; clear HO108; have HB := n0_; have HO111 := n1_; clear n0_ n1_; clear ho hb hg hat) | ((with_reducible refine gaB (b := .append) (xs := #[.tmp 11, .tmp 12]) rfl ?_); at_builtin; refine Kd.R_append_rows k53 (w0 := w) w.heap.size rfl (.tmp 11) (.tmp 12) 23 53 (.agg #[(.int .i64 0), (.int .i64 0), (.int .i64 0), (.string ⟨#[]⟩), (.bool false), (.string ⟨#[]⟩), (.string ⟨#[]⟩)]) 80 rfl Tryd.underlying23 info53 rfl (by decide) (by omega) v110 y109 l1 _ _ _ (fun _ => True) (fun _ => False) rfl rfl ?aO ?aR (fun _ _ h => h) (fun _ h => h.elim) ?aF ?aB ?aS ?aL ?_; (case aR => repeat (first | exact (Kd.C_below HR1.out HB.out) | (with_reducible refine Kd.C_alloc ?_ _) | (with_reducible refine Kd.C_drewN ?_ _) | (with_reducible refine Kd.C_drew ?_))); (case aB => exact (by repeat (first | (with_reducible first | exact HB.out | apply bwA | apply bwN | apply bwD) | exact HB.out))); (case aF => exact (fun _ _ => trivial)); (case aO => exact (by (with_reducible repeat (first | apply Kd.rA | apply Kd.rN | apply Kd.rD)); exact HO111.out)); (case aS => exact (bwZ (by repeat (first | (with_reducible first | exact HB.out | apply bwA | apply bwN | apply bwD) | exact HB.out)))); (case aL => have := LMc5.out; omega); intro v113 w10 ho hb hg hat; rw [← Ny112.out] at ho; have n0_ := As.mk (hb); have n1_ := As.mk (ho); clear HB; clear HO111; have HB := n0_; have HO114 := n1_; clear n0_ n1_; clear ho hb hg hat) | ((with_reducible refine gaB (b := .append) (xs := #[.tmp 13, .tmp 16]) rfl ?_); at_builtin; refine Kd.R_append k53 (w0 := w) w.heap.size rfl (.tmp 13) (.tmp 16) 23 53 (.agg #[(.int .i64 0), (.int .i64 0), (.int .i64 0), (.string ⟨#[]⟩), (.bool false), (.string ⟨#[]⟩), (.string ⟨#[]⟩)]) 80 rfl Tryd.underlying23 info53 rfl (by decide) (by omega) v113 y112 (⟨a2, (⟨0, 0, (⟨#[]⟩ : ByteArray), false⟩ : S51), (⟨#[]⟩ : ByteArray), (⟨#[]⟩ : ByteArray)⟩ : S53) [.int .i64 a2, .int .i64 0, .int .i64 0, .string (⟨#[]⟩ : ByteArray), .bool false, .string (⟨#[]⟩ : ByteArray), .string (⟨#[]⟩ : ByteArray)] (fun _ => True) (fun _ => False) rfl rfl ?aP (fun _ hk => hk.elim) ?aF ?aO ?aB ?aS ?aL ?_; (case aP => exact k53_mkM _ _ _ (⟨a2, (⟨0, 0, (⟨#[]⟩ : ByteArray), false⟩ : S51), (⟨#[]⟩ : ByteArray), (⟨#[]⟩ : ByteArray)⟩ : S53)); (case aB => exact (by repeat (first | (with_reducible first | exact HB.out | apply bwA | apply bwN | apply bwD) | exact HB.out))); (case aF => exact (fun _ _ => trivial)); (case aO => exact (by (with_reducible repeat (first | apply Kd.rA | apply Kd.rN | apply Kd.rD)); exact HO114.out)); (case aS => exact (bwZ (by repeat (first | (with_reducible first | exact HB.out | apply bwA | apply bwN | apply bwD) | exact HB.out)))); (case aL => have := LMc6.out; omega); intro v116 w11 ho hb hg hat; rw [← Ny115.out] at ho; have n0_ := As.mk (hb); have n1_ := As.mk (ho); clear HB; clear HO114; have HB := n0_; have HO117 := n1_; clear n0_ n1_; clear ho hb hg hat))
 go_ret
 exact ⟨_, by first | rfl | (simp [errW_none, errW_some] <;> rfl) | (simp [*, errW_none, errW_some] <;> rfl), by (with_reducible repeat (first | apply Kd.rA | apply Kd.rN | apply Kd.rD)); exact HO117.out, by repeat (first | (with_reducible first | exact HB.out | apply bwA | apply bwN | apply bwD) | exact HB.out)⟩
/-! ### term_Sign: function 67 -/
def term_Sign.j0 : Nat → Int → Bool → Option (ByteArray)
 | 0, _, _ => none
 | k + 1, x3, x4 => if x4 = true then (some (⟨#[45]⟩ : ByteArray)) else (if x3 = 4 then (some (⟨#[43]⟩ : ByteArray)) else (if x3 = 6 then (some (⟨#[42]⟩ : ByteArray)) else (if x3 = 7 then (some (⟨#[61]⟩ : ByteArray)) else (if x3 = 8 then (some (⟨#[33, 61]⟩ : ByteArray)) else (if x3 = 9 then (some (⟨#[60]⟩ : ByteArray)) else (if x3 = 10 then (some (⟨#[60, 61]⟩ : ByteArray)) else (if x3 = 11 then (some (⟨#[62]⟩ : ByteArray)) else (if x3 = 12 then (some (⟨#[62, 61]⟩ : ByteArray)) else (if x3 = 13 then (some (⟨#[110, 111, 116]⟩ : ByteArray)) else (if x3 = 14 then (some (⟨#[97, 110, 100]⟩ : ByteArray)) else (if x3 = 15 then (some (⟨#[111, 114]⟩ : ByteArray)) else (some (⟨#[]⟩ : ByteArray)))))))))))))
def term_Sign.f (k : Nat) (a0 : Int) : Option (ByteArray) := if a0 = 3 then (term_Sign.j0 k a0 (a0 == 3)) else (term_Sign.j0 k a0 (a0 == 5))
set_option maxHeartbeats 8000000 in
set_option maxRecDepth 100000 in
theorem term_Sign.calls (k : Nat) (a0 : Int) (r : ByteArray) (w : World) (h : term_Sign.f k a0 = some r) :
  Calls Tryd.prog 67 #[.int .i64 a0] w fun e w' => e = .returned (.string r) ∧ Drawn0 w w' := by
 have H : (if a0 = 3 then (term_Sign.j0 k a0 (a0 == 3)) else (term_Sign.j0 k a0 (a0 == 5))) = some r := h
 clear h
 have HC2 := As.mk H
 clear H
 go_enter Tryd.func67, Tryd.ntmps67
 go_upto_if 4 with (fail)
 go_cut [4] (fun v4 wc => ∃ (kq : Nat) (x4_1 : Bool), v4 = .bool x4_1 ∧ As (term_Sign.j0 kq a0 x4_1 = some r) ∧ As (kq ≤ k) ∧ Drawn0 w wc)
 case first =>
  have H := HC2.out
  clear HC2
  by_cases c3 : a0 = 3
  ·
   rw [if_pos c3] at H
   have c3b0 : (a0 == 3) = true := beq_iff_eq.mpr c3
   have c3b1 : (a0 != 3) = false := bne_eq_false_iff_eq.mpr c3
   clear c3
   (first | rw [c3b0] | (simp only [i64_w, i32_w]; rw [c3b0]) | skip)
   have H' := As.mk H
   clear H
   go_wp2
   go_meet
   case rel => exact ⟨_, ((a0 == 3)), (by first | rfl | (simp; done) | (simp [*]; done)), H', ⟨by first | omega | exact Nat.le_refl _⟩, by repeat (first | exact Drawn0.refl _ | apply Drawn0.step)⟩
  ·
   rw [if_neg c3] at H
   have c3b0 : (a0 == 3) = false := beq_eq_false_iff_ne.mpr c3
   have c3b1 : (a0 != 3) = true := bne_iff_ne.mpr c3
   (first | rw [c3b0] | (simp only [i64_w, i32_w]; rw [c3b0]) | skip)
   have H' := As.mk H
   clear H
   go_wp2
   go_meet
   case rel => exact ⟨_, ((a0 == 5)), (by first | rfl | (simp; done) | (simp [*]; done)), H', ⟨by first | omega | exact Nat.le_refl _⟩, by repeat (first | exact Drawn0.refl _ | apply Drawn0.step)⟩
 case rest =>
  clear HC2
  try clear p2
  try clear c3
  try clear c3b0
  try clear c3b1
  obtain ⟨kq, x4_1, rfl, HA, HJ1, ⟨mc1, rfl⟩⟩ := hcut
  cases kq with
  | zero => exact absurd HA.out (by simp [term_Sign.j0])
  | succ kj1 =>
   have H := HA.out
   clear HA
   simp only [term_Sign.j0] at H
   by_cases c4 : x4_1 = true
   ·
    subst c4
    have H1 : (some (⟨#[45]⟩ : ByteArray)) = some r := by rw [if_pos rfl] at H; exact H
    clear H
    have H := H1
    clear H1
    obtain rfl := Option.some.inj H
    go_wp2
    go_ret
    exact ⟨by first | rfl | (simp; done) | (simp [*]; done), by repeat (first | exact Drawn0.refl _ | apply Drawn0.step)⟩
   ·
    replace c4 := Bool.eq_false_iff.mpr c4
    subst c4
    have H1 : (if a0 = 4 then (some (⟨#[43]⟩ : ByteArray)) else (if a0 = 6 then (some (⟨#[42]⟩ : ByteArray)) else (if a0 = 7 then (some (⟨#[61]⟩ : ByteArray)) else (if a0 = 8 then (some (⟨#[33, 61]⟩ : ByteArray)) else (if a0 = 9 then (some (⟨#[60]⟩ : ByteArray)) else (if a0 = 10 then (some (⟨#[60, 61]⟩ : ByteArray)) else (if a0 = 11 then (some (⟨#[62]⟩ : ByteArray)) else (if a0 = 12 then (some (⟨#[62, 61]⟩ : ByteArray)) else (if a0 = 13 then (some (⟨#[110, 111, 116]⟩ : ByteArray)) else (if a0 = 14 then (some (⟨#[97, 110, 100]⟩ : ByteArray)) else (if a0 = 15 then (some (⟨#[111, 114]⟩ : ByteArray)) else (some (⟨#[]⟩ : ByteArray))))))))))))) = some r := by rw [if_neg (show ¬ (false = true) by decide)] at H; exact H
    clear H
    have H := H1
    clear H1
    by_cases c5 : a0 = 4
    ·
     rw [if_pos c5] at H
     have c5b0 : (a0 == 4) = true := beq_iff_eq.mpr c5
     have c5b1 : (a0 != 4) = false := bne_eq_false_iff_eq.mpr c5
     clear c5
     obtain rfl := Option.some.inj H
     go_wp2
     go_ret
     exact ⟨by first | rfl | (simp; done) | (simp [*]; done), by repeat (first | exact Drawn0.refl _ | apply Drawn0.step)⟩
    ·
     rw [if_neg c5] at H
     have c5b0 : (a0 == 4) = false := beq_eq_false_iff_ne.mpr c5
     have c5b1 : (a0 != 4) = true := bne_iff_ne.mpr c5
     by_cases c6 : a0 = 6
     ·
      rw [if_pos c6] at H
      have c6b0 : (a0 == 6) = true := beq_iff_eq.mpr c6
      have c6b1 : (a0 != 6) = false := bne_eq_false_iff_eq.mpr c6
      clear c6
      obtain rfl := Option.some.inj H
      go_wp2
      go_ret
      exact ⟨by first | rfl | (simp; done) | (simp [*]; done), by repeat (first | exact Drawn0.refl _ | apply Drawn0.step)⟩
     ·
      rw [if_neg c6] at H
      have c6b0 : (a0 == 6) = false := beq_eq_false_iff_ne.mpr c6
      have c6b1 : (a0 != 6) = true := bne_iff_ne.mpr c6
      by_cases c7 : a0 = 7
      ·
       rw [if_pos c7] at H
       have c7b0 : (a0 == 7) = true := beq_iff_eq.mpr c7
       have c7b1 : (a0 != 7) = false := bne_eq_false_iff_eq.mpr c7
       clear c7
       obtain rfl := Option.some.inj H
       go_wp2
       go_ret
       exact ⟨by first | rfl | (simp; done) | (simp [*]; done), by repeat (first | exact Drawn0.refl _ | apply Drawn0.step)⟩
      ·
       rw [if_neg c7] at H
       have c7b0 : (a0 == 7) = false := beq_eq_false_iff_ne.mpr c7
       have c7b1 : (a0 != 7) = true := bne_iff_ne.mpr c7
       by_cases c8 : a0 = 8
       ·
        rw [if_pos c8] at H
        have c8b0 : (a0 == 8) = true := beq_iff_eq.mpr c8
        have c8b1 : (a0 != 8) = false := bne_eq_false_iff_eq.mpr c8
        clear c8
        obtain rfl := Option.some.inj H
        go_wp2
        go_ret
        exact ⟨by first | rfl | (simp; done) | (simp [*]; done), by repeat (first | exact Drawn0.refl _ | apply Drawn0.step)⟩
       ·
        rw [if_neg c8] at H
        have c8b0 : (a0 == 8) = false := beq_eq_false_iff_ne.mpr c8
        have c8b1 : (a0 != 8) = true := bne_iff_ne.mpr c8
        by_cases c9 : a0 = 9
        ·
         rw [if_pos c9] at H
         have c9b0 : (a0 == 9) = true := beq_iff_eq.mpr c9
         have c9b1 : (a0 != 9) = false := bne_eq_false_iff_eq.mpr c9
         clear c9
         obtain rfl := Option.some.inj H
         go_wp2
         go_ret
         exact ⟨by first | rfl | (simp; done) | (simp [*]; done), by repeat (first | exact Drawn0.refl _ | apply Drawn0.step)⟩
        ·
         rw [if_neg c9] at H
         have c9b0 : (a0 == 9) = false := beq_eq_false_iff_ne.mpr c9
         have c9b1 : (a0 != 9) = true := bne_iff_ne.mpr c9
         by_cases c10 : a0 = 10
         ·
          rw [if_pos c10] at H
          have c10b0 : (a0 == 10) = true := beq_iff_eq.mpr c10
          have c10b1 : (a0 != 10) = false := bne_eq_false_iff_eq.mpr c10
          clear c10
          obtain rfl := Option.some.inj H
          go_wp2
          go_ret
          exact ⟨by first | rfl | (simp; done) | (simp [*]; done), by repeat (first | exact Drawn0.refl _ | apply Drawn0.step)⟩
         ·
          rw [if_neg c10] at H
          have c10b0 : (a0 == 10) = false := beq_eq_false_iff_ne.mpr c10
          have c10b1 : (a0 != 10) = true := bne_iff_ne.mpr c10
          by_cases c11 : a0 = 11
          ·
           rw [if_pos c11] at H
           have c11b0 : (a0 == 11) = true := beq_iff_eq.mpr c11
           have c11b1 : (a0 != 11) = false := bne_eq_false_iff_eq.mpr c11
           clear c11
           obtain rfl := Option.some.inj H
           go_wp2
           go_ret
           exact ⟨by first | rfl | (simp; done) | (simp [*]; done), by repeat (first | exact Drawn0.refl _ | apply Drawn0.step)⟩
          ·
           rw [if_neg c11] at H
           have c11b0 : (a0 == 11) = false := beq_eq_false_iff_ne.mpr c11
           have c11b1 : (a0 != 11) = true := bne_iff_ne.mpr c11
           by_cases c12 : a0 = 12
           ·
            rw [if_pos c12] at H
            have c12b0 : (a0 == 12) = true := beq_iff_eq.mpr c12
            have c12b1 : (a0 != 12) = false := bne_eq_false_iff_eq.mpr c12
            clear c12
            obtain rfl := Option.some.inj H
            go_wp2
            go_ret
            exact ⟨by first | rfl | (simp; done) | (simp [*]; done), by repeat (first | exact Drawn0.refl _ | apply Drawn0.step)⟩
           ·
            rw [if_neg c12] at H
            have c12b0 : (a0 == 12) = false := beq_eq_false_iff_ne.mpr c12
            have c12b1 : (a0 != 12) = true := bne_iff_ne.mpr c12
            by_cases c13 : a0 = 13
            ·
             rw [if_pos c13] at H
             have c13b0 : (a0 == 13) = true := beq_iff_eq.mpr c13
             have c13b1 : (a0 != 13) = false := bne_eq_false_iff_eq.mpr c13
             clear c13
             obtain rfl := Option.some.inj H
             go_wp2
             go_ret
             exact ⟨by first | rfl | (simp; done) | (simp [*]; done), by repeat (first | exact Drawn0.refl _ | apply Drawn0.step)⟩
            ·
             rw [if_neg c13] at H
             have c13b0 : (a0 == 13) = false := beq_eq_false_iff_ne.mpr c13
             have c13b1 : (a0 != 13) = true := bne_iff_ne.mpr c13
             by_cases c14 : a0 = 14
             ·
              rw [if_pos c14] at H
              have c14b0 : (a0 == 14) = true := beq_iff_eq.mpr c14
              have c14b1 : (a0 != 14) = false := bne_eq_false_iff_eq.mpr c14
              clear c14
              obtain rfl := Option.some.inj H
              go_wp2
              go_ret
              exact ⟨by first | rfl | (simp; done) | (simp [*]; done), by repeat (first | exact Drawn0.refl _ | apply Drawn0.step)⟩
             ·
              rw [if_neg c14] at H
              have c14b0 : (a0 == 14) = false := beq_eq_false_iff_ne.mpr c14
              have c14b1 : (a0 != 14) = true := bne_iff_ne.mpr c14
              by_cases c15 : a0 = 15
              ·
               rw [if_pos c15] at H
               have c15b0 : (a0 == 15) = true := beq_iff_eq.mpr c15
               have c15b1 : (a0 != 15) = false := bne_eq_false_iff_eq.mpr c15
               clear c15
               obtain rfl := Option.some.inj H
               go_wp2
               go_ret
               exact ⟨by first | rfl | (simp; done) | (simp [*]; done), by repeat (first | exact Drawn0.refl _ | apply Drawn0.step)⟩
              ·
               rw [if_neg c15] at H
               have c15b0 : (a0 == 15) = false := beq_eq_false_iff_ne.mpr c15
               have c15b1 : (a0 != 15) = true := bne_iff_ne.mpr c15
               obtain rfl := Option.some.inj H
               go_wp2
               go_ret
               exact ⟨by first | rfl | (simp; done) | (simp [*]; done), by repeat (first | exact Drawn0.refl _ | apply Drawn0.step)⟩

/-! ### ppred_binary: function 43 -/
mutual
def ppred_binary.j0 : Nat → Bool → Int → ByteArray → Int → Int → Option (Int × Int)
 | 0, _, _, _, _, _ => none
 | k + 1, x12, x119000, x119001, x119002, x119003 => if x12 = true then (some (0, 0)) else (ppred_binary.l0 k 4 x119000 x119001 x119002 x119003)
def ppred_binary.l0 : Nat → Int → Int → ByteArray → Int → Int → Option (Int × Int)
 | 0, _, _, _, _, _ => none
 | k + 1, x4, x119000, x119001, x119002, x119003 => if x4 ≤ 15 then (if x4 = 13 then (ppred_binary.j2 k x4 true x119000 x119001 x119002 x119003) else ((term_Sign.f k x4).bind fun t119 => (ppred_binary.j2 k x4 (t119.toList != x119001.toList) x119000 x119001 x119002 x119003))) else (some (0, 0))
def ppred_binary.j2 : Nat → Int → Bool → Int → ByteArray → Int → Int → Option (Int × Int)
 | 0, _, _, _, _, _, _ => none
 | k + 1, x4, x25, x119000, x119001, x119002, x119003 => if x25 = true then (ppred_binary.l0 k (wrap64 (x4 + 1)) x119000 x119001 x119002 x119003) else (if x4 = 15 then (some (x4, 1)) else (if x4 = 14 then (some (x4, 2)) else (if x4 ≥ 7 then (some (x4, 4)) else (if x4 = 6 then (some (x4, 6)) else (some (x4, 5))))))
end
def ppred_binary.f (k : Nat) (a0_0 : Int) (a0_1 : ByteArray) (a0_2 : Int) (a0_3 : Int) : Option (Int × Int) := if a0_0 = 5 then (ppred_binary.j0 k false a0_0 a0_1 a0_2 a0_3) else (ppred_binary.j0 k (a0_0 != 2) a0_0 a0_1 a0_2 a0_3)
set_option maxHeartbeats 8000000 in
set_option maxRecDepth 100000 in
theorem ppred_binary.calls (k : Nat) (a0_0 : Int) (a0_1 : ByteArray) (a0_2 : Int) (a0_3 : Int) (r1 : Int) (r2 : Int) (w : World) (h : ppred_binary.f k a0_0 a0_1 a0_2 a0_3 = some (r1, r2)) :
  Calls Tryd.prog 43 #[.agg #[.int .i64 a0_0, .string a0_1, .int .i64 a0_2, .int .i64 a0_3]] w fun e w' => e = .returned (.tuple #[.int .i64 r1, .int .i64 r2]) ∧ Below w.heap.size w w' := by
 have hu67 := Tryd.underlying67
 have HB := As.mk (Below.refl w.heap.size w)
 have H : (if a0_0 = 5 then (ppred_binary.j0 k false a0_0 a0_1 a0_2 a0_3) else (ppred_binary.j0 k (a0_0 != 2) a0_0 a0_1 a0_2 a0_3)) = some (r1, r2) := h
 clear h
 have HC2 := As.mk H
 clear H
 go_enter Tryd.func43, Tryd.ntmps43
 go_upto_region 1 with (first | ((with_reducible refine gate_dst (N := 1) rfl ?_); refine box_event ?hg (N := 1) ?hd (cs := #[.int .i64 a0_0, .string a0_1, .int .i64 a0_2, .int .i64 a0_3]) (t := 67) ?hr ?_; (case hd => rfl); (case hg => rfl); (case hr => first | (go_simp; done) | (go_simp; rfl)); intro gb118 hg w3 hbox hb; have n0_ := As.mk (bwS (by repeat (first | (with_reducible first | exact HB.out | apply bwA | apply bwN | apply bwD) | exact HB.out)) hb); have n1_ := As.mk (hbox); have n2_ := As.mk ((by rw [hg]; exact (bwZ (by repeat (first | (with_reducible first | exact HB.out | apply bwA | apply bwN | apply bwD) | exact HB.out))) : w.heap.size ≤ gb118)); have n3_ := As.mk ((by rw [hg]; exact (bwZ (by repeat (first | (with_reducible first | exact HB.out | apply bwA | apply bwN | apply bwD) | exact HB.out))) : w.heap.size ≤ gb118)); clear HB; have HB := n0_; have BK118 := n1_; have GW118 := n2_; have GE118 := n3_; clear n0_ n1_ n2_ n3_; clear hb hbox hg))
 repeat (go_quiet (first | ((with_reducible refine gate_dst (N := 1) rfl ?_); refine box_event ?hg (N := 1) ?hd (cs := #[.int .i64 a0_0, .string a0_1, .int .i64 a0_2, .int .i64 a0_3]) (t := 67) ?hr ?_; (case hd => rfl); (case hg => rfl); (case hr => first | (go_simp; done) | (go_simp; rfl)); intro gb118 hg w3 hbox hb; have n0_ := As.mk (bwS (by repeat (first | (with_reducible first | exact HB.out | apply bwA | apply bwN | apply bwD) | exact HB.out)) hb); have n1_ := As.mk (hbox); have n2_ := As.mk ((by rw [hg]; exact (bwZ (by repeat (first | (with_reducible first | exact HB.out | apply bwA | apply bwN | apply bwD) | exact HB.out))) : w.heap.size ≤ gb118)); have n3_ := As.mk ((by rw [hg]; exact (bwZ (by repeat (first | (with_reducible first | exact HB.out | apply bwA | apply bwN | apply bwD) | exact HB.out))) : w.heap.size ≤ gb118)); clear HB; have HB := n0_; have BK118 := n1_; have GW118 := n2_; have GE118 := n3_; clear n0_ n1_ n2_ n3_; clear hb hbox hg)); go_upto_region 1 with (first | ((with_reducible refine gate_dst (N := 1) rfl ?_); refine box_event ?hg (N := 1) ?hd (cs := #[.int .i64 a0_0, .string a0_1, .int .i64 a0_2, .int .i64 a0_3]) (t := 67) ?hr ?_; (case hd => rfl); (case hg => rfl); (case hr => first | (go_simp; done) | (go_simp; rfl)); intro gb118 hg w3 hbox hb; have n0_ := As.mk (bwS (by repeat (first | (with_reducible first | exact HB.out | apply bwA | apply bwN | apply bwD) | exact HB.out)) hb); have n1_ := As.mk (hbox); have n2_ := As.mk ((by rw [hg]; exact (bwZ (by repeat (first | (with_reducible first | exact HB.out | apply bwA | apply bwN | apply bwD) | exact HB.out))) : w.heap.size ≤ gb118)); have n3_ := As.mk ((by rw [hg]; exact (bwZ (by repeat (first | (with_reducible first | exact HB.out | apply bwA | apply bwN | apply bwD) | exact HB.out))) : w.heap.size ≤ gb118)); clear HB; have HB := n0_; have BK118 := n1_; have GW118 := n2_; have GE118 := n3_; clear n0_ n1_ n2_ n3_; clear hb hbox hg)))
 (try simp only [Act.put, List.setIfInBounds_toArray, List.set_cons_zero, List.set_cons_succ])
 go_cut [12] (fun v12 wc => ∃ (kq : Nat) (x12_1 : Bool), v12 = .bool x12_1 ∧ As (ppred_binary.j0 kq x12_1 a0_0 a0_1 a0_2 a0_3 = some (r1, r2)) ∧ As (kq ≤ k) ∧ As (wc.heap[gb118]? = some (.cells #[.int .i64 a0_0, .string a0_1, .int .i64 a0_2, .int .i64 a0_3] 67 (0, 0))) ∧ As (Below w.heap.size w wc))
 case first =>
  have H := HC2.out
  clear HC2
  by_cases c4 : a0_0 = 5
  ·
   rw [if_pos c4] at H
   have c4b0 : (a0_0 == 5) = true := beq_iff_eq.mpr c4
   have c4b1 : (a0_0 != 5) = false := bne_eq_false_iff_eq.mpr c4
   clear c4
   (first | rw [c4b0] | (simp only [i64_w, i32_w]; rw [c4b0]) | skip)
   have H' := As.mk H
   clear H
   have hcz5_0 : w3.cell? ⟨gb118, 0, none⟩ = some (.int .i64 a0_0) := (blk_cell BK118.out 0).trans rfl
   have hcz5_1 : w3.cell? ⟨gb118, 1, none⟩ = some (.string a0_1) := (blk_cell BK118.out 1).trans rfl
   have hcz5_2 : w3.cell? ⟨gb118, 2, none⟩ = some (.int .i64 a0_2) := (blk_cell BK118.out 2).trans rfl
   have hcz5_3 : w3.cell? ⟨gb118, 3, none⟩ = some (.int .i64 a0_3) := (blk_cell BK118.out 3).trans rfl
   have hfz5_0 := blk_frozen BK118.out 0
   have hfz5_1 := blk_frozen BK118.out 1
   have hfz5_2 := blk_frozen BK118.out 2
   have hfz5_3 := blk_frozen BK118.out 3
   go_wp2
   repeat (go_quiet (fail); try go_wp2)
   go_meet
   case rel => exact ⟨_, (false), (by first | rfl | (simp; done) | (simp [*]; done)), H', ⟨by first | omega | exact Nat.le_refl _⟩, ⟨by (with_reducible repeat (first | refine bkN ?_ _ | refine bkD ?_ | refine bkA ?_ _)); exact BK118.out⟩, ⟨by repeat (first | (with_reducible first | exact HB.out | apply bwA | apply bwN | apply bwD | refine bwC ?_ GE118.out) | exact HB.out)⟩⟩
  ·
   rw [if_neg c4] at H
   have c4b0 : (a0_0 == 5) = false := beq_eq_false_iff_ne.mpr c4
   have c4b1 : (a0_0 != 5) = true := bne_iff_ne.mpr c4
   (first | rw [c4b0] | (simp only [i64_w, i32_w]; rw [c4b0]) | skip)
   have H' := As.mk H
   clear H
   have hcz6_0 : w3.cell? ⟨gb118, 0, none⟩ = some (.int .i64 a0_0) := (blk_cell BK118.out 0).trans rfl
   have hcz6_1 : w3.cell? ⟨gb118, 1, none⟩ = some (.string a0_1) := (blk_cell BK118.out 1).trans rfl
   have hcz6_2 : w3.cell? ⟨gb118, 2, none⟩ = some (.int .i64 a0_2) := (blk_cell BK118.out 2).trans rfl
   have hcz6_3 : w3.cell? ⟨gb118, 3, none⟩ = some (.int .i64 a0_3) := (blk_cell BK118.out 3).trans rfl
   have hfz6_0 := blk_frozen BK118.out 0
   have hfz6_1 := blk_frozen BK118.out 1
   have hfz6_2 := blk_frozen BK118.out 2
   have hfz6_3 := blk_frozen BK118.out 3
   go_wp2
   repeat (go_quiet (fail); try go_wp2)
   go_meet
   case rel => exact ⟨_, ((a0_0 != 2)), (by first | rfl | (simp; done) | (simp [*]; done)), H', ⟨by first | omega | exact Nat.le_refl _⟩, ⟨by (with_reducible repeat (first | refine bkN ?_ _ | refine bkD ?_ | refine bkA ?_ _)); exact BK118.out⟩, ⟨by repeat (first | (with_reducible first | exact HB.out | apply bwA | apply bwN | apply bwD | refine bwC ?_ GE118.out) | exact HB.out)⟩⟩
 case rest =>
  clear HC2
  try clear p2
  try clear c4
  try clear c4b0
  try clear c4b1
  try clear hcz5_0
  try clear hcz5_1
  try clear hcz5_2
  try clear hcz5_3
  try clear hcz6_0
  try clear hcz6_1
  try clear hcz6_2
  try clear hcz6_3
  try clear hfz5_0
  try clear hfz5_1
  try clear hfz5_2
  try clear hfz5_3
  try clear hfz6_0
  try clear hfz6_1
  try clear hfz6_2
  try clear hfz6_3
  obtain ⟨kq, x12_1, rfl, HA, HJ1, BK118, HB⟩ := hcut
  cases kq with
  | zero => exact absurd HA.out (by simp [ppred_binary.j0])
  | succ kj1 =>
   have H := HA.out
   clear HA
   simp only [ppred_binary.j0] at H
   by_cases c7 : x12_1 = true
   ·
    subst c7
    have H1 : (some (0, 0)) = some (r1, r2) := by rw [if_pos rfl] at H; exact H
    clear H
    have H := H1
    clear H1
    simp only [Option.some.injEq, Prod.mk.injEq] at H
    obtain ⟨rfl, rfl⟩ := H
    go_wp2
    repeat (go_quiet (fail); try go_wp2)
    go_ret2
    exact ⟨by first | rfl | (simp [errW_none, errW_some] <;> rfl) | (simp [*, errW_none, errW_some] <;> rfl), by repeat (first | (with_reducible first | exact HB.out | apply bwA | apply bwN | apply bwD | refine bwC ?_ GE118.out) | exact HB.out)⟩
   ·
    replace c7 := Bool.eq_false_iff.mpr c7
    subst c7
    have H1 : (ppred_binary.l0 kj1 4 a0_0 a0_1 a0_2 a0_3) = some (r1, r2) := by rw [if_neg (show ¬ (false = true) by decide)] at H; exact H
    clear H
    have H := H1
    clear H1
    have H' := As.mk H
    clear H
    go_wp2
    repeat (go_quiet (fail); try go_wp2)
    go_loopg [4] kj1 (fun kq v4 w' => ∃ (x4_2 : Int), v4 = .int .i64 x4_2 ∧ As (ppred_binary.l0 kq x4_2 a0_0 a0_1 a0_2 a0_3 = some (r1, r2)) ∧ As (kq ≤ kj1) ∧ As (w'.heap[gb118]? = some (.cells #[.int .i64 a0_0, .string a0_1, .int .i64 a0_2, .int .i64 a0_3] 67 (0, 0))) ∧ As (Below w.heap.size w w'))
    case atStart => exact ⟨(4), (by first | rfl | (simp; done) | (simp [*]; done)), H', ⟨Nat.le_refl _⟩, ⟨by (with_reducible repeat (first | refine bkN ?_ _ | refine bkD ?_ | refine bkA ?_ _)); exact BK118.out⟩, ⟨by repeat (first | (with_reducible first | exact HB.out | apply bwA | apply bwN | apply bwD | refine bwC ?_ GE118.out) | exact HB.out)⟩⟩
    case round =>
     clear H'
     try clear p2
     try clear c4
     try clear c4b0
     try clear c4b1
     try clear c7
     try clear hcz5_0
     try clear hcz5_1
     try clear hcz5_2
     try clear hcz5_3
     try clear hcz6_0
     try clear hcz6_1
     try clear hcz6_2
     try clear hcz6_3
     try clear hfz5_0
     try clear hfz5_1
     try clear hfz5_2
     try clear hfz5_3
     try clear hfz6_0
     try clear hfz6_1
     try clear hfz6_2
     try clear hfz6_3
     try clear p2
     obtain ⟨x4_2, rfl, HA, HK2, BK118, HB⟩ := hrel
     cases gk with
     | zero => exact absurd HA.out (by simp [ppred_binary.l0])
     | succ k2 =>
      have H := HA.out
      clear HA
      simp only [ppred_binary.l0] at H
      by_cases c8 : x4_2 ≤ 15
      ·
       rw [if_pos c8] at H
       have c8b0 : decide (x4_2 ≤ 15) = true := decide_eq_true c8
       clear c8
       have HC9 := As.mk H
       clear H
       go_upto_region 6 with (fail)
       repeat (go_quiet (fail); go_upto_region 6 with (fail))
       go_cut [25] (fun v25 wc => ∃ (kq : Nat) (x25_8 : Bool), v25 = .bool x25_8 ∧ As (ppred_binary.j2 kq x4_2 x25_8 a0_0 a0_1 a0_2 a0_3 = some (r1, r2)) ∧ As (kq ≤ k2) ∧ As (wc.heap[gb118]? = some (.cells #[.int .i64 a0_0, .string a0_1, .int .i64 a0_2, .int .i64 a0_3] 67 (0, 0))) ∧ As (Below w.heap.size w wc))
       case first =>
        have H := HC9.out
        clear HC9
        by_cases c10 : x4_2 = 13
        ·
         rw [if_pos c10] at H
         have c10b0 : (x4_2 == 13) = true := beq_iff_eq.mpr c10
         have c10b1 : (x4_2 != 13) = false := bne_eq_false_iff_eq.mpr c10
         clear c10
         (first | rw [c10b0] | (simp only [i64_w, i32_w]; rw [c10b0]) | skip)
         have H' := As.mk H
         clear H
         go_wp2
         repeat (go_quiet (fail); try go_wp2)
         go_meet
         case rel => exact ⟨_, (true), (by first | rfl | (simp; done) | (simp [*]; done)), H', ⟨by have := HJ1.out; have := HK2.out; first | omega | exact Nat.le_refl _⟩, ⟨by (with_reducible repeat (first | refine bkN ?_ _ | refine bkD ?_ | refine bkA ?_ _)); exact BK118.out⟩, ⟨by repeat (first | (with_reducible first | exact HB.out | apply bwA | apply bwN | apply bwD | refine bwC ?_ GE118.out) | exact HB.out)⟩⟩
        ·
         rw [if_neg c10] at H
         have c10b0 : (x4_2 == 13) = false := beq_eq_false_iff_ne.mpr c10
         have c10b1 : (x4_2 != 13) = true := bne_iff_ne.mpr c10
         (first | rw [c10b0] | (simp only [i64_w, i32_w]; rw [c10b0]) | skip)
         replace H := Option.bind_eq_some_iff.mp H
         obtain ⟨t119, A110, H⟩ := H
         replace H : (ppred_binary.j2 k2 x4_2 (t119.toList != a0_1.toList) a0_0 a0_1 a0_2 a0_3) = some (r1, r2) := H
         have A11 := As.mk A110
         clear A110
         have H' := As.mk H
         clear H
         go_wp2_with (first | (go_at_call 67; (with_reducible refine (term_Sign.calls k2 x4_2 t119 _ A11.out).mono ?_); rintro e w' ⟨rfl, ⟨nd, rfl⟩⟩; (try first | exact ⟨rfl, _, World.drewN_drewN _ _ _⟩ | exact ⟨rfl, _, Eq.trans (World.drewN_drewN _ _ _) (congrArg (World.drewN _) (Nat.add_assoc _ _ _))⟩); have hcz12_0 : wr.cell? ⟨gb118, 0, none⟩ = some (.int .i64 a0_0) := (blk_cell BK118.out 0).trans rfl; have hcz12_1 : wr.cell? ⟨gb118, 1, none⟩ = some (.string a0_1) := (blk_cell BK118.out 1).trans rfl; have hcz12_2 : wr.cell? ⟨gb118, 2, none⟩ = some (.int .i64 a0_2) := (blk_cell BK118.out 2).trans rfl; have hcz12_3 : wr.cell? ⟨gb118, 3, none⟩ = some (.int .i64 a0_3) := (blk_cell BK118.out 3).trans rfl; have hfz12_0 := blk_frozen BK118.out 0; have hfz12_1 := blk_frozen BK118.out 1; have hfz12_2 := blk_frozen BK118.out 2; have hfz12_3 := blk_frozen BK118.out 3))
         repeat (go_quiet (first | (go_at_call 67; (with_reducible refine (term_Sign.calls k2 x4_2 t119 _ A11.out).mono ?_); rintro e w' ⟨rfl, ⟨nd, rfl⟩⟩; (try first | exact ⟨rfl, _, World.drewN_drewN _ _ _⟩ | exact ⟨rfl, _, Eq.trans (World.drewN_drewN _ _ _) (congrArg (World.drewN _) (Nat.add_assoc _ _ _))⟩); have hcz12_0 : wr.cell? ⟨gb118, 0, none⟩ = some (.int .i64 a0_0) := (blk_cell BK118.out 0).trans rfl; have hcz12_1 : wr.cell? ⟨gb118, 1, none⟩ = some (.string a0_1) := (blk_cell BK118.out 1).trans rfl; have hcz12_2 : wr.cell? ⟨gb118, 2, none⟩ = some (.int .i64 a0_2) := (blk_cell BK118.out 2).trans rfl; have hcz12_3 : wr.cell? ⟨gb118, 3, none⟩ = some (.int .i64 a0_3) := (blk_cell BK118.out 3).trans rfl; have hfz12_0 := blk_frozen BK118.out 0; have hfz12_1 := blk_frozen BK118.out 1; have hfz12_2 := blk_frozen BK118.out 2; have hfz12_3 := blk_frozen BK118.out 3)); try go_wp2_with (first | (go_at_call 67; (with_reducible refine (term_Sign.calls k2 x4_2 t119 _ A11.out).mono ?_); rintro e w' ⟨rfl, ⟨nd, rfl⟩⟩; (try first | exact ⟨rfl, _, World.drewN_drewN _ _ _⟩ | exact ⟨rfl, _, Eq.trans (World.drewN_drewN _ _ _) (congrArg (World.drewN _) (Nat.add_assoc _ _ _))⟩); have hcz12_0 : wr.cell? ⟨gb118, 0, none⟩ = some (.int .i64 a0_0) := (blk_cell BK118.out 0).trans rfl; have hcz12_1 : wr.cell? ⟨gb118, 1, none⟩ = some (.string a0_1) := (blk_cell BK118.out 1).trans rfl; have hcz12_2 : wr.cell? ⟨gb118, 2, none⟩ = some (.int .i64 a0_2) := (blk_cell BK118.out 2).trans rfl; have hcz12_3 : wr.cell? ⟨gb118, 3, none⟩ = some (.int .i64 a0_3) := (blk_cell BK118.out 3).trans rfl; have hfz12_0 := blk_frozen BK118.out 0; have hfz12_1 := blk_frozen BK118.out 1; have hfz12_2 := blk_frozen BK118.out 2; have hfz12_3 := blk_frozen BK118.out 3)))
         go_meet
         case rel => exact ⟨_, ((t119.toList != a0_1.toList)), (by first | rfl | (simp; done) | (simp [*]; done)), H', ⟨by have := HJ1.out; have := HK2.out; first | omega | exact Nat.le_refl _⟩, ⟨by (with_reducible repeat (first | refine bkN ?_ _ | refine bkD ?_ | refine bkA ?_ _)); exact BK118.out⟩, ⟨by repeat (first | (with_reducible first | exact HB.out | apply bwA | apply bwN | apply bwD | refine bwC ?_ GE118.out) | exact HB.out)⟩⟩
       case rest =>
        clear HC9
        try clear c1
        try clear p2
        try clear c4
        try clear c4b0
        try clear c4b1
        try clear c7
        try clear c8
        try clear c8b0
        try clear c10
        try clear c10b0
        try clear c10b1
        try clear hcz12_0
        try clear hcz12_1
        try clear hcz12_2
        try clear hcz12_3
        try clear hcz5_0
        try clear hcz5_1
        try clear hcz5_2
        try clear hcz5_3
        try clear hcz6_0
        try clear hcz6_1
        try clear hcz6_2
        try clear hcz6_3
        try clear hfz12_0
        try clear hfz12_1
        try clear hfz12_2
        try clear hfz12_3
        try clear hfz5_0
        try clear hfz5_1
        try clear hfz5_2
        try clear hfz5_3
        try clear hfz6_0
        try clear hfz6_1
        try clear hfz6_2
        try clear hfz6_3
        try clear p2
        obtain ⟨kq, x25_8, rfl, HA, HJ8, BK118, HB⟩ := hcut
        cases kq with
        | zero => exact absurd HA.out (by simp [ppred_binary.j2])
        | succ kj8 =>
         have H := HA.out
         clear HA
         simp only [ppred_binary.j2] at H
         by_cases c13 : x25_8 = true
         ·
          subst c13
          have H1 : (ppred_binary.l0 kj8 (wrap64 (x4_2 + 1)) a0_0 a0_1 a0_2 a0_3) = some (r1, r2) := by rw [if_pos rfl] at H; exact H
          clear H
          have H := H1
          clear H1
          have H' := As.mk H
          clear H
          go_wp2
          repeat (go_quiet (fail); try go_wp2)
          go_roundg kj8
          case measure => have := HJ1.out; have := HK2.out; have := HJ8.out; omega
          case rel => exact ⟨(wrap64 (x4_2 + 1)), (by first | rfl | (simp; done) | (simp [*]; done)), H', ⟨by have := HJ1.out; have := HK2.out; have := HJ8.out; omega⟩, ⟨by (with_reducible repeat (first | refine bkN ?_ _ | refine bkD ?_ | refine bkA ?_ _)); exact BK118.out⟩, ⟨by repeat (first | (with_reducible first | exact HB.out | apply bwA | apply bwN | apply bwD | refine bwC ?_ GE118.out) | exact HB.out)⟩⟩
         ·
          replace c13 := Bool.eq_false_iff.mpr c13
          subst c13
          have H1 : (if x4_2 = 15 then (some (x4_2, 1)) else (if x4_2 = 14 then (some (x4_2, 2)) else (if x4_2 ≥ 7 then (some (x4_2, 4)) else (if x4_2 = 6 then (some (x4_2, 6)) else (some (x4_2, 5)))))) = some (r1, r2) := by rw [if_neg (show ¬ (false = true) by decide)] at H; exact H
          clear H
          have H := H1
          clear H1
          by_cases c14 : x4_2 = 15
          ·
           rw [if_pos c14] at H
           have c14b0 : (x4_2 == 15) = true := beq_iff_eq.mpr c14
           have c14b1 : (x4_2 != 15) = false := bne_eq_false_iff_eq.mpr c14
           clear c14
           simp only [Option.some.injEq, Prod.mk.injEq] at H
           obtain ⟨rfl, rfl⟩ := H
           go_wp2
           repeat (go_quiet (fail); try go_wp2)
           go_ret2
           exact ⟨by first | rfl | (simp [errW_none, errW_some] <;> rfl) | (simp [*, errW_none, errW_some] <;> rfl), by repeat (first | (with_reducible first | exact HB.out | apply bwA | apply bwN | apply bwD | refine bwC ?_ GE118.out) | exact HB.out)⟩
          ·
           rw [if_neg c14] at H
           have c14b0 : (x4_2 == 15) = false := beq_eq_false_iff_ne.mpr c14
           have c14b1 : (x4_2 != 15) = true := bne_iff_ne.mpr c14
           by_cases c15 : x4_2 = 14
           ·
            rw [if_pos c15] at H
            have c15b0 : (x4_2 == 14) = true := beq_iff_eq.mpr c15
            have c15b1 : (x4_2 != 14) = false := bne_eq_false_iff_eq.mpr c15
            clear c15
            simp only [Option.some.injEq, Prod.mk.injEq] at H
            obtain ⟨rfl, rfl⟩ := H
            go_wp2
            repeat (go_quiet (fail); try go_wp2)
            go_ret2
            exact ⟨by first | rfl | (simp [errW_none, errW_some] <;> rfl) | (simp [*, errW_none, errW_some] <;> rfl), by repeat (first | (with_reducible first | exact HB.out | apply bwA | apply bwN | apply bwD | refine bwC ?_ GE118.out) | exact HB.out)⟩
           ·
            rw [if_neg c15] at H
            have c15b0 : (x4_2 == 14) = false := beq_eq_false_iff_ne.mpr c15
            have c15b1 : (x4_2 != 14) = true := bne_iff_ne.mpr c15
            by_cases c16 : x4_2 ≥ 7
            ·
             rw [if_pos c16] at H
             have c16b0 : decide (7 ≤ x4_2) = true := decide_eq_true c16
             clear c16
             simp only [Option.some.injEq, Prod.mk.injEq] at H
             obtain ⟨rfl, rfl⟩ := H
             go_wp2
             repeat (go_quiet (fail); try go_wp2)
             go_ret2
             exact ⟨by first | rfl | (simp [errW_none, errW_some] <;> rfl) | (simp [*, errW_none, errW_some] <;> rfl), by repeat (first | (with_reducible first | exact HB.out | apply bwA | apply bwN | apply bwD | refine bwC ?_ GE118.out) | exact HB.out)⟩
            ·
             rw [if_neg c16] at H
             have c16b0 : decide (7 ≤ x4_2) = false := decide_eq_false c16
             clear c16
             by_cases c17 : x4_2 = 6
             ·
              rw [if_pos c17] at H
              have c17b0 : (x4_2 == 6) = true := beq_iff_eq.mpr c17
              have c17b1 : (x4_2 != 6) = false := bne_eq_false_iff_eq.mpr c17
              clear c17
              simp only [Option.some.injEq, Prod.mk.injEq] at H
              obtain ⟨rfl, rfl⟩ := H
              go_wp2
              repeat (go_quiet (fail); try go_wp2)
              go_ret2
              exact ⟨by first | rfl | (simp [errW_none, errW_some] <;> rfl) | (simp [*, errW_none, errW_some] <;> rfl), by repeat (first | (with_reducible first | exact HB.out | apply bwA | apply bwN | apply bwD | refine bwC ?_ GE118.out) | exact HB.out)⟩
             ·
              rw [if_neg c17] at H
              have c17b0 : (x4_2 == 6) = false := beq_eq_false_iff_ne.mpr c17
              have c17b1 : (x4_2 != 6) = true := bne_iff_ne.mpr c17
              simp only [Option.some.injEq, Prod.mk.injEq] at H
              obtain ⟨rfl, rfl⟩ := H
              go_wp2
              repeat (go_quiet (fail); try go_wp2)
              go_ret2
              exact ⟨by first | rfl | (simp [errW_none, errW_some] <;> rfl) | (simp [*, errW_none, errW_some] <;> rfl), by repeat (first | (with_reducible first | exact HB.out | apply bwA | apply bwN | apply bwD | refine bwC ?_ GE118.out) | exact HB.out)⟩
      ·
       rw [if_neg c8] at H
       have c8b0 : decide (x4_2 ≤ 15) = false := decide_eq_false c8
       clear c8
       simp only [Option.some.injEq, Prod.mk.injEq] at H
       obtain ⟨rfl, rfl⟩ := H
       go_wp2
       repeat (go_quiet (fail); try go_wp2)
       go_ret2
       exact ⟨by first | rfl | (simp [errW_none, errW_some] <;> rfl) | (simp [*, errW_none, errW_some] <;> rfl), by repeat (first | (with_reducible first | exact HB.out | apply bwA | apply bwN | apply bwD | refine bwC ?_ GE118.out) | exact HB.out)⟩

/-! ### value_Num: function 63 -/
def value_Num.f (a0 : Int) : Option (Int × Int × ByteArray × Bool) := some (1, a0, (⟨#[]⟩ : ByteArray), false)
set_option maxHeartbeats 8000000 in
set_option maxRecDepth 100000 in
theorem value_Num.calls (a0 : Int) (r1 : Int) (r2 : Int) (r3 : ByteArray) (r4 : Bool) (w : World) (h : value_Num.f a0 = some (r1, r2, r3, r4)) :
  Calls Tryd.prog 63 #[.int .i64 a0] w fun e w' => e = .returned (.agg #[.int .i64 r1, .int .i64 r2, .string r3, .bool r4]) ∧ Below w.heap.size w w' := by
 have hu51 := Tryd.underlying51
 have HB := As.mk (Below.refl w.heap.size w)
 have H : (some (1, a0, (⟨#[]⟩ : ByteArray), false)) = some (r1, r2, r3, r4) := h
 clear h
 simp only [Option.some.injEq, Prod.mk.injEq] at H
 obtain ⟨rfl, rfl, rfl, rfl⟩ := H
 go_enter Tryd.func63, Tryd.ntmps63
 go_wp2_with (first | ((with_reducible refine gate_dst (N := 2) rfl ?_); refine box_event ?hg (N := 2) ?hd (cs := #[.int .i64 0, .int .i64 0, .string (⟨#[]⟩ : ByteArray), .bool false]) (t := 51) ?hr ?_; (case hd => rfl); (case hg => rfl); (case hr => first | (go_simp; done) | (go_simp; rfl)); intro gb120 hg w2 hbox hb; have n0_ := As.mk (bwS (by repeat (first | (with_reducible first | exact HB.out | apply bwA | apply bwN | apply bwD) | exact HB.out)) hb); have n1_ := As.mk (hbox); have n2_ := As.mk ((by rw [hg]; exact (bwZ (by repeat (first | (with_reducible first | exact HB.out | apply bwA | apply bwN | apply bwD) | exact HB.out))) : w.heap.size ≤ gb120)); have n3_ := As.mk ((by rw [hg]; exact (bwZ (by repeat (first | (with_reducible first | exact HB.out | apply bwA | apply bwN | apply bwD) | exact HB.out))) : w.heap.size ≤ gb120)); clear HB; have HB := n0_; have BK120 := n1_; have GW120 := n2_; have GE120 := n3_; clear n0_ n1_ n2_ n3_; clear hb hbox hg; have hcz3_0 : w2.cell? ⟨gb120, 0, none⟩ = some (.int .i64 0) := (blk_cell BK120.out 0).trans rfl; have hcz3_1 : w2.cell? ⟨gb120, 1, none⟩ = some (.int .i64 0) := (blk_cell BK120.out 1).trans rfl; have hcz3_2 : w2.cell? ⟨gb120, 2, none⟩ = some (.string (⟨#[]⟩ : ByteArray)) := (blk_cell BK120.out 2).trans rfl; have hcz3_3 : w2.cell? ⟨gb120, 3, none⟩ = some (.bool false) := (blk_cell BK120.out 3).trans rfl; have hfz3_0 := blk_frozen BK120.out 0; have hfz3_1 := blk_frozen BK120.out 1; have hfz3_2 := blk_frozen BK120.out 2; have hfz3_3 := blk_frozen BK120.out 3))
 refine bodyPost_ret (results_cell_row rfl _ _ gb120 51 #[.int .i64 1, .int .i64 a0, .string (⟨#[]⟩ : ByteArray), .bool false] (0, 0) _ rfl (by (with_reducible repeat (first | refine bkN ?_ _ | refine bkD ?_ | refine bkA ?_ _)); refine blk_put (cs := #[.int .i64 1, .int .i64 a0, .string (⟨#[]⟩ : ByteArray), .bool false]) ?_ 3 _ rfl; (with_reducible repeat (first | refine bkN ?_ _ | refine bkD ?_ | refine bkA ?_ _)); refine blk_put (cs := #[.int .i64 1, .int .i64 a0, .string (⟨#[]⟩ : ByteArray), .bool false]) ?_ 2 _ rfl; (with_reducible repeat (first | refine bkN ?_ _ | refine bkD ?_ | refine bkA ?_ _)); refine blk_put (cs := #[.int .i64 1, .int .i64 0, .string (⟨#[]⟩ : ByteArray), .bool false]) ?_ 1 _ rfl; (with_reducible repeat (first | refine bkN ?_ _ | refine bkD ?_ | refine bkA ?_ _)); refine blk_put (cs := #[.int .i64 0, .int .i64 0, .string (⟨#[]⟩ : ByteArray), .bool false]) ?_ 0 _ rfl; (with_reducible repeat (first | refine bkN ?_ _ | refine bkD ?_ | refine bkA ?_ _)); exact BK120.out) Tryd.underlying51 rfl (by kernel_rfl)) rfl ?_
 exact ⟨by first | rfl | (simp [errW_none, errW_some] <;> rfl) | (simp [*, errW_none, errW_some] <;> rfl), by repeat (first | (with_reducible first | exact HB.out | apply bwA | apply bwN | apply bwD | refine bwC ?_ GE120.out) | exact HB.out)⟩

/-! ### value_Text: function 64 -/
def value_Text.f (a0 : ByteArray) : Option (Int × Int × ByteArray × Bool) := some (2, 0, a0, false)
set_option maxHeartbeats 8000000 in
set_option maxRecDepth 100000 in
theorem value_Text.calls (a0 : ByteArray) (r1 : Int) (r2 : Int) (r3 : ByteArray) (r4 : Bool) (w : World) (h : value_Text.f a0 = some (r1, r2, r3, r4)) :
  Calls Tryd.prog 64 #[.string a0] w fun e w' => e = .returned (.agg #[.int .i64 r1, .int .i64 r2, .string r3, .bool r4]) ∧ Below w.heap.size w w' := by
 have hu51 := Tryd.underlying51
 have HB := As.mk (Below.refl w.heap.size w)
 have H : (some (2, 0, a0, false)) = some (r1, r2, r3, r4) := h
 clear h
 simp only [Option.some.injEq, Prod.mk.injEq] at H
 obtain ⟨rfl, rfl, rfl, rfl⟩ := H
 go_enter Tryd.func64, Tryd.ntmps64
 go_wp2_with (first | ((with_reducible refine gate_dst (N := 2) rfl ?_); refine box_event ?hg (N := 2) ?hd (cs := #[.int .i64 0, .int .i64 0, .string (⟨#[]⟩ : ByteArray), .bool false]) (t := 51) ?hr ?_; (case hd => rfl); (case hg => rfl); (case hr => first | (go_simp; done) | (go_simp; rfl)); intro gb121 hg w2 hbox hb; have n0_ := As.mk (bwS (by repeat (first | (with_reducible first | exact HB.out | apply bwA | apply bwN | apply bwD) | exact HB.out)) hb); have n1_ := As.mk (hbox); have n2_ := As.mk ((by rw [hg]; exact (bwZ (by repeat (first | (with_reducible first | exact HB.out | apply bwA | apply bwN | apply bwD) | exact HB.out))) : w.heap.size ≤ gb121)); have n3_ := As.mk ((by rw [hg]; exact (bwZ (by repeat (first | (with_reducible first | exact HB.out | apply bwA | apply bwN | apply bwD) | exact HB.out))) : w.heap.size ≤ gb121)); clear HB; have HB := n0_; have BK121 := n1_; have GW121 := n2_; have GE121 := n3_; clear n0_ n1_ n2_ n3_; clear hb hbox hg; have hcz3_0 : w2.cell? ⟨gb121, 0, none⟩ = some (.int .i64 0) := (blk_cell BK121.out 0).trans rfl; have hcz3_1 : w2.cell? ⟨gb121, 1, none⟩ = some (.int .i64 0) := (blk_cell BK121.out 1).trans rfl; have hcz3_2 : w2.cell? ⟨gb121, 2, none⟩ = some (.string (⟨#[]⟩ : ByteArray)) := (blk_cell BK121.out 2).trans rfl; have hcz3_3 : w2.cell? ⟨gb121, 3, none⟩ = some (.bool false) := (blk_cell BK121.out 3).trans rfl; have hfz3_0 := blk_frozen BK121.out 0; have hfz3_1 := blk_frozen BK121.out 1; have hfz3_2 := blk_frozen BK121.out 2; have hfz3_3 := blk_frozen BK121.out 3))
 refine bodyPost_ret (results_cell_row rfl _ _ gb121 51 #[.int .i64 2, .int .i64 0, .string a0, .bool false] (0, 0) _ rfl (by (with_reducible repeat (first | refine bkN ?_ _ | refine bkD ?_ | refine bkA ?_ _)); refine blk_put (cs := #[.int .i64 2, .int .i64 0, .string a0, .bool false]) ?_ 3 _ rfl; (with_reducible repeat (first | refine bkN ?_ _ | refine bkD ?_ | refine bkA ?_ _)); refine blk_put (cs := #[.int .i64 2, .int .i64 0, .string (⟨#[]⟩ : ByteArray), .bool false]) ?_ 2 _ rfl; (with_reducible repeat (first | refine bkN ?_ _ | refine bkD ?_ | refine bkA ?_ _)); refine blk_put (cs := #[.int .i64 2, .int .i64 0, .string (⟨#[]⟩ : ByteArray), .bool false]) ?_ 1 _ rfl; (with_reducible repeat (first | refine bkN ?_ _ | refine bkD ?_ | refine bkA ?_ _)); refine blk_put (cs := #[.int .i64 0, .int .i64 0, .string (⟨#[]⟩ : ByteArray), .bool false]) ?_ 0 _ rfl; (with_reducible repeat (first | refine bkN ?_ _ | refine bkD ?_ | refine bkA ?_ _)); exact BK121.out) Tryd.underlying51 rfl (by kernel_rfl)) rfl ?_
 exact ⟨by first | rfl | (simp [errW_none, errW_some] <;> rfl) | (simp [*, errW_none, errW_some] <;> rfl), by repeat (first | (with_reducible first | exact HB.out | apply bwA | apply bwN | apply bwD | refine bwC ?_ GE121.out) | exact HB.out)⟩

/-! ### value_Truth: function 65 -/
def value_Truth.f (a0 : Bool) : Option (Int × Int × ByteArray × Bool) := some (3, 0, (⟨#[]⟩ : ByteArray), a0)
set_option maxHeartbeats 8000000 in
set_option maxRecDepth 100000 in
theorem value_Truth.calls (a0 : Bool) (r1 : Int) (r2 : Int) (r3 : ByteArray) (r4 : Bool) (w : World) (h : value_Truth.f a0 = some (r1, r2, r3, r4)) :
  Calls Tryd.prog 65 #[.bool a0] w fun e w' => e = .returned (.agg #[.int .i64 r1, .int .i64 r2, .string r3, .bool r4]) ∧ Below w.heap.size w w' := by
 have hu51 := Tryd.underlying51
 have HB := As.mk (Below.refl w.heap.size w)
 have H : (some (3, 0, (⟨#[]⟩ : ByteArray), a0)) = some (r1, r2, r3, r4) := h
 clear h
 simp only [Option.some.injEq, Prod.mk.injEq] at H
 obtain ⟨rfl, rfl, rfl, rfl⟩ := H
 go_enter Tryd.func65, Tryd.ntmps65
 go_wp2_with (first | ((with_reducible refine gate_dst (N := 2) rfl ?_); refine box_event ?hg (N := 2) ?hd (cs := #[.int .i64 0, .int .i64 0, .string (⟨#[]⟩ : ByteArray), .bool false]) (t := 51) ?hr ?_; (case hd => rfl); (case hg => rfl); (case hr => first | (go_simp; done) | (go_simp; rfl)); intro gb122 hg w2 hbox hb; have n0_ := As.mk (bwS (by repeat (first | (with_reducible first | exact HB.out | apply bwA | apply bwN | apply bwD) | exact HB.out)) hb); have n1_ := As.mk (hbox); have n2_ := As.mk ((by rw [hg]; exact (bwZ (by repeat (first | (with_reducible first | exact HB.out | apply bwA | apply bwN | apply bwD) | exact HB.out))) : w.heap.size ≤ gb122)); have n3_ := As.mk ((by rw [hg]; exact (bwZ (by repeat (first | (with_reducible first | exact HB.out | apply bwA | apply bwN | apply bwD) | exact HB.out))) : w.heap.size ≤ gb122)); clear HB; have HB := n0_; have BK122 := n1_; have GW122 := n2_; have GE122 := n3_; clear n0_ n1_ n2_ n3_; clear hb hbox hg; have hcz3_0 : w2.cell? ⟨gb122, 0, none⟩ = some (.int .i64 0) := (blk_cell BK122.out 0).trans rfl; have hcz3_1 : w2.cell? ⟨gb122, 1, none⟩ = some (.int .i64 0) := (blk_cell BK122.out 1).trans rfl; have hcz3_2 : w2.cell? ⟨gb122, 2, none⟩ = some (.string (⟨#[]⟩ : ByteArray)) := (blk_cell BK122.out 2).trans rfl; have hcz3_3 : w2.cell? ⟨gb122, 3, none⟩ = some (.bool false) := (blk_cell BK122.out 3).trans rfl; have hfz3_0 := blk_frozen BK122.out 0; have hfz3_1 := blk_frozen BK122.out 1; have hfz3_2 := blk_frozen BK122.out 2; have hfz3_3 := blk_frozen BK122.out 3))
 refine bodyPost_ret (results_cell_row rfl _ _ gb122 51 #[.int .i64 3, .int .i64 0, .string (⟨#[]⟩ : ByteArray), .bool a0] (0, 0) _ rfl (by (with_reducible repeat (first | refine bkN ?_ _ | refine bkD ?_ | refine bkA ?_ _)); refine blk_put (cs := #[.int .i64 3, .int .i64 0, .string (⟨#[]⟩ : ByteArray), .bool false]) ?_ 3 _ rfl; (with_reducible repeat (first | refine bkN ?_ _ | refine bkD ?_ | refine bkA ?_ _)); refine blk_put (cs := #[.int .i64 3, .int .i64 0, .string (⟨#[]⟩ : ByteArray), .bool false]) ?_ 2 _ rfl; (with_reducible repeat (first | refine bkN ?_ _ | refine bkD ?_ | refine bkA ?_ _)); refine blk_put (cs := #[.int .i64 3, .int .i64 0, .string (⟨#[]⟩ : ByteArray), .bool false]) ?_ 1 _ rfl; (with_reducible repeat (first | refine bkN ?_ _ | refine bkD ?_ | refine bkA ?_ _)); refine blk_put (cs := #[.int .i64 0, .int .i64 0, .string (⟨#[]⟩ : ByteArray), .bool false]) ?_ 0 _ rfl; (with_reducible repeat (first | refine bkN ?_ _ | refine bkD ?_ | refine bkA ?_ _)); exact BK122.out) Tryd.underlying51 rfl (by kernel_rfl)) rfl ?_
 exact ⟨by first | rfl | (simp [errW_none, errW_some] <;> rfl) | (simp [*, errW_none, errW_some] <;> rfl), by repeat (first | (with_reducible first | exact HB.out | apply bwA | apply bwN | apply bwD | refine bwC ?_ GE122.out) | exact HB.out)⟩

/-! ### text_Reader_At: function 55 -/
def text_Reader_At.f (s0_0 : ByteArray) (s0_1 : Int) : Option (Int × ByteArray × Int) := some (s0_1, s0_0, s0_1)
set_option maxHeartbeats 8000000 in
set_option maxRecDepth 100000 in
theorem text_Reader_At.calls (g : Nat) (s0_0 : ByteArray) (s0_1 : Int) (r1 : Int) (r2 : ByteArray) (r3 : Int) (w0 w : World) (hI : IsS105 w0 w g s0_0 s0_1) (hB : Below w0.heap.size w0 w) (h : text_Reader_At.f s0_0 s0_1 = some (r1, r2, r3)) :
  Calls Tryd.prog 55 #[.pointer (some ⟨g, 0, none⟩)] w fun e w' => e = .returned (.int .i64 r1) ∧ IsS105 w0 w' g r2 r3 ∧ Below w0.heap.size w0 w' ∧ KeepBut w w' g none := by
 have HI0 := As.mk hI
 have HK := As.mk (KeepBut.refl w g none)
 have HL := As.mk hB.size
 clear hI
 have HW0 := As.mk hB.size
 have HB := As.mk hB
 clear hB
 have H : (some (s0_1, s0_0, s0_1)) = some (r1, r2, r3) := h
 clear h
 simp only [Option.some.injEq, Prod.mk.injEq] at H
 obtain ⟨rfl, rfl, rfl⟩ := H
 obtain ⟨HGz2, hgz2⟩ := HI0.out
 have hcz2_0 := cellS105_0 HGz2
 have hcz2_1 := cellS105_1 HGz2
 have hfz2_0 := blk_frozen HGz2 0
 have hfz2_1 := blk_frozen HGz2 1
 clear HGz2 hgz2
 go_enter Tryd.func55, Tryd.ntmps55
 go_wp2
 go_ret
 exact ⟨by first | rfl | (simp [errW_none, errW_some] <;> rfl) | (simp [*, errW_none, errW_some] <;> rfl), by repeat (first | (with_reducible first | exact HI0.out | apply IsS105.alloc | apply IsS105.drewN | apply IsS105.drew | apply IsS105.set_0 | apply IsS105.set_1) | exact HI0.out), by repeat (first | (with_reducible first | exact HB.out | apply bwA | apply bwN | apply bwD | refine bwC ?_ (IsS105.ge HI0.out)) | exact HB.out), by repeat (first | (with_reducible first | exact HK.out | apply KeepBut.set_ | apply kpN | apply kpD | apply kpA) | exact HK.out)⟩

end Go.Proofs.YtpijgeijflbmhaaDoor.P

/- What ppred's binary and both come to, in plain words; a predicate's parts are few. -/
namespace Go.Proofs.YtpijgeijflbmhaaDoor.P
open Go.RowKit Go.Proofs.YtpijgeijflbmhaaDoorW.PrintWords Go.Proofs.YtpijgeijflbmhaaDoorW.PrintLast Go.Proofs.YtpijgeijflbmhaaDoorW.PrintMore
set_option linter.unusedVariables false

theorem bin_round (k : Nat) (op : Int) (s x : ByteArray) (y0 y2 y3 : Int) (h4 : 4 ≤ op) (h : op ≤ 15) (h13 : op ≠ 13) (hs : term_Sign.f (k + 1) op = some s) :
    ppred_binary.l0 (k + 2) op y0 x y2 y3 = if x = s then some (op, if op = 15 then 1 else if op = 14 then 2 else if 7 ≤ op then 4 else if op = 6 then 6 else 5) else ppred_binary.l0 k (op + 1) y0 x y2 y3 := by
  have hw : wrap64 (op + 1) = op + 1 := by unfold wrap64; omega
  simp only [ppred_binary.l0]
  rw [if_pos h, if_neg h13, hs]
  simp only [Option.bind_some, ppred_binary.j2]
  by_cases e : x = s
  · subst e
    rw [if_neg (by simp), if_pos rfl]
    (repeat' split) <;> first | rfl | omega
  · have hne : (s.toList != x.toList) = true := by
      rw [bne_iff_ne]
      exact fun h => e (bytes_eq h.symm)
    rw [if_pos hne, if_neg e, hw]

theorem bin_skip (k : Nat) (x : ByteArray) (y0 y2 y3 : Int) : ppred_binary.l0 (k + 2) 13 y0 x y2 y3 = ppred_binary.l0 k 14 y0 x y2 y3 := by
  simp only [ppred_binary.l0, ppred_binary.j2]
  rw [if_pos (by decide), if_pos trivial, if_pos trivial, show wrap64 ((13 : Int) + 1) = 14 from by unfold wrap64; omega]

theorem bin_f (t : S67) : ppred_binary.f 30 t.f0 t.f1 t.f2 t.f3 = some (binF t) := by
  have main : ppred_binary.l0 29 4 t.f0 t.f1 t.f2 t.f3 = some (if t.f1 = ⟨#[43]⟩ then (4, 5) else if t.f1 = ⟨#[45]⟩ then (5, 5) else if t.f1 = ⟨#[42]⟩ then (6, 6)
     else if t.f1 = ⟨#[61]⟩ then (7, 4) else if t.f1 = ⟨#[33, 61]⟩ then (8, 4) else if t.f1 = ⟨#[60]⟩ then (9, 4)
     else if t.f1 = ⟨#[60, 61]⟩ then (10, 4) else if t.f1 = ⟨#[62]⟩ then (11, 4) else if t.f1 = ⟨#[62, 61]⟩ then (12, 4)
     else if t.f1 = ⟨#[97, 110, 100]⟩ then (14, 2) else if t.f1 = ⟨#[111, 114]⟩ then (15, 1) else (0, 0)) := by
    rw [bin_round 27 4 ⟨#[43]⟩ _ _ _ _ (by decide) (by decide) (by decide) rfl]
    rw [show ((4 : Int) + 1) = 5 from rfl]
    rw [bin_round 25 5 ⟨#[45]⟩ _ _ _ _ (by decide) (by decide) (by decide) rfl]
    rw [show ((5 : Int) + 1) = 6 from rfl]
    rw [bin_round 23 6 ⟨#[42]⟩ _ _ _ _ (by decide) (by decide) (by decide) rfl]
    rw [show ((6 : Int) + 1) = 7 from rfl]
    rw [bin_round 21 7 ⟨#[61]⟩ _ _ _ _ (by decide) (by decide) (by decide) rfl]
    rw [show ((7 : Int) + 1) = 8 from rfl]
    rw [bin_round 19 8 ⟨#[33, 61]⟩ _ _ _ _ (by decide) (by decide) (by decide) rfl]
    rw [show ((8 : Int) + 1) = 9 from rfl]
    rw [bin_round 17 9 ⟨#[60]⟩ _ _ _ _ (by decide) (by decide) (by decide) rfl]
    rw [show ((9 : Int) + 1) = 10 from rfl]
    rw [bin_round 15 10 ⟨#[60, 61]⟩ _ _ _ _ (by decide) (by decide) (by decide) rfl]
    rw [show ((10 : Int) + 1) = 11 from rfl]
    rw [bin_round 13 11 ⟨#[62]⟩ _ _ _ _ (by decide) (by decide) (by decide) rfl]
    rw [show ((11 : Int) + 1) = 12 from rfl]
    rw [bin_round 11 12 ⟨#[62, 61]⟩ _ _ _ _ (by decide) (by decide) (by decide) rfl]
    rw [show ((12 : Int) + 1) = 13 from rfl]
    rw [bin_skip 9]
    rw [bin_round 7 14 ⟨#[97, 110, 100]⟩ _ _ _ _ (by decide) (by decide) (by decide) rfl]
    rw [show ((14 : Int) + 1) = 15 from rfl]
    rw [bin_round 5 15 ⟨#[111, 114]⟩ _ _ _ _ (by decide) (by decide) (by decide) rfl]
    rw [show ((15 : Int) + 1) = 16 from rfl, show ppred_binary.l0 5 16 t.f0 t.f1 t.f2 t.f3 = some (0, 0) from rfl]
    simp only [Int.reduceEq, Int.reduceLE, if_true, if_false, apply_ite some]
  unfold ppred_binary.f binF
  by_cases h5 : t.f0 = 5
  · rw [if_pos h5, if_pos (Or.inl h5)]
    exact main
  · rw [if_neg h5]
    by_cases h2 : t.f0 = 2
    · rw [if_pos (Or.inr h2), h2]
      rw [h2] at main
      exact main
    · rw [if_neg (by simp [h5, h2])]
      have : (t.f0 != 2) = true := by simp [h2]
      rw [this]
      rfl

theorem bin_calls (t : S67) (w : World) :
    Calls Tryd.prog 43 #[tokV t] w fun e w' => e = .returned (.tuple #[.int .i64 (binF t).1, .int .i64 (binF t).2]) ∧ Below w.heap.size w w' :=
  ppred_binary.calls 30 t.f0 t.f1 t.f2 t.f3 _ _ w (bin_f t)

theorem ite_p {α : Type} (P : α → Prop) {c : Prop} [Decidable c] {a b : α} (ha : P a) (hb : P b) : P (if c then a else b) := by
  split <;> assumption

theorem bin_range (t : S67) : 0 ≤ (binF t).1 ∧ (binF t).1 ≤ 15 ∧ 0 ≤ (binF t).2 ∧ (binF t).2 ≤ 6 ∧ ((binF t).2 = 4 → (binF t).1 ≠ 0) := by
  unfold binF
  exact ite_p (fun q : Int × Int => 0 ≤ q.1 ∧ q.1 ≤ 15 ∧ 0 ≤ q.2 ∧ q.2 ≤ 6 ∧ (q.2 = 4 → q.1 ≠ 0))
    (by repeat' (first | (refine ite_p (fun q : Int × Int => 0 ≤ q.1 ∧ q.1 ≤ 15 ∧ 0 ≤ q.2 ∧ q.2 ≤ 6 ∧ (q.2 = 4 → q.1 ≠ 0)) ?_ ?_) | (simp; done))) (by simp)

theorem both_f (a b : List S53) (op : Int) (h : a.length + b.length < 1000000000) : ppred_both.f a b op = some (a ++ b ++ [opNode op]) := by
  unfold ppred_both.f
  simp only [Option.bind_some, List.nil_append]
  rw [if_pos (by simp; omega), if_pos (by omega), if_pos (by simp; omega)]
  rfl

/-- A parser at block g over a source at block gs. -/
structure Pst (w0 W : World) (g gs : Nat) (l : List S67) (e : Int) : Prop where
  p : W.heap[g]? = some (.cells #[.pointer (some ⟨gs, 0, none⟩), .int .i64 e] 63 (0, 0))
  ge : w0.heap.size ≤ g
  s : Src w0 W gs l

theorem Pst.ne {w0 W : World} {g gs : Nat} {l : List S67} {e : Int} (h : Pst w0 W g gs l e) : g ≠ gs := by
  rintro rfl
  obtain ⟨cs, hc⟩ := h.s.ty
  have := h.p
  rw [hc] at this
  injection this with this
  injection this with _ ht _
  exact absurd ht (by decide)
theorem Pst.lt {w0 W : World} {g gs : Nat} {l : List S67} {e : Int} (h : Pst w0 W g gs l e) : g < W.heap.size := blk_lt h.p
theorem Pst.below {w0 W W1 : World} {g gs : Nat} {l : List S67} {e : Int} (h : Pst w0 W g gs l e) (hb : Below W.heap.size W W1) : Pst w0 W1 g gs l e :=
  ⟨(hb.block _ h.lt).trans h.p, h.ge, h.s.below hb⟩
theorem Pst.but {w0 W W1 : World} {g gs b : Nat} {l : List S67} {e : Int} (h : Pst w0 W g gs l e) (hb : But W W1 b) (h1 : g ≠ b) (h2 : gs ≠ b) : Pst w0 W1 g gs l e :=
  ⟨(hb.blk _ h1).trans h.p, h.ge, h.s.but hb h2⟩
/-- The source has gone on. -/
theorem Pst.src {w0 W W1 : World} {g gs : Nat} {l l' : List S67} {e : Int} (h : Pst w0 W g gs l e) (hs : Src w0 W1 gs l') (hk : KeepBut W W1 gs none) : Pst w0 W1 g gs l' e :=
  ⟨hk.blk h.p h.ne (by simp), h.ge, hs⟩
theorem Pst.err {w0 W : World} {g gs : Nat} {l : List S67} {e : Int} (h : Pst w0 W g gs l e) (e' : Int) : Pst w0 (W.setCell ⟨g, 1, none⟩ (.int .i64 e')) g gs l e' :=
  ⟨blk_put h.p 1 _ rfl, h.ge, h.s.same (Below.heap_setCell W _ _ gs (Ne.symm h.ne))⟩

/-- All that was there stays, but for the parser and its source. -/
abbrev KP (w W : World) (g gs : Nat) : Prop := Kept w W (fun k => k = g ∨ k = gs)
theorem kp_below {w W W1 : World} {g gs : Nat} (h : KP w W g gs) (hb : Below W.heap.size W W1) : KP w W1 g gs := h.below hb
theorem kp_src {w W W1 : World} {g gs : Nat} (h : KP w W g gs) (hk : KeepBut W W1 gs none) : KP w W1 g gs := h.of_keep hk (.inl (.inr rfl))
theorem kp_but {w W W1 : World} {g gs b : Nat} (h : KP w W g gs) (hb : But W W1 b) (hw : w.heap.size ≤ b) : KP w W1 g gs := h.of_keep hb.keep (.inr hw)
theorem kp_then {w W W1 : World} {g gs : Nat} (h : KP w W g gs) (k : KP W W1 g gs) : KP w W1 g gs := h.then_ k (fun _ hk => .inl hk)

/-- What a parser's function leaves: a row of parts of its own, and the parser as it then stands. -/
def PPost (w0 w : World) (g gs : Nat) (r : List S53) (l' : List S67) (e' : Int) (e : Ending) (w' : World) : Prop :=
  ∃ v, e = .returned v ∧ Kd.R k53 53 w' w.heap.size (fun _ => True) v r ∧ Pst w0 w' g gs l' e' ∧ Below w0.heap.size w0 w' ∧ KP w w' g gs

theorem wrong_calls (g gs : Nat) (l : List S67) (e c : Int) (w0 w : World) (hI : Pst w0 w g gs l e) (hB : Below w0.heap.size w0 w) :
    Calls Tryd.prog 41 #[.pointer (some ⟨g, 0, none⟩), .int .i64 c] w (fun en w' => en = .returned (.slice none 0 0) ∧ Pst w0 w' g gs l (wr e c) ∧ Below w0.heap.size w0 w' ∧ KP w w' g gs) := by
  have HI := As.mk hI
  have HB := As.mk hB
  have hc1 : w.cell? ⟨g, 1, none⟩ = some (.int .i64 e) := (blk_cell hI.p 1).trans rfl
  have hf1 := blk_frozen hI.p 1
  unfold wr
  by_cases h : e = 0
  · rw [if_pos h]
    have hb : (e == 0) = true := by simp [h]
    clear hI hB h
    go_enter Tryd.func41, Tryd.ntmps41
    go_wp2
    go_ret
    exact ⟨rfl, HI.out.err c, bwC HB.out HI.out.ge, (Kept.refl _ _).setCell (.inl (.inl rfl)) _⟩
  · rw [if_neg h]
    have hb : (e == 0) = false := by simp [h]
    clear hI hB h
    go_enter Tryd.func41, Tryd.ntmps41
    go_wp2
    go_ret
    exact ⟨rfl, HI.out, HB.out, Kept.refl _ _⟩

theorem Pst.grown {w0 W W1 : World} {g gs : Nat} {l : List S67} {e : Int} {v : Value} {xs : List S53} {base : Nat} (h : Pst w0 W g gs l e) (hg : W.grownBy W1 v.ownBlock) (hr : Kd.R k53 53 W base (fun _ => True) v xs) : Pst w0 W1 g gs l e := by
  have ht := Kd.R_typed hr
  refine ⟨(hg.block g h.lt ?_).trans h.p, h.ge, h.s.same (hg.block gs h.s.lt ?_)⟩
  · intro hk
    obtain ⟨cs, hc⟩ := ht g hk.symm
    have := h.p
    rw [hc] at this
    injection this with this
    injection this with _ ht _
    exact absurd ht (by decide)
  · intro hk
    obtain ⟨cs, hc⟩ := ht gs hk.symm
    obtain ⟨cs2, hc2⟩ := h.s.ty
    rw [hc] at hc2
    injection hc2 with this
    injection this with _ ht _
    exact absurd ht (by decide)
theorem kp_grown {w W W1 : World} {g gs : Nat} {row : Option Nat} (h : KP w W g gs) (hg : W.grownBy W1 row) (hr : ∀ k, row = some k → w.heap.size ≤ k) : KP w W1 g gs := h.of_grown hg (fun k hk => .inr (hr k hk))
theorem below_grownBy {w0 W W1 : World} {row : Option Nat} (hb : Below w0.heap.size w0 W) (hg : W.grownBy W1 row) (hr : ∀ k, row = some k → w0.heap.size ≤ k) : Below w0.heap.size w0 W1 := pw_below_grown hb row hb.size hg hr

theorem info53' : (Tryd.prog.info? 53).map (fun i => (i.zero, i.size, i.bytes)) = some (some (.agg #[(.int .i64 0), (.int .i64 0), (.int .i64 0), (.string ⟨#[]⟩), (.bool false), (.string ⟨#[]⟩), (.string ⟨#[]⟩)]), 7, 80) := by kernel_rfl

/-- A part's cells. -/
def nodeC (n : S53) : List Value := [.int .i64 n.f0, .int .i64 n.f1.f0, .int .i64 n.f1.f1, .string n.f1.f2, .bool n.f1.f3, .string n.f2, .string n.f3]

section
variable {ops : Array Oper} {rest : List Oper} {o : Oper} {a : Act} {Q : Exit → Act → World → Prop}
/-- One part is appended to a row of the call's own. -/
theorem app_event {W : World} {base : Nat} (hgd : o.guard = none) (s x : Operand) (ho : o.op = .call { callee := .builtin .append, args := #[s, x], argTypes := #[23, 23] })
    (v : Value) (xs : List S53) (n : S53) (hs : a.eval s = v) (hx : a.eval x = .slice (some ⟨W.heap.size, 0, none⟩) 1 1)
    (HO : Kd.R k53 53 W base (fun _ => True) v xs) (hbase : base ≤ W.heap.size) (hl : xs.length < 1000000000)
    (h : ∀ v1 w1, Kd.R k53 53 w1 base (fun _ => True) v1 (xs ++ [n]) → W.grownBy w1 v.ownBlock → wpList Tryd.prog ops Q rest (a.put o.dst v1) w1) :
    wpList Tryd.prog ops Q (o :: rest) a (W.alloc (.cells (nodeC n).toArray 53)) :=
  Kd.R_append k53 (w0 := W) base hgd s x 23 53 _ 80 ho Tryd.underlying23 info53' rfl (by decide) (by omega) v xs n (nodeC n) (fun _ => True) (fun _ => False) hs hx
    (k53_mkM _ _ _ n) (fun _ hk => hk.elim) (fun _ _ => trivial) HO ⟨rfl, rfl, rfl, Nat.le_refl _, fun _ _ => rfl⟩ hbase (by omega) (fun v1 w1 ho _ hg _ => h v1 w1 ho hg)

/-- A row of one part is made. -/
theorem lit_event {W : World} (hgd : o.guard = none) {N : Tmp} (hd : o.dst = some N) (n : S53)
    (hrun : (execOp a.eval o).run Tryd.prog W = .ok (.value (.slice (some ⟨W.heap.size, 0, none⟩) 1 1)) (W.alloc (.cells (nodeC n).toArray 53)))
    (h : ∀ v1 w1, Kd.R k53 53 w1 W.heap.size (fun _ => True) v1 [n] → Below W.heap.size W w1 → wpList Tryd.prog ops Q rest (a.put o.dst v1) w1) : wpList Tryd.prog ops Q (o :: rest) a W :=
  Kd.R_lit (w0 := W) k53 W.heap.size 53 hgd hd (xs := [n]) (inner := nodeC n) (ok := fun _ => True) (okp := fun _ => True) hrun
    (Reps.c7 (show Kd.M k53 _ _ _ n (nodeC n) from k53_mkM _ _ _ n) (Reps.none _ _)) (fun _ hk => hk) trivial (Below.refl _ _) (Nat.le_refl _) (by simp) (fun v1 w1 ho hb _ _ => h v1 w1 ho hb)
end

/-- A row of parts stays where the source goes on. -/
theorem row_src {w0 W W1 : World} {gs base : Nat} {l : List S67} {v : Value} {xs : List S53} (hr : Kd.R k53 53 W base (fun _ => True) v xs) (hs : Src w0 W gs l) (hk : KeepBut W W1 gs none) : Kd.R k53 53 W1 base (fun _ => True) v xs := by
  obtain ⟨cs, hc⟩ := hs.ty
  have h1 := Kd.R_types hr hc (by decide)
  have h2 := Kd.R_keptB (S := fun k => k = gs) h1 ⟨hk.1, fun i hi hn => hk.2 i hi hn (by simp)⟩ (fun k hk => hk.2)
  exact Kd.R_mono h2 (fun _ _ => trivial)
/-- .. and where parser and source go on. -/
theorem row_par {w0 W W1 : World} {g gs base : Nat} {l : List S67} {e : Int} {v : Value} {xs : List S53} (hr : Kd.R k53 53 W base (fun _ => True) v xs) (hs : Pst w0 W g gs l e) (hk : KP W W1 g gs) : Kd.R k53 53 W1 base (fun _ => True) v xs := by
  obtain ⟨cs, hc⟩ := hs.s.ty
  have h1 := Kd.R_types hr hc (by decide)
  have h2 := Kd.R_types h1 hs.p (by decide)
  have h3 := Kd.R_keptB (S := fun k => k = g ∨ k = gs) h2 hk (fun k hk hs => hs.elim hk.2 hk.1.2)
  exact Kd.R_mono h3 (fun _ _ => trivial)

/-- The three contracts, at a number of rounds. -/
def OneC (k : Nat) : Prop := ∀ (w0 w : World) (g gs : Nat) (l : List S67) (e depth : Int) (r : List S53 × List S67 × Int), Pst w0 w g gs l e → Below w0.heap.size w0 w → 0 ≤ depth → depth ≤ 141 → oneF k depth l e = some r →
  Calls Tryd.prog 42 #[.pointer (some ⟨g, 0, none⟩), .int .i64 depth] w (PPost w0 w g gs r.1 r.2.1 r.2.2)
def LevelC (k : Nat) : Prop := ∀ (w0 w : World) (g gs : Nat) (l : List S67) (e least depth : Int) (r : List S53 × List S67 × Int), Pst w0 w g gs l e → Below w0.heap.size w0 w → 0 ≤ depth → depth ≤ 141 → levelF k least depth l e = some r →
  Calls Tryd.prog 29 #[.pointer (some ⟨g, 0, none⟩), .int .i64 least, .int .i64 depth] w (PPost w0 w g gs r.1 r.2.1 r.2.2)
def MinusC (k : Nat) : Prop := ∀ (w0 w : World) (g gs : Nat) (l : List S67) (e depth : Int) (r : List S53 × List S67 × Int), Pst w0 w g gs l e → Below w0.heap.size w0 w → 0 ≤ depth → depth ≤ 140 → minusF k depth l e = some r →
  Calls Tryd.prog 66 #[.pointer (some ⟨g, 0, none⟩), .int .i64 depth] w (PPost w0 w g gs r.1 r.2.1 r.2.2)

/-- How long what is taken is at most. -/
theorem len_all (k : Nat) : (∀ least depth l e r, levelF k least depth l e = some r → r.1.length ≤ 64 + k) ∧ (∀ least depth a l e r, loopF k least depth a l e = some r → r.1.length ≤ a.length ∨ r.1.length ≤ 64) ∧ (∀ depth l e r, oneF k depth l e = some r → r.1.length ≤ 64 + k) ∧ (∀ depth l e r, minusF k depth l e = some r → r.1.length ≤ 64 + k) := by
  induction k with
  | zero => exact ⟨fun _ _ _ _ _ h => by simp [levelF] at h, fun _ _ _ _ _ _ h => by simp [loopF] at h, fun _ _ _ _ h => by simp [oneF] at h, fun _ _ _ _ h => by simp [minusF] at h⟩
  | succ k ih =>
    obtain ⟨i1, i2, i3, i4⟩ := ih
    refine ⟨?_, ?_, ?_, ?_⟩
    · intro least depth l e r h
      simp only [levelF] at h
      split at h
      · obtain rfl := Option.some.inj h
        simp
      · obtain ⟨r0, h0, h1⟩ := Option.bind_eq_some_iff.mp h
        have a0 := i3 _ _ _ _ h0
        have a1 := i2 _ _ _ _ _ _ h1
        omega
    · intro least depth a l e r h
      simp only [loopF] at h
      split at h
      · split at h
        · obtain rfl := Option.some.inj h
          simp
        · split at h
          · obtain rfl := Option.some.inj h
            simp
          · obtain ⟨r0, h0, h1⟩ := Option.bind_eq_some_iff.mp h
            split at h1
            · obtain rfl := Option.some.inj h1
              simp
            · rename_i h64
              split at h1
              · obtain rfl := Option.some.inj h1
                simp
              · have a1 := i2 _ _ _ _ _ _ h1
                omega
      · obtain rfl := Option.some.inj h
        simp
    · intro depth l e r h
      simp only [oneF] at h
      have L : ∀ least d l' e', ∀ r', levelF k least d l' e' = some r' → r'.1.length ≤ 64 + k := i1
      (repeat' split at h)
      all_goals first
        | (obtain rfl := Option.some.inj h; (try simp); (try omega); done)
        | (obtain ⟨r0, h0, h1⟩ := Option.bind_eq_some_iff.mp h
           have a0 := L _ _ _ _ _ h0
           first
             | (obtain rfl := Option.some.inj h1; simp; omega)
             | (split at h1 <;> obtain rfl := Option.some.inj h1 <;> simp <;> omega))
        | (have a0 := i4 _ _ _ _ h; omega)
    · intro depth l e r h
      simp only [minusF] at h
      split at h
      · obtain rfl := Option.some.inj h
        simp only [List.length_cons, List.length_nil]
        omega
      · obtain ⟨r0, h0, h1⟩ := Option.bind_eq_some_iff.mp h
        have a0 := i3 _ _ _ _ h0
        obtain rfl := Option.some.inj h1
        simp
        omega

end Go.Proofs.YtpijgeijflbmhaaDoor.P

/- Contracts of functions of the library that the given program calls, laid at this seat by the kit's shelf; conditions: each theorem's own. -/
/-
  DERIVED: THE SHELF's CONTRACTS AT THIS DUMP, IN PLAIN WORDS (tools/lay-plain.mjs out of 'TrydShelf.lean', which tools/lay-shelf.mjs wrote): THE SAME DECLARATIONS UNDER THE SAME NAMES: 'import', 'namespace', 'open', 'def', 'theorem' AND NOTHING ELSE: no command of the shelf's: FOR A HAND-IN. Each laying: the table of numbers ('.._ren') and one theorem, a field a fact of the dump's own or the kernel's comparison; each contract: ONE APPLICATION.
-/
namespace Go.Proofs
open Go.Shelf
open Go.RowKit in
open Go.RowKit in
open Go.RowKit in
open Go.RowKit in
open Go.RowKit in
def Tryd.lays137_ren : Go.Shelf.Ren := ⟨fun | 137 => 84 | 217 => 87 | 266 => 94 | n => n, fun | 9 => 9 | 5 => 5 | 3 => 3 | n => n, fun | n => n⟩
theorem Tryd.lays137 : Go.Proofs.Lays.n137 Tryd.prog Tryd.lays137_ren := {
  mixed := by kernel_rfl
  f137 := Tryd.func84.trans (congrArg some (by kernel_rfl))
  f217 := Tryd.func87.trans (congrArg some (by kernel_rfl))
  f266 := Tryd.func94.trans (congrArg some (by kernel_rfl))
  t3 := Tryd.underlying3
  a3 := Tryd.isAgg3
  z3 := Tryd.sizeOf3
  v3 := Tryd.zeroValue3
  t5 := Tryd.underlying5
  a5 := Tryd.isAgg5
  z5 := Tryd.sizeOf5
  v5 := Tryd.zeroValue5
  t9 := Tryd.underlying9
  a9 := Tryd.isAgg9
  z9 := Tryd.sizeOf9
  v9 := Tryd.zeroValue9 }
open Go.RowKit in
/-- strings.IndexByte: "IndexByte returns the index of the first instance of c in s, or -1 if c is not present in s.": IT RETURNS 'Lib.indexByte s c'; the world is as it was. (LAID: no walk: one application.) -/
theorem Tryd.strings_IndexByte (s : ByteArray) (c : Int) (w : World) :
    Calls Tryd.prog 84 #[.string s, .int .u8 c] w fun e w' => e = .returned (.int .i64 (Lib.indexByte s.data.toList c.toNat.toUInt8)) ∧ w' = w := Any.strings_IndexByte Tryd.lays137 s c w
open Go.RowKit Go.Lib in
open Go.RowKit Go.Lib in
open Go.RowKit Go.Lib in
open Go.RowKit Go.Lib in
open Go.RowKit Go.Lib in
open Go.RowKit Go.Lib in
open Go.RowKit Go.Lib in
open Go.RowKit Go.Lib in
open Go.RowKit Go.Lib in
open Go.RowKit Go.Lib in
open Go.RowKit Go.Lib in
open Go.RowKit Go.Lib in
open Go.RowKit Go.Lib in
open Go.RowKit Go.Lib in
open Go.RowKit Go.Lib in
open Go.RowKit Go.Lib in
open Go.RowKit Go.Lib in
open Go.RowKit Go.Lib in
def Tryd.lays155_ren : Go.Shelf.Ren := ⟨fun | 155 => 78 | 154 => 86 | 138 => 88 | 165 => 89 | 143 => 90 | 166 => 91 | 197 => 92 | 169 => 93 | 195 => 95 | 218 => 96 | 240 => 97 | 241 => 98 | 219 => 99 | 260 => 100 | 276 => 101 | 277 => 102 | 217 => 87 | 225 => 103 | 224 => 104 | 267 => 105 | 266 => 94 | 314 => 106 | n => n, fun | 9 => 9 | 3 => 3 | 4 => 4 | 72 => 138 | 0 => 0 | 76 => 142 | 105 => 144 | 21 => 21 | 5 => 5 | 70 => 136 | 20 => 20 | 37 => 103 | 75 => 141 | 127 => 148 | 164 => 149 | 46 => 48 | 119 => 152 | 139 => 155 | 138 => 154 | 146 => 157 | 51 => 156 | 80 => 146 | n => n, fun | 1 => 2 | 3 => 3 | 4 => 4 | n => n⟩
theorem Tryd.lays155 : Go.Proofs.Lays.n155 Tryd.prog Tryd.lays155_ren := {
  mixed := by kernel_rfl
  f138 := Tryd.func88.trans (congrArg some (by kernel_rfl))
  f143 := Tryd.func90.trans (congrArg some (by kernel_rfl))
  f154 := Tryd.func86.trans (congrArg some (by kernel_rfl))
  f155 := Tryd.func78.trans (congrArg some (by kernel_rfl))
  f165 := Tryd.func89.trans (congrArg some (by kernel_rfl))
  f166 := Tryd.func91.trans (congrArg some (by kernel_rfl))
  f169 := Tryd.func93.trans (congrArg some (by kernel_rfl))
  f195 := Tryd.func95.trans (congrArg some (by kernel_rfl))
  f197 := Tryd.func92.trans (congrArg some (by kernel_rfl))
  f217 := Tryd.func87.trans (congrArg some (by kernel_rfl))
  f218 := Tryd.func96.trans (congrArg some (by kernel_rfl))
  f219 := Tryd.func99.trans (congrArg some (by kernel_rfl))
  f224 := Tryd.func104.trans (congrArg some (by kernel_rfl))
  f225 := Tryd.func103.trans (congrArg some (by kernel_rfl))
  f240 := Tryd.func97.trans (congrArg some (by kernel_rfl))
  f241 := Tryd.func98.trans (congrArg some (by kernel_rfl))
  f260 := Tryd.func100.trans (congrArg some (by kernel_rfl))
  f266 := Tryd.func94.trans (congrArg some (by kernel_rfl))
  f267 := Tryd.func105.trans (congrArg some (by kernel_rfl))
  f276 := Tryd.func101.trans (congrArg some (by kernel_rfl))
  f277 := Tryd.func102.trans (congrArg some (by kernel_rfl))
  f314 := Tryd.func106.trans (congrArg some (by kernel_rfl))
  t0 := Tryd.underlying0
  a0 := Tryd.isAgg0
  z0 := Tryd.sizeOf0
  v0 := Tryd.zeroValue0
  t3 := Tryd.underlying3
  a3 := Tryd.isAgg3
  z3 := Tryd.sizeOf3
  v3 := Tryd.zeroValue3
  t4 := Tryd.underlying4
  a4 := Tryd.isAgg4
  z4 := Tryd.sizeOf4
  v4 := Tryd.zeroValue4
  t5 := Tryd.underlying5
  a5 := Tryd.isAgg5
  z5 := Tryd.sizeOf5
  v5 := Tryd.zeroValue5
  t9 := Tryd.underlying9
  a9 := Tryd.isAgg9
  z9 := Tryd.sizeOf9
  v9 := Tryd.zeroValue9
  t20 := Tryd.underlying20
  a20 := Tryd.isAgg20
  z20 := Tryd.sizeOf20
  v20 := Tryd.zeroValue20
  t21 := Tryd.underlying21
  a21 := Tryd.isAgg21
  z21 := Tryd.sizeOf21
  v21 := Tryd.zeroValue21
  t37 := Tryd.underlying103
  a37 := Tryd.isAgg103
  z37 := Tryd.sizeOf103
  v37 := Tryd.zeroValue103
  t46 := Tryd.underlying48
  a46 := Tryd.isAgg48
  z46 := Tryd.sizeOf48
  v46 := Tryd.zeroValue48
  t51 := Tryd.underlying156
  a51 := Tryd.isAgg156
  z51 := Tryd.sizeOf156
  v51 := Tryd.zeroValue156
  t70 := Tryd.underlying136
  a70 := Tryd.isAgg136
  z70 := Tryd.sizeOf136
  v70 := Tryd.zeroValue136
  t72 := Tryd.underlying138
  a72 := Tryd.isAgg138
  z72 := Tryd.sizeOf138
  v72 := Tryd.zeroValue138
  t75 := Tryd.underlying141
  a75 := Tryd.isAgg141
  z75 := Tryd.sizeOf141
  v75 := Tryd.zeroValue141
  t76 := Tryd.underlying142
  a76 := Tryd.isAgg142
  z76 := Tryd.sizeOf142
  v76 := Tryd.zeroValue142
  t105 := Tryd.underlying144
  a105 := Tryd.isAgg144
  z105 := Tryd.sizeOf144
  v105 := Tryd.zeroValue144
  t119 := Tryd.underlying152
  a119 := Tryd.isAgg152
  z119 := Tryd.sizeOf152
  t127 := Tryd.underlying148
  a127 := Tryd.isAgg148
  z127 := Tryd.sizeOf148
  v127 := Tryd.zeroValue148
  t138 := Tryd.underlying154
  a138 := Tryd.isAgg154
  z138 := Tryd.sizeOf154
  v138 := Tryd.zeroValue154
  t139 := Tryd.underlying155
  a139 := Tryd.isAgg155
  z139 := Tryd.sizeOf155
  v139 := Tryd.zeroValue155
  t146 := Tryd.underlying157
  a146 := Tryd.isAgg157
  z146 := Tryd.sizeOf157
  v146 := Tryd.zeroValue157
  t164 := Tryd.underlying149
  a164 := Tryd.isAgg149
  z164 := Tryd.sizeOf149
  v164 := Tryd.zeroValue149
  g1 := by kernel_rfl
  g3 := by kernel_rfl
  g4 := by kernel_rfl }
theorem Tryd.Builder_Extra_155 : Builder.Extra Tryd.prog Tryd.lays155_ren := {
  sizeBuilder := by kernel_rfl
  liesBuilder := by kernel_rfl
  t5 := Tryd.underlying5
  a5 := Tryd.isAgg5
  z5 := Tryd.sizeOf5
  v5 := Tryd.zeroValue5
  infoByte := by kernel_rfl
  cellsByte := by kernel_rfl
  sizeByte := by kernel_rfl
  neB5 := by decide }
open Go.RowKit Go.Lib in
/-- strings.ReplaceAll: "ReplaceAll returns a copy of the string s with all non-overlapping instances of old replaced by new.": AT AN old THAT IS NOT EMPTY: 'Lib.replaceAll s old new'. (LAID: no walk: one application.) -/
theorem Tryd.strings_ReplaceAll (s old new : ByteArray) (m : Int) (w : World) (hs : s.size < 4294967281) (hm : w.cell? ⟨2, 0, none⟩ = some (.int .i64 m)) (h1 : 1 ≤ old.size) (hlen : s.size + Lib.countB s old * new.size ≤ 140737488355328) :
    Calls Tryd.prog 78 #[.string s, .string old, .string new] w fun e w' =>
      e = .returned (.string ⟨(Lib.replaceAll s.data.toList old.data.toList new.data.toList).toArray⟩) ∧ Below w.heap.size w w' := Any.strings_ReplaceAll Tryd.lays155 Tryd.Builder_Extra_155 s old new m w hs hm h1 hlen
open Go.RowKit Go.Lib in
open Go.RowKit Go.Lib in
open Go.RowKit Go.Lib in
open Go.Lib in
open Go.Lib in
def Tryd.lays110_ren : Go.Shelf.Ren := ⟨fun | 110 => 72 | 109 => 85 | n => n, fun | 31 => 33 | 9 => 9 | 4 => 4 | 3 => 3 | 0 => 0 | n => n, fun | n => n⟩
theorem Tryd.lays110 : Go.Proofs.Lays.n110 Tryd.prog Tryd.lays110_ren := {
  mixed := by kernel_rfl
  f109 := Tryd.func85.trans (congrArg some (by kernel_rfl))
  f110 := Tryd.func72.trans (congrArg some (by kernel_rfl))
  t0 := Tryd.underlying0
  a0 := Tryd.isAgg0
  z0 := Tryd.sizeOf0
  v0 := Tryd.zeroValue0
  t3 := Tryd.underlying3
  a3 := Tryd.isAgg3
  z3 := Tryd.sizeOf3
  v3 := Tryd.zeroValue3
  t4 := Tryd.underlying4
  a4 := Tryd.isAgg4
  z4 := Tryd.sizeOf4
  v4 := Tryd.zeroValue4
  t9 := Tryd.underlying9
  a9 := Tryd.isAgg9
  z9 := Tryd.sizeOf9
  v9 := Tryd.zeroValue9
  t31 := Tryd.underlying33
  a31 := Tryd.isAgg33
  z31 := Tryd.sizeOf33
  v31 := Tryd.zeroValue33 }
open Go.Lib in
/-- slices.Contains at []string: "Contains reports whether v is present in s.": IT RETURNS 'Lib.containsS (the elements) v', which is true just where v is among them ('Lib.containsS_iff'); the world is as it was. ITS CALLEE slices.Index IS MET BY ITS OWN CONTRACT OFF THE SHELF (lay that first): no loop is walked here. (LAID: no walk: one application.) -/
theorem Tryd.slices_Contains_string (b off n c : Nat) (zs : List ByteArray) (x : ByteArray) (w : World) (hz : n ≤ zs.length) (hbig : n ≤ 9223372036854775807) (hc : ∀ j, j < zs.length → w.cell? ⟨b, off + j, none⟩ = some (.string (zs.getD j ByteArray.empty))) :
    Calls Tryd.prog 72 #[.slice (some ⟨b, off, none⟩) n c, .string x] w fun e w' => e = .returned (.bool (Lib.containsS (zs.take n) x)) ∧ w' = w := Any.slices_Contains_string Tryd.lays110 b off n c zs x w hz hbig hc
end Go.Proofs

/- What the library's IndexByte and ReplaceAll come to at this program, as plain Lean functions; for ReplaceAll: a text of fewer than 2^32 - 16 bytes, a piece of at least one byte, another of at most 16. -/
namespace Go.Proofs.YtpijgeijflbmhaaDoor.P
open Go.RowKit Go.Proofs.YtpijgeijflbmhaaDoorW.PrintWords Go.Proofs.YtpijgeijflbmhaaDoorW.PrintLast Go.Proofs.YtpijgeijflbmhaaDoorW.PrintMore

def strings_IndexByte.f (a0 : ByteArray) (a1 : Int) : Option Int := some (Lib.indexByte a0.data.toList a1.toNat.toUInt8)

theorem strings_IndexByte.calls (a0 : ByteArray) (a1 : Int) (r : Int) (w : World) (h : strings_IndexByte.f a0 a1 = some r) :
    Calls Tryd.prog 84 #[.string a0, .int .u8 a1] w fun e w' => e = .returned (.int .i64 r) ∧ Drawn0 w w' := by
  obtain rfl := Option.some.inj h
  refine (Tryd.strings_IndexByte a0 a1 w).mono ?_
  rintro e w' ⟨rfl, rfl⟩
  exact ⟨rfl, Drawn0.refl _⟩

def strings_ReplaceAll.f (a0 a1 a2 : ByteArray) : Option ByteArray :=
  if a0.size < 4294967281 ∧ 1 ≤ a1.size ∧ a2.size ≤ 16 then some ⟨(Lib.replaceAll a0.data.toList a1.data.toList a2.data.toList).toArray⟩ else none

theorem strings_ReplaceAll.calls (a0 a1 a2 : ByteArray) (r : ByteArray) (w : World) (hG : Glob w) (h : strings_ReplaceAll.f a0 a1 a2 = some r) :
    Calls Tryd.prog 78 #[.string a0, .string a1, .string a2] w fun e w' => e = .returned (.string r) ∧ Below w.heap.size w w' := by
  unfold strings_ReplaceAll.f at h
  split at h
  · rename_i hc
    obtain ⟨h1, h2, h3⟩ := hc
    obtain rfl := Option.some.inj h
    obtain ⟨m, hm⟩ := hG.len
    have hk := Lib.countB_le a1 h2 a0.size a0 (Nat.le_refl _)
    have hmul : Lib.countB a0 a1 * a2.size ≤ a0.size * 16 := Nat.mul_le_mul hk h3
    refine (Tryd.strings_ReplaceAll a0 a1 a2 m w h1 hm h2 (by omega)).mono ?_
    rintro e w' ⟨rfl, hb⟩
    exact ⟨rfl, hb⟩
  · cases h

end Go.Proofs.YtpijgeijflbmhaaDoor.P

