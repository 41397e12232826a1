/- What slices.Clone comes to at an element type: a row of the call's own that reads as the one that came in; no more than 2^28 elements. -/
import Derived.Test.YtpijgeijflbmhaaDoorF0
import Derived.Test.YtpijgeijflbmhaaDoorF5
import Derived.Test.YtpijgeijflbmhaaDoorF4
import Derived.SizedLaws
import Derived.ChangeSlices
import Derived.Test.YtpijgeijflbmhaaDoorCards
import Derived.Test.YtpijgeijflbmhaaDoorTie
import Derived.WalkKit
import Derived.ShutString
import Derived.ChangeOld
import Derived.Below
import Derived.OpenShut
namespace Go.Proofs.YtpijgeijflbmhaaDoor.P
open Go.RowKit Go.Proofs.YtpijgeijflbmhaaDoorW.PrintWords Go.Proofs.YtpijgeijflbmhaaDoorW.PrintLast Go.Proofs.YtpijgeijflbmhaaDoorW.PrintMore
set_option linter.unusedVariables false

theorem infoClone67 : (Tryd.prog.info? 67).map (fun i => (i.zero, i.size, i.bytes)) = some (some (.agg #[(.int .i64 0), (.string ⟨#[]⟩), (.int .i64 0), (.int .i64 0)]), (k67).sz, 40) := by kernel_rfl

def slices_CloneTok.f (l : List S67) : Option (List S67) := if l.length ≤ 268435456 then some l else none

set_option maxHeartbeats 2000000 in
set_option maxRecDepth 100000 in
theorem slices_CloneTok.calls (A0 : Option Addr) (c0 : Nat) (l0 : List S67) (r : List S67) (w : World) (hr0 : Kd.C k67 w A0 l0.length l0) (hc0 : l0.length ≤ c0) (h : slices_CloneTok.f l0 = some r) :
    Calls Tryd.prog 30 #[.slice A0 l0.length c0] w fun e w' => ∃ v0_ : Value, e = .returned (v0_) ∧ Kd.R k67 67 w' w.heap.size (fun _ => True) v0_ r ∧ Below w.heap.size w w' := by
  unfold slices_CloneTok.f at h
  split at h
  · rename_i hl
    obtain rfl := Option.some.inj h
    have HR0 := As.mk hr0
    have HL := As.mk hl
    have HE := As.mk (fun (W : World) => Lib.run_eql_slice_nil (P := Tryd.prog) W 54 67 A0 l0.length c0 0 0 Tryd.underlying54)
    cases A0 with
    | none =>
      have hn : l0 = [] := by
        cases l0 with
        | nil => rfl
        | cons x l =>
          obtain ⟨ad, e, _⟩ := hr0.2.2 (by simp)
          cases e
      subst hn
      have hE : ∀ W : World, (binOp .eql 54 (.slice none 0 c0) (.slice none 0 0)).run Tryd.prog W = .ok (.bool true) W := fun W => HE.out W
      clear hr0 hc0 h hl
      go_enter Tryd.func30, Tryd.ntmps30
      go_wp2
      go_ret
      exact ⟨_, rfl, Kd.R_nil _ _ _ _ _, Below.refl _ _⟩
    | some ad =>
      have hE := fun (W : World) => HE.out W
      clear hr0 hc0 h hl
      go_enter Tryd.func30, Tryd.ntmps30
      go_wp2_with (first
        | ((with_reducible refine gate_dst (N := 5) rfl ?_); refine Kd.R_lit (w0 := w) k67 w.heap.size 67 ?hg (N := 5) ?hd (xs := ([] : List S67)) (inner := []) (ok := fun _ => True) (okp := fun _ => True) ?hr ?hp (fun _ hk => hk) trivial (Below.refl _ _) (Nat.le_refl _) (by simp) ?_; (case hd => rfl); (case hg => rfl); (case hr => first | (go_simp; done) | (go_simp; rfl)); (case hp => exact (Reps.none _ _)); intro v1 w1 ho hb hg_ hnew_; have HO1 := As.mk ho; have HB1 := As.mk hb; clear hg_ hnew_ ho hb)
        | ((with_reducible refine gaB (b := .append) (xs := #[.tmp 5, .tmp 6]) rfl ?_); at_builtin; refine Kd.R_append_rows k67 (w0 := w) w.heap.size rfl (.tmp 5) (.tmp 6) 54 67 _ 40 rfl Tryd.underlying54 infoClone67 rfl (by decide) (by omega) v1 [] l0 _ _ _ (fun _ => True) (fun _ => False) rfl rfl ?aO ?aR (fun _ _ h => h) (fun _ h => h.elim) ?aF ?aB ?aS ?aL ?_; (case aR => exact (Kd.C_below HR0.out HB1.out)); (case aB => exact HB1.out); (case aF => exact (fun _ _ => trivial)); (case aO => exact HO1.out); (case aS => exact HB1.out.size); (case aL => have := HL.out; simp only [List.length_nil]; omega); intro v2 w2 ho hb hg hat; have HO2 := As.mk ho; have HB2 := As.mk hb; clear ho hb hg hat))
      go_ret
      exact ⟨_, rfl, HO2.out, HB2.out⟩
  · cases h

/-- A source is made; u: the world behind which it lies. -/
theorem from_calls (A : Option Addr) (c : Nat) (l : List S67) (w : World) (hr : Kd.C k67 w A l.length l) (hc : l.length ≤ c) (hl : l.length ≤ 268435456) :
    Calls Tryd.prog 17 #[.slice A l.length c] w fun e w' => ∃ gs u, e = .returned (.pointer (some ⟨gs, 0, none⟩)) ∧ Src u w' gs l ∧ Below u.heap.size u w' ∧ Below w.heap.size w u ∧ Below w.heap.size w w' := by
  have HC := As.mk (slices_CloneTok.calls A c l l w hr hc (if_pos hl))
  clear hr hc hl
  go_enter Tryd.func17, Tryd.ntmps17
  go_wp2_with (first
    | (go_at_call 30; (with_reducible refine HC.out.mono ?_); rintro e1 w1 ⟨v1, rfl, hr, hb⟩; have HR1 := As.mk hr; have HB1 := As.mk hb; clear hr hb; obtain ⟨A1, c1, e1⟩ := Kd.R_slice HR1.out; subst e1)
    | ((with_reducible refine gate_dst (N := 6) rfl ?_); refine box_event ?hg (N := 6) ?hd (cs := #[.slice A1 l.length c1]) (t := 69) ?hr ?_; (case hd => rfl); (case hg => rfl); (case hr => first | (go_simp; done) | (go_simp; rfl)); intro g2 hg w2 hbox hb; have HX := As.mk hbox; have HB2 := As.mk hb; have HG := As.mk hg; clear hbox hb hg))
  go_ret
  exact ⟨g2, w1, rfl, ⟨A1, c1, HX.out, by rw [HG.out]; exact Nat.le_refl _, (Kd.R_reads' HR1.out).2.1, (Kd.R_reads' HR1.out).2.2⟩, HB2.out, HB1.out, bwS HB1.out HB2.out⟩

/-- What Take comes to, in so many rounds: parts, error, what is left. -/
def takeF (k : Nat) (l : List S67) : Option (List S53 × Int × List S67) :=
  (levelF k 1 0 l 0).bind fun r => if r.2.2 = 0 then (if 64 < r.1.length then some ([], 5, r.2.1) else some (r.1, 0, r.2.1)) else some ([], r.2.2, r.2.1)

theorem take_nil (w : World) : Calls Tryd.prog 16 #[.pointer none] w fun e w' => e = .returned (.tuple #[.slice none 0 0, .int .i64 2]) ∧ w = w' := by
  go_enter Tryd.func16, Tryd.ntmps16
  go_wp2
  go_ret2
  exact ⟨rfl, rfl⟩

def TPost (w0 w : World) (gs : Nat) (r : List S53) (er : Int) (l' : List S67) (e : Ending) (w' : World) : Prop :=
  ∃ v, e = .returned (.tuple #[v, .int .i64 er]) ∧ Kd.R k53 53 w' w.heap.size (fun _ => True) v r ∧ Src w0 w' gs l' ∧ Below w0.heap.size w0 w' ∧ KeepBut w w' gs none

theorem kp_src_of {w w1 w2 : World} {g gs : Nat} (hb : Below w.heap.size w w1) (hg : g = w.heap.size) (hk : KP w1 w2 g gs) : KeepBut w w2 gs none :=
  ⟨Nat.le_trans hb.size hk.1, fun i hi hn _ => (hk.2 i (Nat.lt_of_lt_of_le hi hb.size) (fun h => h.elim (fun e => by omega) hn)).trans (hb.block i hi)⟩

set_option maxHeartbeats 4000000 in
set_option maxRecDepth 100000 in
theorem take_calls (k : Nat) (hk : k ≤ 100000) (gs : Nat) (l : List S67) (r : List S53 × Int × List S67) (h : takeF k l = some r) (w0 w : World) (hI : Src w0 w gs l) (hB : Below w0.heap.size w0 w) :
    Calls Tryd.prog 16 #[.pointer (some ⟨gs, 0, none⟩)] w (TPost w0 w gs r.1 r.2.1 r.2.2) := by
  unfold takeF at h
  obtain ⟨r0, h0, h⟩ := Option.bind_eq_some_iff.mp h
  have HI0 := As.mk hI
  have HB0 := As.mk hB
  have HL := As.mk (fun (g : Nat) (w1 : World) (i1 : Pst w0 w1 g gs l 0) (b1 : Below w0.heap.size w0 w1) => (all_calls k hk).1 w0 w1 g gs l 0 1 0 r0 i1 b1 (by omega) (by omega) h0)
  clear hI hB h0
  by_cases he : r0.2.2 = 0
  · rw [if_pos he] at h
    have he1 : (r0.2.2 != 0) = false := by simp [he]
    clear he
    by_cases h64 : 64 < r0.1.length
    · rw [if_pos h64] at h
      have h6 : decide (64 < (r0.1.length : Int)) = true := decide_eq_true (by omega)
      have h6b : decide (64 < r0.1.length) = true := decide_eq_true h64
      clear h64
      obtain rfl := Option.some.inj h
      clear h
      go_enter Tryd.func16, Tryd.ntmps16
      go_wp2_with (first
        | ((with_reducible refine gate_dst (N := 10) rfl ?_); refine box_event ?hg (N := 10) ?hd (cs := #[.pointer (some ⟨gs, 0, none⟩), .int .i64 0]) (t := 63) ?hr ?_; (case hd => rfl); (case hg => rfl); (case hr => first | (go_simp; done) | (go_simp; rfl)); intro g hg w1 hbox hb; have HB1 := As.mk (bwS HB0.out hb); have HI1 := As.mk (show Pst w0 w1 g gs l 0 from ⟨hbox, by rw [hg]; exact HB0.out.size, HI0.out.below hb⟩); have HW := As.mk hb; have HG := As.mk hg; clear hbox hb hg)
        | (go_at_call 29; (with_reducible refine (HL.out _ _ HI1.out HB1.out).mono ?_); rintro e1 w2 ⟨v2, rfl, hr, hi, hb, hkk⟩; have HR2 := As.mk (Kd.R_lower hr HW.out.size); have HI2 := As.mk hi; have HB2 := As.mk hb; have HK2 := As.mk (kp_src_of HW.out HG.out hkk); have hp1 := (blk_cell hi.p 1).trans (show _ = some (.int .i64 r0.2.2) from rfl); clear hr hi hb hkk; obtain ⟨A2, c2, e2⟩ := Kd.R_slice HR2.out; subst e2))
      go_ret2
      exact ⟨_, rfl, Kd.R_nil _ _ _ _ _, HI2.out.s, HB2.out, HK2.out⟩
    · rw [if_neg h64] at h
      have h6 : decide (64 < (r0.1.length : Int)) = false := decide_eq_false (by omega)
      have h6b : decide (64 < r0.1.length) = false := decide_eq_false h64
      clear h64
      obtain rfl := Option.some.inj h
      clear h
      go_enter Tryd.func16, Tryd.ntmps16
      go_wp2_with (first
        | ((with_reducible refine gate_dst (N := 10) rfl ?_); refine box_event ?hg (N := 10) ?hd (cs := #[.pointer (some ⟨gs, 0, none⟩), .int .i64 0]) (t := 63) ?hr ?_; (case hd => rfl); (case hg => rfl); (case hr => first | (go_simp; done) | (go_simp; rfl)); intro g hg w1 hbox hb; have HB1 := As.mk (bwS HB0.out hb); have HI1 := As.mk (show Pst w0 w1 g gs l 0 from ⟨hbox, by rw [hg]; exact HB0.out.size, HI0.out.below hb⟩); have HW := As.mk hb; have HG := As.mk hg; clear hbox hb hg)
        | (go_at_call 29; (with_reducible refine (HL.out _ _ HI1.out HB1.out).mono ?_); rintro e1 w2 ⟨v2, rfl, hr, hi, hb, hkk⟩; have HR2 := As.mk (Kd.R_lower hr HW.out.size); have HI2 := As.mk hi; have HB2 := As.mk hb; have HK2 := As.mk (kp_src_of HW.out HG.out hkk); have hp1 := (blk_cell hi.p 1).trans (show _ = some (.int .i64 r0.2.2) from rfl); clear hr hi hb hkk; obtain ⟨A2, c2, e2⟩ := Kd.R_slice HR2.out; subst e2))
      go_ret2
      exact ⟨_, rfl, HR2.out, HI2.out.s, HB2.out, HK2.out⟩
  · rw [if_neg he] at h
    have he1 : (r0.2.2 != 0) = true := by simp [he]
    clear he
    obtain rfl := Option.some.inj h
    clear h
    go_enter Tryd.func16, Tryd.ntmps16
    go_wp2_with (first
      | ((with_reducible refine gate_dst (N := 10) rfl ?_); refine box_event ?hg (N := 10) ?hd (cs := #[.pointer (some ⟨gs, 0, none⟩), .int .i64 0]) (t := 63) ?hr ?_; (case hd => rfl); (case hg => rfl); (case hr => first | (go_simp; done) | (go_simp; rfl)); intro g hg w1 hbox hb; have HB1 := As.mk (bwS HB0.out hb); have HI1 := As.mk (show Pst w0 w1 g gs l 0 from ⟨hbox, by rw [hg]; exact HB0.out.size, HI0.out.below hb⟩); have HW := As.mk hb; have HG := As.mk hg; clear hbox hb hg)
      | (go_at_call 29; (with_reducible refine (HL.out _ _ HI1.out HB1.out).mono ?_); rintro e1 w2 ⟨v2, rfl, hr, hi, hb, hkk⟩; have HR2 := As.mk (Kd.R_lower hr HW.out.size); have HI2 := As.mk hi; have HB2 := As.mk hb; have HK2 := As.mk (kp_src_of HW.out HG.out hkk); have hp1 := (blk_cell hi.p 1).trans (show _ = some (.int .i64 r0.2.2) from rfl); clear hr hi hb hkk; obtain ⟨A2, c2, e2⟩ := Kd.R_slice HR2.out; subst e2))
    go_quiet (fail)
    go_wp2
    go_ret2
    exact ⟨_, rfl, Kd.R_nil _ _ _ _ _, HI2.out.s, by repeat (first | exact HB2.out | apply bwN), by repeat (first | exact HK2.out | apply kpN)⟩

/-- So many rounds, and calls behind one another: enough for every text that the laws hand in. -/
@[irreducible] def parseFuel : Nat := 20000
theorem parseFuel_le : parseFuel ≤ 100000 := by unfold parseFuel; omega

def ppred_Parse.f (s : ByteArray) : Option (List S53 × Int) :=
  (lex_Text.f parseFuel s).bind fun t =>
    if t.2 = 0 then (if 1000 < t.1.length then none else (takeF parseFuel t.1).bind fun b =>
      if b.2.1 = 0 then (if 0 < b.2.2.length then some ([], 2) else some (b.1, 0)) else some ([], b.2.1))
    else some ([], t.2)

set_option maxHeartbeats 4000000 in
set_option maxRecDepth 100000 in
theorem ppred_Parse.calls (s : ByteArray) (r1 : List S53) (r2 : Int) (w : World) (hG : Glob w) (h : ppred_Parse.f s = some (r1, r2)) :
    Calls Tryd.prog 12 #[.string s] w fun e w' => ∃ v0 : Value, e = .returned (.tuple #[v0, .int .i64 r2]) ∧ Kd.R k53 53 w' w.heap.size (fun _ => True) v0 r1 ∧ Below w.heap.size w w' := by
  unfold ppred_Parse.f at h
  obtain ⟨t, ht, h⟩ := Option.bind_eq_some_iff.mp h
  have HT := As.mk (lex_Text.calls parseFuel s t.1 t.2 w hG ht)
  clear hG ht
  by_cases he : t.2 = 0
  · rw [if_pos he] at h
    have he1 : (t.2 != 0) = false := by simp [he]
    clear he
    by_cases hl : 1000 < t.1.length
    · rw [if_pos hl] at h
      exact absurd h (by simp)
    · rw [if_neg hl] at h
      have HL := As.mk (show t.1.length ≤ 268435456 from by omega)
      clear hl
      obtain ⟨b, hb, h⟩ := Option.bind_eq_some_iff.mp h
      have HK := As.mk hb
      clear hb
      by_cases hf : b.2.1 = 0
      · rw [if_pos hf] at h
        have hf1 : (b.2.1 != 0) = false := by simp [hf]
        clear hf
        by_cases hn : 0 < b.2.2.length
        · rw [if_pos hn] at h
          have hn1 : decide (0 < (b.2.2.length : Int)) = true := decide_eq_true (by omega)
          have hn2 : decide (0 < b.2.2.length) = true := decide_eq_true hn
          clear hn
          simp only [Option.some.injEq, Prod.mk.injEq] at h
          obtain ⟨rfl, rfl⟩ := h
          go_enter Tryd.func12, Tryd.ntmps12
          go_wp2_with (first
            | (go_at_call 23; (with_reducible refine HT.out.mono ?_); rintro e1 w1 ⟨v1, rfl, hr, hb⟩; have HR1 := As.mk hr; have HB1 := As.mk hb; clear hr hb; obtain ⟨A1, c1, e1⟩ := Kd.R_slice HR1.out; subst e1)
            | (go_at_call 17; (with_reducible refine (from_calls A1 c1 t.1 w1 (Kd.R_reads' HR1.out).2.2 (Kd.R_reads' HR1.out).2.1 HL.out).mono ?_); rintro e1 w2 ⟨gs, u, rfl, hi, hb, hu, hb2⟩; have HI2 := As.mk hi; have HB2 := As.mk hb; have HU := As.mk hu; have HW2 := As.mk (bwS HB1.out hb2); clear hi hb hu hb2)
            | (go_at_call 16; (with_reducible refine (take_calls parseFuel parseFuel_le gs t.1 b HK.out u w2 HI2.out HB2.out).mono ?_); rintro e1 w3 ⟨v3, rfl, hr, hi, hb, hk⟩; have HR3 := As.mk (Kd.R_lower hr HW2.out.size); have HI3 := As.mk hi; have HB3 := As.mk (bwS HB1.out (bwS HU.out hb)); clear hr hi hb hk)
            | (go_at_call 24; (with_reducible refine (left_calls gs b.2.2 u w3 HI3.out).mono ?_); rintro e1 w4 ⟨rfl, rfl⟩))
          go_ret2
          exact ⟨_, rfl, Kd.R_nil _ _ _ _ _, by repeat (first | exact HB3.out | apply bwN)⟩
        · rw [if_neg hn] at h
          have hn1 : decide (0 < (b.2.2.length : Int)) = false := decide_eq_false (by omega)
          have hn2 : decide (0 < b.2.2.length) = false := decide_eq_false hn
          clear hn
          simp only [Option.some.injEq, Prod.mk.injEq] at h
          obtain ⟨rfl, rfl⟩ := h
          go_enter Tryd.func12, Tryd.ntmps12
          go_wp2_with (first
            | (go_at_call 23; (with_reducible refine HT.out.mono ?_); rintro e1 w1 ⟨v1, rfl, hr, hb⟩; have HR1 := As.mk hr; have HB1 := As.mk hb; clear hr hb; obtain ⟨A1, c1, e1⟩ := Kd.R_slice HR1.out; subst e1)
            | (go_at_call 17; (with_reducible refine (from_calls A1 c1 t.1 w1 (Kd.R_reads' HR1.out).2.2 (Kd.R_reads' HR1.out).2.1 HL.out).mono ?_); rintro e1 w2 ⟨gs, u, rfl, hi, hb, hu, hb2⟩; have HI2 := As.mk hi; have HB2 := As.mk hb; have HU := As.mk hu; have HW2 := As.mk (bwS HB1.out hb2); clear hi hb hu hb2)
            | (go_at_call 16; (with_reducible refine (take_calls parseFuel parseFuel_le gs t.1 b HK.out u w2 HI2.out HB2.out).mono ?_); rintro e1 w3 ⟨v3, rfl, hr, hi, hb, hk⟩; have HR3 := As.mk (Kd.R_lower hr HW2.out.size); have HI3 := As.mk hi; have HB3 := As.mk (bwS HB1.out (bwS HU.out hb)); clear hr hi hb hk)
            | (go_at_call 24; (with_reducible refine (left_calls gs b.2.2 u w3 HI3.out).mono ?_); rintro e1 w4 ⟨rfl, rfl⟩))
          go_ret2
          exact ⟨_, rfl, HR3.out, by repeat (first | exact HB3.out | apply bwN)⟩
      · rw [if_neg hf] at h
        have hf1 : (b.2.1 != 0) = true := by simp [hf]
        clear hf
        simp only [Option.some.injEq, Prod.mk.injEq] at h
        obtain ⟨rfl, rfl⟩ := h
        go_enter Tryd.func12, Tryd.ntmps12
        go_wp2_with (first
          | (go_at_call 23; (with_reducible refine HT.out.mono ?_); rintro e1 w1 ⟨v1, rfl, hr, hb⟩; have HR1 := As.mk hr; have HB1 := As.mk hb; clear hr hb; obtain ⟨A1, c1, e1⟩ := Kd.R_slice HR1.out; subst e1)
          | (go_at_call 17; (with_reducible refine (from_calls A1 c1 t.1 w1 (Kd.R_reads' HR1.out).2.2 (Kd.R_reads' HR1.out).2.1 HL.out).mono ?_); rintro e1 w2 ⟨gs, u, rfl, hi, hb, hu, hb2⟩; have HI2 := As.mk hi; have HB2 := As.mk hb; have HU := As.mk hu; have HW2 := As.mk (bwS HB1.out hb2); clear hi hb hu hb2)
          | (go_at_call 16; (with_reducible refine (take_calls parseFuel parseFuel_le gs t.1 b HK.out u w2 HI2.out HB2.out).mono ?_); rintro e1 w3 ⟨v3, rfl, hr, hi, hb, hk⟩; have HR3 := As.mk (Kd.R_lower hr HW2.out.size); have HI3 := As.mk hi; have HB3 := As.mk (bwS HB1.out (bwS HU.out hb)); clear hr hi hb hk))
        go_ret2
        exact ⟨_, rfl, Kd.R_nil _ _ _ _ _, by repeat (first | exact HB3.out | apply bwN)⟩
  · rw [if_neg he] at h
    have he1 : (t.2 != 0) = true := by simp [he]
    clear he
    simp only [Option.some.injEq, Prod.mk.injEq] at h
    obtain ⟨rfl, rfl⟩ := h
    go_enter Tryd.func12, Tryd.ntmps12
    go_wp2_with (first
      | (go_at_call 23; (with_reducible refine HT.out.mono ?_); rintro e1 w1 ⟨v1, rfl, hr, hb⟩; have HR1 := As.mk hr; have HB1 := As.mk hb; clear hr hb; obtain ⟨A1, c1, e1⟩ := Kd.R_slice HR1.out; subst e1))
    go_ret2
    exact ⟨_, rfl, Kd.R_nil _ _ _ _ _, by repeat (first | exact HB1.out | apply bwN)⟩

theorem peek_cons (a : Nat) (c : Pc) (cs : List Pc) : peekT (toks a (c :: cs)) = c.tok (c.at_ a : Nat) := rfl
theorem next_cons (a : Nat) (c : Pc) (cs : List Pc) (h : c.kind ≠ 0) : nextT (toks a (c :: cs)) = toks (c.at_ a + c.raw.length) cs := by
  unfold nextT
  rw [peek_cons, if_neg (by exact h)]
  rfl

/-- No part stands between. -/
def Ends : List Pc → Prop
  | [] => True
  | c :: _ => ∃ sp, c = sg sp 41
theorem ends_bin (n : Nat) (rest : List Pc) (h : Ends rest) : binF (peekT (toks n rest)) = (0, 0) := by
  cases rest with
  | nil => rfl
  | cons c cs => obtain ⟨sp, rfl⟩ := h; exact (by decide +kernel : binF ⟨5, ofL [41], 0, 0⟩ = (0, 0))

def prec (op : Int) : Int := if op = 15 then 1 else if op = 14 then 2 else if op = 6 then 6 else if op = 4 then 5 else if op = 5 then 5 else 4

theorem op_bin (n : Nat) (op : Int) (rest : List Pc) (h : 4 ≤ op) (h2 : op ≤ 15) (h3 : op ≠ 13) : binF (peekT (toks n (opP op :: rest))) = (op, prec op) := by
  have h4 : ∀ op ∈ ([4, 5, 6, 7, 8, 9, 10, 11, 12, 14, 15] : List Int), binF ⟨(opP op).kind, ofL (opP op).S, 0, 0⟩ = (op, prec op) := by decide +kernel
  exact h4 op (by simp only [List.mem_cons, List.not_mem_nil, or_false]; omega)

theorem op_kind (op : Int) : (opP op).kind ≠ 0 := by unfold opP; simp only; split <;> decide

theorem sg_is (n : Nat) (sp : Bool) (x : UInt8) (rest : List Pc) : isB (toks n (sg sp x :: rest)) 5 (ofL [x]) = true := by
  unfold isB; simp [peek_cons, sg, Pc.tok]

theorem flat_rep (x : UInt8) : ∀ m, flat (List.replicate m (sg false x)) = List.replicate m x := by
  intro m
  induction m with
  | zero => rfl
  | succ m ih => rw [List.replicate_succ, List.replicate_succ, flat, ih]; rfl

theorem good_rep (x : UInt8) (hx : x = 40 ∨ x = 41 ∨ x = 45 ∨ x = 46) (rest : List Pc) (hg : Good rest) : ∀ m, Good (List.replicate m (sg false x) ++ rest) := by
  intro m
  induction m with
  | zero => exact hg
  | succ m ih => rw [List.replicate_succ]; exact good_cons (sg_ok false x hx _) ih

def deepP (m : Nat) : List Pc := List.replicate m (sg false 40) ++ (numP false 1 :: List.replicate m (sg false 41))
def deepB (k : Nat) : Bs := List.replicate k 40 ++ ([49] ++ List.replicate k 41)

theorem flat_deep (m : Nat) : flat (deepP m) = deepB m := by
  unfold deepP deepB
  rw [flat_append, flat_rep, flat, flat_rep]; rfl

theorem fol_rep (m : Nat) : Follow (flat (List.replicate m (sg false 41))).head? := by
  rw [flat_rep]
  cases m with
  | zero => exact .inl rfl
  | succ m => exact .inr (.inr (.inl rfl))

theorem good_deep (m : Nat) : Good (deepP m) := by
  have h1 := good_rep 41 (by simp) [] trivial m
  rw [List.append_nil] at h1
  exact good_rep 40 (by simp) _ (good_cons (numP_ok false 1 (by omega) (by omega) _ (fol_rep m)) h1) m

/-- An opened bracket: what stands in it, and whether it is closed. -/
theorem one_open (k n : Nat) (d : Int) (rest : List Pc) (hd : d ≤ 140) : oneF (k + 1) d (toks n (sg false 40 :: rest)) 0 = (levelF k 1 (d + 1) (toks (n + 1) rest) 0).bind fun r => if isB r.2.1 5 ⟨#[41]⟩ then some (r.1, nextT r.2.1, r.2.2) else some ([], r.2.1, wr r.2.2 2) := by
  rw [oneF, if_neg (by omega), next_cons _ _ _ (by simp [sg]), peek_cons]
  have k5 : ((sg false 40).tok ((sg false 40).at_ n : Nat)).f0 = 5 := rfl
  have s5 : ((sg false 40).tok ((sg false 40).at_ n : Nat)).f1 = ⟨#[40]⟩ := rfl
  rw [k5, s5, if_neg (by decide), if_neg (by decide), if_neg (by decide), if_pos (by first | trivial | rfl), if_neg (by decide +kernel), if_pos (by first | trivial | rfl)]
  rfl

theorem num_one (k n : Nat) (d : Int) (sp : Bool) (v : Int) (rest : List Pc) (hd : d ≤ 140) : oneF (k + 1) d (toks n (numP sp v :: rest)) 0 = some ([conNode 1 v ⟨#[]⟩ false], toks ((numP sp v).at_ n + (numP sp v).raw.length) rest, 0) := by
  rw [oneF, if_neg (by omega), next_cons _ _ _ (by simp [numP]), peek_cons]
  have k3 : ((numP sp v).tok ((numP sp v).at_ n : Nat)).f0 = 3 := rfl
  rw [if_pos k3]
  rfl

theorem deep_ok : ∀ (m n k : Nat) (d : Int) (rest : List Pc), Ends rest → d + m ≤ 140 → 3 * m + 3 ≤ k → ∃ a j, oneF k d (toks n (List.replicate m (sg false 40) ++ (numP false 1 :: (List.replicate m (sg false 41) ++ rest)))) 0 = some (a, toks j rest, 0) ∧ a.length = 1 := by
  intro m
  induction m with
  | zero =>
    intro n k d rest hr hd hk
    obtain ⟨k, rfl⟩ : ∃ j, k = j + 1 := ⟨k - 1, by omega⟩
    rw [List.replicate_zero, List.replicate_zero, List.nil_append, List.nil_append, num_one _ _ _ _ _ _ (by omega)]
    exact ⟨_, _, rfl, rfl⟩
  | succ m ih =>
    intro n k d rest hr hd hk
    obtain ⟨k, rfl⟩ : ∃ j, k = j + 3 := ⟨k - 3, by omega⟩
    obtain ⟨a, j, h, ha⟩ := ih (n + 1) (k + 1) (d + 1) (sg false 41 :: rest) ⟨false, rfl⟩ (by omega) (by omega)
    have e : List.replicate (m + 1) (sg false 41) ++ rest = List.replicate m (sg false 41) ++ (sg false 41 :: rest) := by
      rw [List.replicate_succ', List.append_assoc]; rfl
    rw [List.replicate_succ, e, List.cons_append, one_open _ _ _ _ (by omega), levelF, if_neg (by omega), h, Option.bind_some, loopF, if_pos rfl, if_pos (by simp only; rw [ends_bin j (sg false 41 :: rest) ⟨false, rfl⟩]), Option.bind_some,
      if_pos (by exact sg_is j false 41 rest), next_cons _ _ _ (by simp [sg])]
    exact ⟨_, _, rfl, ha⟩

theorem deep_big : ∀ (c m n k : Nat) (d : Int) (rest : List Pc), d + c = 140 → c < m → 3 * c + 4 ≤ k → 0 ≤ d → ∃ a l, oneF k d (toks n (List.replicate m (sg false 40) ++ rest)) 0 = some (a, l, 5) := by
  intro c
  induction c with
  | zero =>
    intro m n k d rest hd hm hk h0
    obtain ⟨m, rfl⟩ : ∃ j, m = j + 1 := ⟨m - 1, by omega⟩
    obtain ⟨k, rfl⟩ : ∃ j, k = j + 2 := ⟨k - 2, by omega⟩
    rw [List.replicate_succ, List.cons_append, one_open _ _ _ _ (by omega), levelF, if_pos (by omega), Option.bind_some]
    split
    · exact ⟨_, _, rfl⟩
    · exact ⟨_, _, rfl⟩
  | succ c ih =>
    intro m n k d rest hd hm hk h0
    obtain ⟨m, rfl⟩ : ∃ j, m = j + 1 := ⟨m - 1, by omega⟩
    obtain ⟨k, rfl⟩ : ∃ j, k = j + 3 := ⟨k - 3, by omega⟩
    obtain ⟨a, l, h⟩ := ih m (n + 1) (k + 1) (d + 1) rest (by omega) (by omega) (by omega) (by omega)
    rw [List.replicate_succ, List.cons_append, one_open _ _ _ _ (by omega), levelF, if_neg (by omega), h, Option.bind_some, loopF, if_neg (by simp), Option.bind_some]
    split
    · exact ⟨_, _, rfl⟩
    · exact ⟨_, _, rfl⟩

theorem fuel_eq : ∃ f, parseFuel = f + 5 ∧ 15000 ≤ f := ⟨parseFuel - 5, by unfold parseFuel; omega, by unfold parseFuel; omega⟩

/-- What Parse makes of pieces. -/
theorem parse_pcs (cs : List Pc) (hg : Good cs) (hn : cs.length ≤ 400) (hs : (flat cs).length ≤ 2000) : ppred_Parse.f (ofL (flat cs)) = (takeF parseFuel (toks 0 cs)).bind fun b => if b.2.1 = 0 then (if 0 < b.2.2.length then some ([], 2) else some (b.1, 0)) else some ([], b.2.1) := by
  unfold ppred_Parse.f
  rw [text_eq cs parseFuel hg (by unfold parseFuel; omega) hn hs, Option.bind_some, if_pos (by rfl), if_neg (by rw [toks_length]; omega)]

theorem deep_len (m : Nat) (hm : m ≤ 160) : (deepP m).length ≤ 400 ∧ (flat (deepP m)).length ≤ 2000 := by
  rw [flat_deep]
  unfold deepP deepB
  constructor <;> simp only [List.length_append, List.length_cons, List.length_nil, List.length_replicate] <;> omega

theorem deep_eq (m : Nat) (hm : m ≤ 140) : ∃ l, ppred_Parse.f (ofL (deepB m)) = some (l, 0) := by
  obtain ⟨h1, h2⟩ := deep_len m (by omega)
  obtain ⟨f, hf, hf2⟩ := fuel_eq
  have h := parse_pcs (deepP m) (good_deep m) h1 h2
  rw [flat_deep] at h
  obtain ⟨a, j, h3, ha⟩ := deep_ok m 0 (f + 4) 0 [] trivial (by omega) (by omega)
  rw [List.append_nil] at h3
  have h4 : takeF parseFuel (toks 0 (deepP m)) = some (a, 0, []) := by
    unfold takeF
    rw [hf, levelF, if_neg (by decide), show deepP m = List.replicate m (sg false 40) ++ (numP false 1 :: List.replicate m (sg false 41)) from rfl, h3, Option.bind_some, loopF, if_pos rfl, if_pos (by rfl), Option.bind_some, if_pos rfl, if_neg (by simp only; omega)]
    rfl
  rw [h, h4]
  exact ⟨a, rfl⟩

theorem deep_ne (m : Nat) (hm : 140 < m) (hm2 : m ≤ 160) : ppred_Parse.f (ofL (deepB m)) = some ([], 5) := by
  obtain ⟨h1, h2⟩ := deep_len m (by omega)
  obtain ⟨f, hf, hf2⟩ := fuel_eq
  have h := parse_pcs (deepP m) (good_deep m) h1 h2
  rw [flat_deep] at h
  obtain ⟨a, l, h3⟩ := deep_big 140 m 0 (f + 4) 0 (numP false 1 :: List.replicate m (sg false 41)) (by omega) (by omega) (by omega) (by omega)
  have h4 : takeF parseFuel (toks 0 (deepP m)) = some ([], 5, l) := by
    unfold takeF
    rw [hf, levelF, if_neg (by decide), show deepP m = List.replicate m (sg false 40) ++ (numP false 1 :: List.replicate m (sg false 41)) from rfl, h3, Option.bind_some, loopF, if_neg (by simp), Option.bind_some, if_neg (by simp)]
  rw [h, h4]
  rfl

def sumsP : Nat → List Pc
  | 0 => []
  | m + 1 => opP 4 :: numP true 1 :: sumsP m
def sumsB : Nat → Bs
  | 0 => []
  | m + 1 => [32, 43, 32, 49] ++ sumsB m
def manyB (m : Nat) : Bs := 49 :: sumsB m
theorem sumsB_snoc : ∀ m, sumsB (m + 1) = sumsB m ++ [32, 43, 32, 49] := by
  intro m
  induction m with
  | zero => rfl
  | succ m ih => show [32, 43, 32, 49] ++ sumsB (m + 1) = ([32, 43, 32, 49] ++ sumsB m) ++ [32, 43, 32, 49]; rw [ih, List.append_assoc]
theorem sumsB_len : ∀ m, (sumsB m).length = 4 * m := by
  intro m
  induction m with
  | zero => rfl
  | succ m ih => rw [sumsB, List.length_append, ih]; simp only [List.length_cons, List.length_nil]; omega
theorem sumsP_len : ∀ m, (sumsP m).length = 2 * m := by
  intro m
  induction m with
  | zero => rfl
  | succ m ih => rw [sumsP, List.length_cons, List.length_cons, ih]; omega
theorem flat_sums : ∀ m, flat (sumsP m) = sumsB m := by
  intro m
  induction m with
  | zero => rfl
  | succ m ih => rw [sumsP, sumsB, flat, flat, ih]; rfl
theorem fol_sums (m : Nat) : Follow (flat (sumsP m)).head? := by
  cases m with
  | zero => exact .inl rfl
  | succ m => exact .inr (.inl rfl)
theorem good_sums : ∀ m, Good (sumsP m) := by
  intro m
  induction m with
  | zero => trivial
  | succ m ih => exact good_cons (opP_ok 4 (by omega) (by omega) (by omega)) (good_cons (numP_ok true 1 (by omega) (by omega) _ (fol_sums m)) ih)

theorem op4 (n : Nat) (rest : List Pc) : binF (peekT (toks n (opP 4 :: rest))) = (4, 5) := by rw [op_bin n 4 rest (by omega) (by omega) (by omega)]; rfl

theorem sum_level (m n k : Nat) (hk : 4 ≤ k) : ∃ a j, levelF k 6 1 (toks n (numP true 1 :: sumsP m)) 0 = some (a, toks j (sumsP m), 0) ∧ a.length = 1 := by
  obtain ⟨k, rfl⟩ : ∃ j, k = j + 2 := ⟨k - 2, by omega⟩
  rw [levelF, if_neg (by decide), num_one _ _ _ _ _ _ (by decide), Option.bind_some, loopF, if_pos rfl]
  refine ⟨[conNode 1 1 ⟨#[]⟩ false], (numP true 1).at_ n + (numP true 1).raw.length, ?_, rfl⟩
  cases m with
  | zero => rw [if_pos (by rfl)]
  | succ m => rw [if_neg (by simp only; rw [sumsP, op4]; decide), if_pos (by simp only; rw [sumsP, op4]; decide)]

theorem sums_loop : ∀ (m n k : Nat) (a : List S53), a.length ≤ 64 → m + 6 ≤ k → ∃ b l, loopF k 1 0 a (toks n (sumsP m)) 0 = some (b, l, if a.length + 2 * m ≤ 64 then 0 else 5) ∧ (a.length + 2 * m ≤ 64 → b.length = a.length + 2 * m ∧ l = []) := by
  intro m
  induction m with
  | zero =>
    intro n k a ha hk
    obtain ⟨k, rfl⟩ : ∃ j, k = j + 1 := ⟨k - 1, by omega⟩
    refine ⟨a, [], ?_, fun _ => ⟨by omega, rfl⟩⟩
    rw [loopF, if_pos rfl, if_pos (by rfl), if_pos (by omega)]
    rfl
  | succ m ih =>
    intro n k a ha hk
    obtain ⟨k, rfl⟩ : ∃ j, k = j + 1 := ⟨k - 1, by omega⟩
    obtain ⟨x, j, hx, hl⟩ := sum_level m ((opP 4).at_ n + (opP 4).raw.length) k (by omega)
    rw [loopF, if_pos rfl, sumsP, op4, if_neg (by decide), if_neg (by decide), next_cons _ _ _ (op_kind 4), show ((5 : Int) + 1) = 6 from rfl, show ((0 : Int) + 1) = 1 from rfl, hx, Option.bind_some]
    have hln : (a ++ x ++ [opNode 4]).length = a.length + 2 := by simp only [List.length_append, List.length_cons, List.length_nil]; omega
    simp only
    by_cases h64 : 64 < (a ++ x ++ [opNode 4]).length
    · rw [if_pos h64]
      exact ⟨_, _, by rw [if_neg (by omega)]; rfl, fun h => by omega⟩
    · rw [if_neg h64, if_neg (by simp)]
      obtain ⟨b, l, hb, hb2⟩ := ih j k (a ++ x ++ [opNode 4]) (by omega) (by omega)
      rw [hln] at hb hb2
      refine ⟨b, l, ?_, fun h => ?_⟩
      · rw [hb, show a.length + 2 + 2 * m = a.length + 2 * (m + 1) by omega]
      · obtain ⟨h1, h2⟩ := hb2 (by omega)
        exact ⟨by omega, h2⟩

theorem many_take (m : Nat) (hm : m ≤ 60) : ∃ b l, takeF parseFuel (toks 0 (numP false 1 :: sumsP m)) = some (b, if 2 * m + 1 ≤ 64 then 0 else 5, l) ∧ (2 * m + 1 ≤ 64 → b.length = 2 * m + 1 ∧ l = []) := by
  obtain ⟨f, hf, hf2⟩ := fuel_eq
  obtain ⟨b, l, h, h2⟩ := sums_loop m ((numP false 1).at_ 0 + (numP false 1).raw.length) (f + 4) [conNode 1 1 ⟨#[]⟩ false] (by simp) (by omega)
  have e1 : ([conNode 1 1 ⟨#[]⟩ false] : List S53).length + 2 * m = 2 * m + 1 := by simp only [List.length_cons, List.length_nil]; omega
  rw [e1] at h h2
  unfold takeF
  rw [hf, levelF, if_neg (by decide), num_one _ _ _ _ _ _ (by decide), Option.bind_some]
  simp only
  have h' : loopF (f + 4) 1 0 [conNode 1 1 ⟨#[]⟩ false] (toks ((numP false 1).at_ 0 + (numP false 1).raw.length) (sumsP m)) 0 = some (b, l, if 2 * m + 1 ≤ 64 then 0 else 5) := h
  rw [h', Option.bind_some]
  simp only
  by_cases hc : 2 * m + 1 ≤ 64
  · obtain ⟨h3, h4⟩ := h2 hc
    rw [if_pos hc, if_pos rfl, if_neg (by omega)]
    exact ⟨b, l, rfl, fun _ => ⟨h3, h4⟩⟩
  · rw [if_neg hc, if_neg (by decide)]
    exact ⟨[], l, rfl, fun h => absurd h hc⟩

theorem many_eq (m : Nat) (hm : m ≤ 60) : ∃ b, ppred_Parse.f (ofL (manyB m)) = some (b, if 2 * m + 1 ≤ 64 then 0 else 5) ∧ (2 * m + 1 ≤ 64 → b.length = 2 * m + 1) := by
  have hg : Good (numP false 1 :: sumsP m) := good_cons (numP_ok false 1 (by omega) (by omega) _ (fol_sums m)) (good_sums m)
  have e : flat (numP false 1 :: sumsP m) = manyB m := by rw [flat, flat_sums]; rfl
  have h := parse_pcs _ hg (by rw [List.length_cons, sumsP_len]; omega) (by rw [e, manyB, List.length_cons, sumsB_len]; omega)
  obtain ⟨b, l, h1, h2⟩ := many_take m hm
  rw [e, h1, Option.bind_some] at h
  simp only at h
  by_cases hc : 2 * m + 1 ≤ 64
  · obtain ⟨h3, h4⟩ := h2 hc
    subst h4
    rw [if_pos hc, if_pos rfl, if_neg (by simp)] at h
    rw [if_pos hc]
    exact ⟨b, h, fun _ => h3⟩
  · rw [if_neg hc, if_neg (by decide)] at h
    rw [if_neg hc]
    exact ⟨[], h, fun h => absurd h hc⟩

def badL : List Bs := [[], [97, 46], [97], [40, 49], [49, 32, 50], [49, 32, 43], [110, 111, 116], [97, 46, 120, 32, 60, 32, 49, 32, 60, 32, 50], [45, 32], [83, 69, 81], [41], [97, 46, 120, 32, 61, 32, 98, 46, 120, 32, 61, 32, 99, 46, 120]]
def badA : List ByteArray := badL.map ofL
theorem bad_all : ∀ j : Nat, j < 12 → (ppred_Parse.f (rdOf ByteArray.empty badA (j : Int))).map (·.2) = some 2 := by decide +kernel
theorem bad_eq (j : Int) (h0 : 0 ≤ j) (hj : j < 12) : ∃ l, ppred_Parse.f (rdOf ByteArray.empty badA j) = some (l, 2) := by
  obtain ⟨k, rfl⟩ : ∃ k : Nat, j = k := ⟨j.toNat, by omega⟩
  obtain ⟨r, h1, h2⟩ := Option.map_eq_some_iff.mp (bad_all k (by omega))
  exact ⟨r.1, by rw [h1, ← h2]⟩

theorem next_lt (l : List S67) (h : (peekT l).f0 ≠ 0) : (nextT l).length + 1 = l.length := by
  unfold nextT
  rw [if_neg h]
  cases l with
  | nil => exact absurd rfl h
  | cons x l => simp
theorem next_le (l : List S67) : (nextT l).length ≤ l.length := by
  unfold nextT; split <;> simp
theorem bin_none (t : S67) (h : t.f0 = 0) : (binF t).1 = 0 := by
  unfold binF; rw [if_neg (by omega)]

theorem all_total : ∀ k, (∀ least depth l e, 3 * l.length + 2 ≤ k → ∃ r, levelF k least depth l e = some r ∧ r.2.1.length ≤ l.length) ∧ (∀ least depth a l e, 3 * l.length + 1 ≤ k → ∃ r, loopF k least depth a l e = some r ∧ r.2.1.length ≤ l.length) ∧ (∀ depth l e, 3 * l.length + 1 ≤ k → ∃ r, oneF k depth l e = some r ∧ r.2.1.length ≤ l.length) ∧ (∀ depth l e, 3 * l.length + 2 ≤ k → ∃ r, minusF k depth l e = some r ∧ r.2.1.length ≤ l.length) := by
  intro k
  induction k with
  | zero => exact ⟨fun _ _ _ _ h => by omega, fun _ _ _ _ _ h => by omega, fun _ _ _ h => by omega, fun _ _ _ h => by omega⟩
  | succ k ih =>
    obtain ⟨i1, i2, i3, i4⟩ := ih
    refine ⟨?_, ?_, ?_, ?_⟩
    · intro least depth l e hk
      rw [levelF]
      split
      · exact ⟨_, rfl, Nat.le_refl _⟩
      · obtain ⟨r, hr, hl⟩ := i3 depth l e (by omega)
        rw [hr, Option.bind_some]
        obtain ⟨r2, hr2, hl2⟩ := i2 least depth r.1 r.2.1 r.2.2 (by omega)
        exact ⟨r2, hr2, by omega⟩
    · intro least depth a l e hk
      rw [loopF]
      split
      · split
        · exact ⟨_, rfl, Nat.le_refl _⟩
        · rename_i hb
          have hp : (peekT l).f0 ≠ 0 := fun h => hb (bin_none _ h)
          have hn := next_lt l hp
          split
          · exact ⟨_, rfl, Nat.le_refl _⟩
          · obtain ⟨r, hr, hl⟩ := i1 ((binF (peekT l)).2 + 1) (depth + 1) (nextT l) e (by omega)
            rw [hr, Option.bind_some]
            split
            · exact ⟨_, rfl, by simp only; omega⟩
            · split
              · exact ⟨_, rfl, by simp only; omega⟩
              · obtain ⟨r2, hr2, hl2⟩ := i2 least depth (a ++ r.1 ++ [opNode (binF (peekT l)).1]) r.2.1 r.2.2 (by omega)
                exact ⟨r2, hr2, by omega⟩
      · exact ⟨_, rfl, Nat.le_refl _⟩
    · intro depth l e hk
      have hle := next_le l
      have hle2 := next_le (nextT l)
      have hle3 := next_le (nextT (nextT l))
      have L : ∀ least d e', (peekT l).f0 ≠ 0 → ∃ r, levelF k least d (nextT l) e' = some r ∧ r.2.1.length ≤ (nextT l).length := fun least d e' h => i1 least d (nextT l) e' (by have := next_lt l h; omega)
      have M : ∀ d e', (peekT l).f0 ≠ 0 → ∃ r, minusF k d (nextT l) e' = some r ∧ r.2.1.length ≤ (nextT l).length := fun d e' h => i4 d (nextT l) e' (by have := next_lt l h; omega)
      rw [oneF]
      by_cases h0 : 140 < depth
      · rw [if_pos h0]; exact ⟨_, rfl, Nat.le_refl _⟩
      rw [if_neg h0]
      by_cases h3 : (peekT l).f0 = 3
      · rw [if_pos h3]; exact ⟨_, rfl, hle⟩
      rw [if_neg h3]
      by_cases h4 : (peekT l).f0 = 4
      · rw [if_pos h4]; exact ⟨_, rfl, hle⟩
      rw [if_neg h4]
      by_cases h2 : (peekT l).f0 = 2
      · rw [if_pos h2]
        split
        · exact ⟨_, rfl, hle⟩
        · split
          · exact ⟨_, rfl, hle⟩
          · split
            · obtain ⟨r, hr, hl⟩ := L 3 (depth + 1) e (by omega)
              rw [hr, Option.bind_some]
              exact ⟨_, rfl, by simp only; omega⟩
            · exact ⟨_, rfl, hle⟩
      rw [if_neg h2]
      by_cases h5 : (peekT l).f0 = 5
      · rw [if_pos h5]
        split
        · obtain ⟨r, hr, hl⟩ := M depth e (by omega)
          exact ⟨r, hr, by omega⟩
        · split
          · obtain ⟨r, hr, hl⟩ := L 1 (depth + 1) e (by omega)
            rw [hr, Option.bind_some]
            have := next_le r.2.1
            split
            · exact ⟨_, rfl, by simp only; omega⟩
            · exact ⟨_, rfl, by simp only; omega⟩
          · exact ⟨_, rfl, hle⟩
      rw [if_neg h5]
      split
      · split
        · split
          · exact ⟨_, rfl, by simp only; omega⟩
          · exact ⟨_, rfl, by simp only; omega⟩
        · exact ⟨_, rfl, hle⟩
      · exact ⟨_, rfl, hle⟩
    · intro depth l e hk
      rw [minusF]
      split
      · exact ⟨_, rfl, next_le l⟩
      · obtain ⟨r, hr, hl⟩ := i3 (depth + 1) l e (by omega)
        rw [hr, Option.bind_some]
        exact ⟨_, rfl, hl⟩

theorem take_total (l : List S67) (h : l.length ≤ 400) : ∃ r, takeF parseFuel l = some r ∧ (r.2.1 = 0 ∨ r.1 = []) ∧ r.2.2.length ≤ l.length := by
  obtain ⟨r, hr, hl⟩ := (all_total parseFuel).1 1 0 l 0 (by unfold parseFuel; omega)
  unfold takeF
  rw [hr, Option.bind_some]
  split
  · split
    · exact ⟨_, rfl, .inr rfl, hl⟩
    · exact ⟨_, rfl, .inl rfl, hl⟩
  · exact ⟨_, rfl, .inr rfl, hl⟩

/-- Parse answers, whatever the text is. -/
theorem parse_total (s : Bs) : ∃ (l : List S53) (e : Int), ppred_Parse.f (ofL s) = some (l, e) ∧ (e = 0 ∨ l = []) := by
  obtain ⟨t, e, ht, he, hl⟩ := text_total s parseFuel (by unfold parseFuel; omega)
  unfold ppred_Parse.f
  rw [ht, Option.bind_some]
  simp only
  split
  · obtain ⟨r, hr, hr2, hr3⟩ := take_total t hl
    rw [if_neg (by omega), hr, Option.bind_some]
    split
    · split
      · exact ⟨_, _, rfl, .inr rfl⟩
      · exact ⟨_, _, rfl, .inl rfl⟩
    · exact ⟨_, _, rfl, .inr rfl⟩
  · exact ⟨_, _, rfl, .inr rfl⟩

end Go.Proofs.YtpijgeijflbmhaaDoor.P

/- Go functions of the given program come to what plain Lean functions say: walks, printed by a program of this session's (after the kit's print); no conditions beyond each theorem's own. -/
namespace Go.Proofs.YtpijgeijflbmhaaDoor.P
open Go.RowKit Go.Proofs.YtpijgeijflbmhaaDoorW.PrintWords Go.Proofs.YtpijgeijflbmhaaDoorW.PrintLast Go.Proofs.YtpijgeijflbmhaaDoorW.PrintMore
attribute [local go_sem] max2_int min2_int max_two min_two max_three min_three max_four min_four   -- for this text's walks alone
set_option linter.unusedVariables false
set_option linter.unusedSimpArgs false

/-! ### lamplighterlaw15_awake: function 11 -/
def lamplighterlaw15_awake.f  : Option (Bool) := (ppred_Parse.f (⟨#[97, 46, 120, 32, 62, 32, 51]⟩ : ByteArray)).bind fun bt200 => (if bt200.2 = 0 then (if (bt200.1.length : Int) = 3 then (if 2 < (bt200.1.length : Int) then (if ((rd_T53 bt200.1 2).f0) = 11 then (if 0 < (bt200.1.length : Int) then (some (((rd_T53 bt200.1 0).f2).toList == ([97] : List UInt8))) else (none)) else (some false)) else (none)) else (some false)) else (some false))
set_option maxHeartbeats 8000000 in
set_option maxRecDepth 100000 in
theorem lamplighterlaw15_awake.calls  (r : Bool) (w : World) (hG : Glob w) (h : lamplighterlaw15_awake.f  = some r) :
  Calls Tryd.prog 11 #[] w fun e w' => e = .returned (.bool r) ∧ Below w.heap.size w w' := by
 have HG := As.mk hG
 clear hG
 have HB := As.mk (Below.refl w.heap.size w)
 have H : ((ppred_Parse.f (⟨#[97, 46, 120, 32, 62, 32, 51]⟩ : ByteArray)).bind fun bt200 => (if bt200.2 = 0 then (if (bt200.1.length : Int) = 3 then (if 2 < (bt200.1.length : Int) then (if ((rd_T53 bt200.1 2).f0) = 11 then (if 0 < (bt200.1.length : Int) then (some (((rd_T53 bt200.1 0).f2).toList == ([97] : List UInt8))) else (none)) else (some false)) else (none)) else (some false)) else (some false))) = some r := h
 clear h
 replace H := Option.bind_eq_some_iff.mp H
 obtain ⟨⟨t200, t201⟩, A10, H⟩ := H
 replace H : (if t201 = 0 then (if (t200.length : Int) = 3 then (if 2 < (t200.length : Int) then (if ((rd_T53 t200 2).f0) = 11 then (if 0 < (t200.length : Int) then (some (((rd_T53 t200 0).f2).toList == ([97] : List UInt8))) else (none)) else (some false)) else (none)) else (some false)) else (some false)) = some r := H
 have A1 := As.mk A10
 clear A10
 by_cases c2 : t201 = 0
 ·
  rw [if_pos c2] at H
  have c2b0 : (t201 == 0) = true := beq_iff_eq.mpr c2
  have c2b1 : (t201 != 0) = false := bne_eq_false_iff_eq.mpr c2
  clear c2
  by_cases c3 : (t200.length : Int) = 3
  ·
   rw [if_pos c3] at H
   have c3b0 : ((t200.length : Int) == 3) = true := beq_iff_eq.mpr c3
   have c3b1 : ((t200.length : Int) != 3) = false := bne_eq_false_iff_eq.mpr c3
   clear c3
   replace H := ite_some H
   obtain ⟨c4, H⟩ := H
   have c4b0 : decide (2 < (t200.length : Int)) = true := decide_eq_true c4
   have c4b1 : decide (2 < t200.length) = true := decide_eq_true (by omega)
   clear c4
   by_cases c5 : ((rd_T53 t200 2).f0) = 11
   ·
    rw [if_pos c5] at H
    have c5b0 : (((rd_T53 t200 2).f0) == 11) = true := beq_iff_eq.mpr c5
    have c5b1 : (((rd_T53 t200 2).f0) != 11) = false := bne_eq_false_iff_eq.mpr c5
    clear c5
    replace H := ite_some H
    obtain ⟨c6, H⟩ := H
    have c6b0 : decide (0 < (t200.length : Int)) = true := decide_eq_true c6
    have c6b1 : decide (0 < t200.length) = true := decide_eq_true (by omega)
    clear c6
    obtain rfl := Option.some.inj H
    go_enter Tryd.func11, Tryd.ntmps11
    go_wp2_with (first | ((with_reducible refine gaC (f := 12) rfl ?_); refine goesL_ (some 4) rfl rfl Tryd.func12 (by kernel_rfl) rfl #[.string (⟨#[97, 46, 120, 32, 62, 32, 51]⟩ : ByteArray)] rfl (by simp only [List.map_toArray, List.map_cons, List.map_nil]; try rfl) ?_; (with_reducible refine (ppred_Parse.calls (⟨#[97, 46, 120, 32, 62, 32, 51]⟩ : ByteArray) t200 t201 _ ?side1 A1.out).mono ?_); (case side1 => exact Glob.below HG.out (by repeat (first | (with_reducible first | exact HB.out | apply bwA | apply bwN | apply bwD) | exact HB.out)) rfl); rintro e w7 ⟨v202, rfl, ho0, hb⟩; refine ⟨_, rfl, ?_⟩; have n0_ := As.mk (Kd.R_lower ho0 (bwZ (by repeat (first | (with_reducible first | exact HB.out | apply bwA | apply bwN | apply bwD) | exact HB.out)))); have n1_ := As.mk (bwS (by repeat (first | (with_reducible first | exact HB.out | apply bwA | apply bwN | apply bwD) | exact HB.out)) hb); clear HB; have HO203 := n0_; have HB := n1_; clear n0_ n1_; (try clear hb); (try clear hb2); (try clear hk); (try clear hi); (try clear ho0); obtain ⟨Ao8, co8, eo8⟩ := Kd.R_slice HO203.out; subst eo8; have p204 : 0 ≤ (2 : Int) := (by omega); have q204 : 2 < (t200.length : Int) := of_decide_eq_true (by first | (with_reducible assumption) | assumption); obtain ⟨ad204, e204, hx204_0, hx204_1, hx204_2, hx204_3, hx204_4, hx204_5, hx204_6⟩ := at_T53 (Kd.R_reads' HO203.out).2.2 2 p204 q204; cases e204; (try simp only [show (2 : Int).toNat = 2 from rfl, Nat.reduceMul, Nat.reduceEqDiff, Go.Addr.add, ↓reduceIte] at hx204_0); (try simp only [show (2 : Int).toNat = 2 from rfl, Nat.reduceMul, Nat.reduceEqDiff, Go.Addr.add, ↓reduceIte] at hx204_1); (try simp only [show (2 : Int).toNat = 2 from rfl, Nat.reduceMul, Nat.reduceEqDiff, Go.Addr.add, ↓reduceIte] at hx204_2); (try simp only [show (2 : Int).toNat = 2 from rfl, Nat.reduceMul, Nat.reduceEqDiff, Go.Addr.add, ↓reduceIte] at hx204_3); (try simp only [show (2 : Int).toNat = 2 from rfl, Nat.reduceMul, Nat.reduceEqDiff, Go.Addr.add, ↓reduceIte] at hx204_4); (try simp only [show (2 : Int).toNat = 2 from rfl, Nat.reduceMul, Nat.reduceEqDiff, Go.Addr.add, ↓reduceIte] at hx204_5); (try simp only [show (2 : Int).toNat = 2 from rfl, Nat.reduceMul, Nat.reduceEqDiff, Go.Addr.add, ↓reduceIte] at hx204_6); have qi204 : (2 < t200.length) = True := eq_true (by omega); (try rw [show ((2 : Int)).toNat = 2 from rfl] at hx204_0); (try rw [show 2 * 7 = 14 from rfl] at hx204_0); (try rw [show ((2 : Int)).toNat = 2 from rfl] at hx204_1); (try rw [show 2 * 7 = 14 from rfl] at hx204_1); (try rw [show ((2 : Int)).toNat = 2 from rfl] at hx204_2); (try rw [show 2 * 7 = 14 from rfl] at hx204_2); (try rw [show ((2 : Int)).toNat = 2 from rfl] at hx204_3); (try rw [show 2 * 7 = 14 from rfl] at hx204_3); (try rw [show ((2 : Int)).toNat = 2 from rfl] at hx204_4); (try rw [show 2 * 7 = 14 from rfl] at hx204_4); (try rw [show ((2 : Int)).toNat = 2 from rfl] at hx204_5); (try rw [show 2 * 7 = 14 from rfl] at hx204_5); (try rw [show ((2 : Int)).toNat = 2 from rfl] at hx204_6); (try rw [show 2 * 7 = 14 from rfl] at hx204_6); replace p204 := eq_true p204; replace q204 := eq_true q204; have p205 : 0 ≤ (0 : Int) := (by omega); have q205 : 0 < (t200.length : Int) := of_decide_eq_true (by first | (with_reducible assumption) | assumption); obtain ⟨ad205, e205, hx205_0, hx205_1, hx205_2, hx205_3, hx205_4, hx205_5, hx205_6⟩ := at_T53 (Kd.R_reads' HO203.out).2.2 0 p205 q205; obtain rfl : ad204 = ad205 := (by injection e205); have qi205 : (0 < t200.length) = True := eq_true (by omega); (try rw [show ((0 : Int)).toNat = 0 from rfl] at hx205_0); (try rw [show 0 * 7 = 0 from rfl] at hx205_0); (try rw [Addr.add_zero'] at hx205_0); (try rw [show ((0 : Int)).toNat = 0 from rfl] at hx205_1); (try rw [show 0 * 7 = 0 from rfl] at hx205_1); (try rw [Addr.add_zero'] at hx205_1); (try rw [show ((0 : Int)).toNat = 0 from rfl] at hx205_2); (try rw [show 0 * 7 = 0 from rfl] at hx205_2); (try rw [Addr.add_zero'] at hx205_2); (try rw [show ((0 : Int)).toNat = 0 from rfl] at hx205_3); (try rw [show 0 * 7 = 0 from rfl] at hx205_3); (try rw [Addr.add_zero'] at hx205_3); (try rw [show ((0 : Int)).toNat = 0 from rfl] at hx205_4); (try rw [show 0 * 7 = 0 from rfl] at hx205_4); (try rw [Addr.add_zero'] at hx205_4); (try rw [show ((0 : Int)).toNat = 0 from rfl] at hx205_5); (try rw [show 0 * 7 = 0 from rfl] at hx205_5); (try rw [Addr.add_zero'] at hx205_5); (try rw [show ((0 : Int)).toNat = 0 from rfl] at hx205_6); (try rw [show 0 * 7 = 0 from rfl] at hx205_6); (try rw [Addr.add_zero'] at hx205_6); replace p205 := eq_true p205; replace q205 := eq_true q205))
    go_ret
    exact ⟨by first | rfl | (simp [errW_none, errW_some] <;> rfl) | (simp [*, errW_none, errW_some] <;> rfl), by repeat (first | (with_reducible first | exact HB.out | apply bwA | apply bwN | apply bwD) | exact HB.out)⟩
   ·
    rw [if_neg c5] at H
    have c5b0 : (((rd_T53 t200 2).f0) == 11) = false := beq_eq_false_iff_ne.mpr c5
    have c5b1 : (((rd_T53 t200 2).f0) != 11) = true := bne_iff_ne.mpr c5
    obtain rfl := Option.some.inj H
    go_enter Tryd.func11, Tryd.ntmps11
    go_wp2_with (first | ((with_reducible refine gaC (f := 12) rfl ?_); refine goesL_ (some 4) rfl rfl Tryd.func12 (by kernel_rfl) rfl #[.string (⟨#[97, 46, 120, 32, 62, 32, 51]⟩ : ByteArray)] rfl (by simp only [List.map_toArray, List.map_cons, List.map_nil]; try rfl) ?_; (with_reducible refine (ppred_Parse.calls (⟨#[97, 46, 120, 32, 62, 32, 51]⟩ : ByteArray) t200 t201 _ ?side1 A1.out).mono ?_); (case side1 => exact Glob.below HG.out (by repeat (first | (with_reducible first | exact HB.out | apply bwA | apply bwN | apply bwD) | exact HB.out)) rfl); rintro e w9 ⟨v202, rfl, ho0, hb⟩; refine ⟨_, rfl, ?_⟩; have n0_ := As.mk (Kd.R_lower ho0 (bwZ (by repeat (first | (with_reducible first | exact HB.out | apply bwA | apply bwN | apply bwD) | exact HB.out)))); have n1_ := As.mk (bwS (by repeat (first | (with_reducible first | exact HB.out | apply bwA | apply bwN | apply bwD) | exact HB.out)) hb); clear HB; have HO203 := n0_; have HB := n1_; clear n0_ n1_; (try clear hb); (try clear hb2); (try clear hk); (try clear hi); (try clear ho0); obtain ⟨Ao10, co10, eo10⟩ := Kd.R_slice HO203.out; subst eo10; have p204 : 0 ≤ (2 : Int) := (by omega); have q204 : 2 < (t200.length : Int) := of_decide_eq_true (by first | (with_reducible assumption) | assumption); obtain ⟨ad204, e204, hx204_0, hx204_1, hx204_2, hx204_3, hx204_4, hx204_5, hx204_6⟩ := at_T53 (Kd.R_reads' HO203.out).2.2 2 p204 q204; cases e204; (try simp only [show (2 : Int).toNat = 2 from rfl, Nat.reduceMul, Nat.reduceEqDiff, Go.Addr.add, ↓reduceIte] at hx204_0); (try simp only [show (2 : Int).toNat = 2 from rfl, Nat.reduceMul, Nat.reduceEqDiff, Go.Addr.add, ↓reduceIte] at hx204_1); (try simp only [show (2 : Int).toNat = 2 from rfl, Nat.reduceMul, Nat.reduceEqDiff, Go.Addr.add, ↓reduceIte] at hx204_2); (try simp only [show (2 : Int).toNat = 2 from rfl, Nat.reduceMul, Nat.reduceEqDiff, Go.Addr.add, ↓reduceIte] at hx204_3); (try simp only [show (2 : Int).toNat = 2 from rfl, Nat.reduceMul, Nat.reduceEqDiff, Go.Addr.add, ↓reduceIte] at hx204_4); (try simp only [show (2 : Int).toNat = 2 from rfl, Nat.reduceMul, Nat.reduceEqDiff, Go.Addr.add, ↓reduceIte] at hx204_5); (try simp only [show (2 : Int).toNat = 2 from rfl, Nat.reduceMul, Nat.reduceEqDiff, Go.Addr.add, ↓reduceIte] at hx204_6); have qi204 : (2 < t200.length) = True := eq_true (by omega); (try rw [show ((2 : Int)).toNat = 2 from rfl] at hx204_0); (try rw [show 2 * 7 = 14 from rfl] at hx204_0); (try rw [show ((2 : Int)).toNat = 2 from rfl] at hx204_1); (try rw [show 2 * 7 = 14 from rfl] at hx204_1); (try rw [show ((2 : Int)).toNat = 2 from rfl] at hx204_2); (try rw [show 2 * 7 = 14 from rfl] at hx204_2); (try rw [show ((2 : Int)).toNat = 2 from rfl] at hx204_3); (try rw [show 2 * 7 = 14 from rfl] at hx204_3); (try rw [show ((2 : Int)).toNat = 2 from rfl] at hx204_4); (try rw [show 2 * 7 = 14 from rfl] at hx204_4); (try rw [show ((2 : Int)).toNat = 2 from rfl] at hx204_5); (try rw [show 2 * 7 = 14 from rfl] at hx204_5); (try rw [show ((2 : Int)).toNat = 2 from rfl] at hx204_6); (try rw [show 2 * 7 = 14 from rfl] at hx204_6); replace p204 := eq_true p204; replace q204 := eq_true q204))
    go_ret
    exact ⟨by first | rfl | (simp [errW_none, errW_some] <;> rfl) | (simp [*, errW_none, errW_some] <;> rfl), by repeat (first | (with_reducible first | exact HB.out | apply bwA | apply bwN | apply bwD) | exact HB.out)⟩
  ·
   rw [if_neg c3] at H
   have c3b0 : ((t200.length : Int) == 3) = false := beq_eq_false_iff_ne.mpr c3
   have c3b1 : ((t200.length : Int) != 3) = true := bne_iff_ne.mpr c3
   obtain rfl := Option.some.inj H
   go_enter Tryd.func11, Tryd.ntmps11
   go_wp2_with (first | ((with_reducible refine gaC (f := 12) rfl ?_); refine goesL_ (some 4) rfl rfl Tryd.func12 (by kernel_rfl) rfl #[.string (⟨#[97, 46, 120, 32, 62, 32, 51]⟩ : ByteArray)] rfl (by simp only [List.map_toArray, List.map_cons, List.map_nil]; try rfl) ?_; (with_reducible refine (ppred_Parse.calls (⟨#[97, 46, 120, 32, 62, 32, 51]⟩ : ByteArray) t200 t201 _ ?side1 A1.out).mono ?_); (case side1 => exact Glob.below HG.out (by repeat (first | (with_reducible first | exact HB.out | apply bwA | apply bwN | apply bwD) | exact HB.out)) rfl); rintro e w11 ⟨v202, rfl, ho0, hb⟩; refine ⟨_, rfl, ?_⟩; have n0_ := As.mk (Kd.R_lower ho0 (bwZ (by repeat (first | (with_reducible first | exact HB.out | apply bwA | apply bwN | apply bwD) | exact HB.out)))); have n1_ := As.mk (bwS (by repeat (first | (with_reducible first | exact HB.out | apply bwA | apply bwN | apply bwD) | exact HB.out)) hb); clear HB; have HO203 := n0_; have HB := n1_; clear n0_ n1_; (try clear hb); (try clear hb2); (try clear hk); (try clear hi); (try clear ho0); obtain ⟨Ao12, co12, eo12⟩ := Kd.R_slice HO203.out; subst eo12))
   go_ret
   exact ⟨by first | rfl | (simp [errW_none, errW_some] <;> rfl) | (simp [*, errW_none, errW_some] <;> rfl), by repeat (first | (with_reducible first | exact HB.out | apply bwA | apply bwN | apply bwD) | exact HB.out)⟩
 ·
  rw [if_neg c2] at H
  have c2b0 : (t201 == 0) = false := beq_eq_false_iff_ne.mpr c2
  have c2b1 : (t201 != 0) = true := bne_iff_ne.mpr c2
  obtain rfl := Option.some.inj H
  go_enter Tryd.func11, Tryd.ntmps11
  go_wp2_with (first | ((with_reducible refine gaC (f := 12) rfl ?_); refine goesL_ (some 4) rfl rfl Tryd.func12 (by kernel_rfl) rfl #[.string (⟨#[97, 46, 120, 32, 62, 32, 51]⟩ : ByteArray)] rfl (by simp only [List.map_toArray, List.map_cons, List.map_nil]; try rfl) ?_; (with_reducible refine (ppred_Parse.calls (⟨#[97, 46, 120, 32, 62, 32, 51]⟩ : ByteArray) t200 t201 _ ?side1 A1.out).mono ?_); (case side1 => exact Glob.below HG.out (by repeat (first | (with_reducible first | exact HB.out | apply bwA | apply bwN | apply bwD) | exact HB.out)) rfl); rintro e w13 ⟨v202, rfl, ho0, hb⟩; refine ⟨_, rfl, ?_⟩; have n0_ := As.mk (Kd.R_lower ho0 (bwZ (by repeat (first | (with_reducible first | exact HB.out | apply bwA | apply bwN | apply bwD) | exact HB.out)))); have n1_ := As.mk (bwS (by repeat (first | (with_reducible first | exact HB.out | apply bwA | apply bwN | apply bwD) | exact HB.out)) hb); clear HB; have HO203 := n0_; have HB := n1_; clear n0_ n1_; (try clear hb); (try clear hb2); (try clear hk); (try clear hi); (try clear ho0)))
  go_ret
  exact ⟨by first | rfl | (simp [errW_none, errW_some] <;> rfl) | (simp [*, errW_none, errW_some] <;> rfl), by repeat (first | (with_reducible first | exact HB.out | apply bwA | apply bwN | apply bwD) | exact HB.out)⟩

-- NOT PRINTED: function 41 (ppred_parser_wrong)

-- NOT PRINTED: function 66 (ppred_parser_minus)

-- NOT PRINTED: function 42 (ppred_parser_one)

-- NOT PRINTED: function 29 (ppred_parser_level)

-- NOT PRINTED: function 16 (ppred_Take)

-- NOT PRINTED: function 30 (api_Tok)

-- NOT PRINTED: function 17 (lex_From)

-- NOT PRINTED: function 5 (lamplighterlaw15_PpredBad)

/-! ### lamplighterref11_Number: function 10 -/

end Go.Proofs.YtpijgeijflbmhaaDoor.P

/- PpredBad's walk: the law's code answers true, whatever comes in. -/
namespace Go.Proofs.YtpijgeijflbmhaaDoor.P
open Go.RowKit Go.Proofs.YtpijgeijflbmhaaDoorW.PrintWords Go.Proofs.YtpijgeijflbmhaaDoorW.PrintLast Go.Proofs.YtpijgeijflbmhaaDoorW.PrintMore
attribute [local go_sem] max2_int min2_int max_two min_two max_three min_three max_four min_four
set_option linter.unusedVariables false

theorem bits_nat (x : Int) (m : Nat) (hm : m < 1000000) : ∃ j : Nat, Go.bits .and .i64 x (m : Int) = (j : Int) ∧ j ≤ m := by
  have h1 : (BitVec.ofInt 64 x &&& BitVec.ofInt 64 (m : Int)).toNat ≤ m := by
    rw [BitVec.toNat_and]
    refine Nat.le_trans Nat.and_le_right ?_
    rw [BitVec.toNat_ofInt]
    omega
  refine ⟨(BitVec.ofInt 64 x &&& BitVec.ofInt 64 (m : Int)).toNat, ?_, h1⟩
  show IntKind.i64.wrap ((BitVec.ofInt 64 x &&& BitVec.ofInt 64 (m : Int)).toNat : Int) = _
  rw [i64_w, w64 _ (by omega) (by omega)]

/-- What a call of Parse leaves, and what it says. -/
def ParsePost (w : World) (l : List S53) (er : Int) (e : Ending) (w' : World) : Prop := ∃ v0 : Value, e = .returned (.tuple #[v0, .int .i64 er]) ∧ Kd.R k53 53 w' w.heap.size (fun _ => True) v0 l ∧ Below w.heap.size w w'
theorem parse_at (s : ByteArray) (l : List S53) (er : Int) (w : World) (hG : Glob w) (h : ppred_Parse.f s = some (l, er)) : Calls Tryd.prog 12 #[.string s] w (ParsePost w l er) := ppred_Parse.calls s l er w hG h

theorem reps_strs (w : World) (base : Nat) (ok : Nat → Prop) : ∀ xs : List ByteArray, Reps (Kd.M Kd.string w base ok) 1 xs (xs.map Value.string) := by
  intro xs
  induction xs with
  | nil => exact Reps.none _ _
  | cons x xs ih => exact Reps.one rfl ih
/-- What Parse says of a text. -/
def pl (x : ByteArray) : List S53 := ((ppred_Parse.f x).getD ([], 0)).1
def pe (x : ByteArray) : Int := ((ppred_Parse.f x).getD ([], 0)).2
theorem ofL_data (x : ByteArray) : ofL x.data.toList = x := rfl
theorem p_eq (x : ByteArray) : ppred_Parse.f x = some (pl x, pe x) ∧ (pe x = 0 ∨ pl x = []) := by
  obtain ⟨l, e, h, ho⟩ := parse_total x.data.toList
  rw [ofL_data] at h
  unfold pl pe
  rw [h]
  exact ⟨rfl, ho⟩
theorem parse_any (x : ByteArray) (w : World) (hG : Glob w) : Calls Tryd.prog 12 #[.string x] w (ParsePost w (pl x) (pe x)) := ppred_Parse.calls x _ _ w hG (p_eq x).1

def deepQ (k m : Nat) : Bs := List.replicate k 40 ++ ([49] ++ List.replicate m 41)
theorem awake_ok : lamplighterlaw15_awake.f = some true := by decide +kernel
theorem take_empty : takeF parseFuel [] = some ([], 2, []) := by
  obtain ⟨f, hf, hf2⟩ := fuel_eq
  unfold takeF
  rw [hf]
  rfl
theorem deepQ_zero (k : Nat) : ofL (List.replicate k 40) ++ ⟨#[49]⟩ = ofL (deepQ k 0) := by
  unfold deepQ; rw [← ofL_app]; rfl
theorem deepQ_succ (k m : Nat) : ofL (deepQ k m) ++ ⟨#[41]⟩ = ofL (deepQ k (m + 1)) := by
  show ofL _ ++ ofL [41] = _
  rw [ofL_app]
  unfold deepQ
  rw [List.replicate_succ', List.append_assoc, List.append_assoc]
theorem deepQ_len (k m : Nat) : (ofL (deepQ k m)).size = 1 + k + m := by
  rw [ofL_size]; unfold deepQ; simp only [List.length_append, List.length_replicate, List.length_cons, List.length_nil]; omega
theorem manyB_succ (m : Nat) : ofL (manyB m) ++ ⟨#[32, 43, 32, 49]⟩ = ofL (manyB (m + 1)) := by
  unfold manyB
  rw [sumsB_snoc, ← List.cons_append, ← ofL_app]; rfl
theorem from_nil (w : World) : Calls Tryd.prog 17 #[.slice none 0 0] w fun e w' => ∃ gs u, e = .returned (.pointer (some ⟨gs, 0, none⟩)) ∧ Src u w' gs [] ∧ Below u.heap.size u w' ∧ Below w.heap.size w u ∧ Below w.heap.size w w' :=
  from_calls none 0 [] w ⟨rfl, by decide, fun h => absurd h (by decide)⟩ (Nat.zero_le _) (Nat.zero_le _)
theorem take_none (gs : Nat) (w0 w : World) (hI : Src w0 w gs []) (hB : Below w0.heap.size w0 w) : Calls Tryd.prog 16 #[.pointer (some ⟨gs, 0, none⟩)] w (TPost w0 w gs [] 2 []) :=
  take_calls parseFuel parseFuel_le gs [] ([], 2, []) take_empty w0 w hI hB
theorem str_eq {a b : ByteArray} (h : a = b) : Value.string a = .string b := by rw [h]

set_option maxHeartbeats 8000000 in
set_option maxRecDepth 100000 in
theorem bad_calls (s : ByteArray) (n : Int) (w : World) (hn : (Lit.int .i64 n).wf = true) (hs : s.size ≤ 140737488351232) (hG : Glob w) :
    Calls Tryd.prog 5 #[.string s, .int .i64 n] w fun e w' => e = .returned (.bool true) ∧ Below w.heap.size w w' := by
  obtain ⟨j, hj, hj2⟩ := bits_nat n 31 (by omega)
  obtain ⟨q, hq, hq2⟩ := bits_nat n 255 (by omega)
  obtain ⟨i, hi, hi2⟩ := bits_nat n 15 (by omega)
  have hj' : Go.bits .and .i64 n 31 = (j : Int) := hj
  have hq' : Go.bits .and .i64 n 255 = (q : Int) := hq
  have hi' : Go.bits .and .i64 n 15 = (i : Int) := hi
  clear hj hq hi
  obtain ⟨ji, hji⟩ : ∃ ji : Int, Int.tmod (q : Int) 12 = ji := ⟨_, rfl⟩
  have hji0 : 0 ≤ ji ∧ ji < 12 := by rw [← hji, Int.tmod_eq_emod_of_nonneg (by omega)]; omega
  have p0 : decide (0 ≤ ji) = true := decide_eq_true hji0.1
  have p1 : decide (ji < 12) = true := decide_eq_true hji0.2
  have p2 : decide (ji < ((badA.length : Nat) : Int)) = true := decide_eq_true hji0.2
  have p3 : 0 ≤ ji ∧ ji < ((badA.length : Nat) : Int) := hji0
  have HJ := As.mk hji0
  obtain ⟨l4, h4⟩ := bad_eq ji hji0.1 hji0.2
  have H4 := As.mk h4
  clear hji0 h4
  obtain ⟨ld, ed, hd, hd2⟩ : ∃ ld ed, ppred_Parse.f (ofL (deepB (120 + j))) = some (ld, ed) ∧ (120 + j ≤ 140 ∧ ed = 0 ∨ 140 < 120 + j ∧ ed = 5) := by
    by_cases h : 120 + j ≤ 140
    · obtain ⟨l, hl⟩ := deep_eq (120 + j) h
      exact ⟨l, 0, hl, .inl ⟨h, rfl⟩⟩
    · exact ⟨[], 5, deep_ne (120 + j) (by omega) (by omega), .inr ⟨by omega, rfl⟩⟩
  obtain ⟨lm, em, hm, hm2⟩ : ∃ lm em, ppred_Parse.f (ofL (manyB (25 + i))) = some (lm, em) ∧ (2 * (25 + i) + 1 ≤ 64 ∧ em = 0 ∧ lm.length = 2 * (25 + i) + 1 ∨ 64 < 2 * (25 + i) + 1 ∧ em = 5) := by
    obtain ⟨b, hb, hb2⟩ := many_eq (25 + i) (by omega)
    by_cases h : 2 * (25 + i) + 1 ≤ 64
    · exact ⟨b, 0, by rw [hb, if_pos h], .inl ⟨h, rfl, hb2 h⟩⟩
    · exact ⟨b, 5, by rw [hb, if_neg h], .inr ⟨by omega, rfl⟩⟩
  have HD := As.mk hd
  have HD2 := As.mk hd2
  have HM := As.mk hm
  have HM2 := As.mk hm2
  clear hd hd2 hm hm2
  have HG := As.mk hG
  clear hG
  go_enter Tryd.func5, Tryd.ntmps5
  go_upto_region 1 with (fail)
  go_cut [5] (fun v5 wc => ∃ X : ByteArray, v5 = .string X ∧ w = wc)
  case first =>
    go_wp2
    all_goals
      go_meet
      case rel => exact ⟨_, rfl, rfl⟩
  case rest =>
    obtain ⟨X, rfl, rfl⟩ := hcut
    go_upto_region 2 with (fail)
    go_cut [6, 7] (fun v6 v7 wd => ∃ (l : List S53) (er : Int) (A : Option Addr) (c : Nat), v6 = .slice A l.length c ∧ v7 = .int .i64 er ∧ As (er = 0 ∨ l = []) ∧ As (Below w.heap.size w wd))
    case first =>
      go_wp2_with ((go_at_call 12; (with_reducible refine (parse_any _ _ HG.out).mono ?_); rintro e1 w1 ⟨v1, rfl, hr, hb⟩; have HB := As.mk hb; clear hb; obtain ⟨A1, c1, e1⟩ := Kd.R_slice hr; subst e1; clear hr))
      all_goals
        go_meet
        case rel => exact ⟨_, _, _, _, rfl, rfl, ⟨(p_eq _).2⟩, HB⟩
    case rest =>
      obtain ⟨l, er, A, c, rfl, rfl, HE, HB⟩ := hcut
      go_wp2_with (first
        | ((with_reducible refine gate_dst (N := 36) rfl ?_); refine Kd.R_lit Kd.string _ 9 ?hg (N := 36) ?hd (xs := badA) (inner := [.string ⟨#[]⟩, .string ⟨#[97, 46]⟩, .string ⟨#[97]⟩, .string ⟨#[40, 49]⟩, .string ⟨#[49, 32, 50]⟩, .string ⟨#[49, 32, 43]⟩, .string ⟨#[110, 111, 116]⟩, .string ⟨#[97, 46, 120, 32, 60, 32, 49, 32, 60, 32, 50]⟩, .string ⟨#[45, 32]⟩, .string ⟨#[83, 69, 81]⟩, .string ⟨#[41]⟩, .string ⟨#[97, 46, 120, 32, 61, 32, 98, 46, 120, 32, 61, 32, 99, 46, 120]⟩]) (ok := fun _ => True) (okp := fun _ => True) ?hr ?hp (fun _ hk => hk) trivial (Below.refl _ _) (Nat.le_refl _) (by decide) ?_; (case hd => rfl); (case hg => rfl); (case hr => first | (go_simp; done) | (go_simp; rfl)); (case hp => exact reps_strs _ _ _ badA); intro v8 w2 ho hb hg_ hnew_; clear hg_ hnew_; have HO := As.mk ho; have HB2 := As.mk (bwS HB.out hb); clear ho hb; obtain ⟨A8, c8, e8⟩ := Kd.R_slice HO.out; subst e8; obtain ⟨ad, ea, hx⟩ := Kd.at_string (Kd.R_reads' HO.out).2.2 ji HJ.out.1 HJ.out.2; cases ea)
        | (go_at_call 12; (with_reducible refine (parse_at (rdOf ByteArray.empty badA ji) l4 2 _ (Glob.below HG.out HB2.out rfl) H4.out).mono ?_); rintro e1 w3 ⟨v3, rfl, hr, hb⟩; have HB3 := As.mk (bwS HB2.out hb); clear hb; obtain ⟨A3, c3, e3⟩ := Kd.R_slice hr; subst e3; clear hr))

      go_loop [11, 14] (fun d i => ∃ m : Nat, m ≤ 120 + j ∧ i = .int .i64 m ∧ d = .string (ofL (List.replicate m 40))) (fun _ i => 120 + j - (intOf i).toNat)
      case atStart => exact ⟨0, Nat.zero_le _, rfl, rfl⟩
      case round =>
        obtain ⟨m, hm, rfl, rfl⟩ := hrel
        by_cases hlt : m < 120 + j
        · have z1 : (9223372036854775807 < (ofL (List.replicate m 40)).size + 1) = False := eq_false (by rw [ofL_size, List.length_replicate]; omega)
          have z2 : ((ofL (List.replicate m 40)).size + 1 ≤ 9223372036854775807) = True := eq_true (by rw [ofL_size, List.length_replicate]; omega)
          have z3 : decide ((m : Int) < 120 + (j : Int)) = true := decide_eq_true (by omega)
          go_wp2
          go_round
          case rel => exact ⟨m + 1, by omega, by go_num, by rw [List.replicate_succ', ← ofL_app]; rfl⟩
          case measure => simp [intOf]; omega
        · obtain rfl : m = 120 + j := by omega
          have z3 : decide (((120 + j : Nat) : Int) < 120 + (j : Int)) = false := decide_eq_false (by omega)
          have z4 : (9223372036854775807 < (ofL (List.replicate (120 + j) 40)).size + 1) = False := eq_false (by rw [ofL_size, List.length_replicate]; omega)
          have z5 : ((ofL (List.replicate (120 + j) 40)).size + 1 ≤ 9223372036854775807) = True := eq_true (by rw [ofL_size, List.length_replicate]; omega)
          go_wp2
          go_loop [11, 15] (fun d i => ∃ m : Nat, m ≤ 120 + j ∧ i = .int .i64 m ∧ d = .string (ofL (deepQ (120 + j) m))) (fun _ i => 120 + j - (intOf i).toNat)
          case atStart => exact ⟨0, Nat.zero_le _, rfl, str_eq (deepQ_zero _)⟩
          case round =>
            clear z3 z4 z5
            obtain ⟨m, hm, rfl, rfl⟩ := hrel
            have hsz : (ofL (deepQ (120 + j) m)).size = 121 + j + m := by rw [deepQ_len]; omega
            have HZ := As.mk hsz
            clear hsz
            by_cases hlt : m < 120 + j
            · have z1 : (9223372036854775807 < (ofL (deepQ (120 + j) m)).size + 1) = False := eq_false (by rw [HZ.out]; omega)
              have z2 : ((ofL (deepQ (120 + j) m)).size + 1 ≤ 9223372036854775807) = True := eq_true (by rw [HZ.out]; omega)
              have z3 : decide ((m : Int) < 120 + (j : Int)) = true := decide_eq_true (by omega)
              go_wp2
              go_round
              case rel => exact ⟨m + 1, by omega, by go_num, str_eq (deepQ_succ _ _)⟩
              case measure => simp [intOf]; omega
            · obtain rfl : m = 120 + j := by omega
              have z3 : decide (((120 + j : Nat) : Int) < 120 + (j : Int)) = false := decide_eq_false (by omega)
              go_wp2
              go_loop [12, 16] (fun d x => ∃ m : Nat, m ≤ 25 + i ∧ x = .int .i64 m ∧ d = .string (ofL (manyB m))) (fun _ x => 25 + i - (intOf x).toNat)
              case atStart => exact ⟨0, Nat.zero_le _, rfl, rfl⟩
              case round =>
                clear z3
                obtain ⟨m, hm, rfl, rfl⟩ := hrel
                have hsz : (ofL (manyB m)).size = 1 + 4 * m := by rw [ofL_size, manyB, List.length_cons, sumsB_len]; omega
                have HY := As.mk hsz
                clear hsz
                by_cases hlt : m < 25 + i
                · have z1 : (9223372036854775807 < (ofL (manyB m)).size + 4) = False := eq_false (by rw [HY.out]; omega)
                  have z2 : ((ofL (manyB m)).size + 4 ≤ 9223372036854775807) = True := eq_true (by rw [HY.out]; omega)
                  have z3 : decide ((m : Int) < 25 + (i : Int)) = true := decide_eq_true (by omega)
                  go_wp2
                  go_round
                  case rel => exact ⟨m + 1, by omega, by go_num, str_eq (manyB_succ _)⟩
                  case measure => simp [intOf]; omega
                · obtain rfl : m = 25 + i := by omega
                  have z3 : decide (((25 + i : Nat) : Int) < 25 + (i : Int)) = false := decide_eq_false (by omega)
                  have HDd : As (ppred_Parse.f (ofL (deepQ (120 + j) (120 + j))) = some (ld, ed)) := HD
                  clear HD HY HZ
                  go_upto_region 24 with (first
                    | (go_at_call 12; (with_reducible refine (parse_at (ofL (deepQ (120 + j) (120 + j))) _ _ _ (Glob.below HG.out HB3.out rfl) HDd.out).mono ?_); rintro e1 w4 ⟨v4, rfl, hr, hb⟩; have HB4 := As.mk (bwS HB3.out hb); clear hb; obtain ⟨A4, c4, e4⟩ := Kd.R_slice hr; subst e4; clear hr)
                    | (go_at_call 12; (with_reducible refine (parse_at (ofL (manyB (25 + i))) _ _ _ (Glob.below HG.out HB4.out rfl) HM.out).mono ?_); rintro e1 w5 ⟨v5, rfl, hr, hb⟩; have HB5 := As.mk (bwS HB4.out hb); clear hb; obtain ⟨A5, c5, e5⟩ := Kd.R_slice hr; subst e5; clear hr)
                    | (go_at_call 16; (with_reducible refine (take_nil _).mono ?_); rintro e1 w6 ⟨rfl, rfl⟩)
                    | (go_at_call 17; (with_reducible refine (from_nil _).mono ?_); rintro e1 w7 ⟨gs, u, rfl, hi, hb, hu, hb2⟩; have HI7 := As.mk hi; have HB7 := As.mk hb; have HU := As.mk (bwS HB5.out hu); clear hi hb hu hb2))
                  have HE2 : (er == 0) = true ∨ (er == 0) = false ∧ l = [] := by
                    rcases HE.out with h | h
                    · exact .inl (by simp [h])
                    · by_cases h0 : er = 0
                      · exact .inl (by simp [h0])
                      · exact .inr ⟨by simp [h0], h⟩
                  rcases HE2 with g1 | ⟨g1, rfl⟩
                  all_goals
                    rcases HD2.out with ⟨g2, rfl⟩ | ⟨g2, rfl⟩
                  all_goals
                    rcases HM2.out with ⟨g4, rfl, g6⟩ | ⟨g4, rfl⟩
                  all_goals
                    first
                      | have y1 : decide (120 + (j : Int) ≤ 140) = true := decide_eq_true (by omega)
                      | have y1 : decide (120 + (j : Int) ≤ 140) = false := decide_eq_false (by omega)
                    first
                      | have y2 : decide (2 * (25 + (i : Int)) + 1 ≤ 64) = true := decide_eq_true (by omega)
                      | have y2 : decide (2 * (25 + (i : Int)) + 1 ≤ 64) = false := decide_eq_false (by omega)
                    first
                      | have y3 : ((lm.length : Int) == 2 * (25 + (i : Int)) + 1) = true := by rw [g6]; simp
                      | skip
                    clear HE HD2 HM2 g2 g4
                    try clear g6
                    go_wp2_with (first
                      | (go_at_call 16; (with_reducible refine (take_none gs u _ HI7.out HB7.out).mono ?_); rintro e1 w8 ⟨v8, rfl, hr, hi, hb, hk⟩; have HB8 := As.mk (bwS HU.out hb); clear hi hb hk; obtain ⟨A9, c9, e9⟩ := Kd.R_slice hr; subst e9; clear hr)
                      | (go_at_call 11; (with_reducible refine (lamplighterlaw15_awake.calls true _ (Glob.below HG.out HB8.out rfl) awake_ok).mono ?_); rintro e1 w9 ⟨rfl, hb⟩; have HB9 := As.mk (bwS HB8.out hb); clear hb))
                    go_ret
                    exact ⟨rfl, HB9.out⟩

end Go.Proofs.YtpijgeijflbmhaaDoor.P

-- PRINTED WORDS (module Derived/Print/Sized.lean): go-gate-2's, for the rows of laws over slices: an AI agent of Go's test side, Tue Nov 17 2026; no person has read it. Lean checks it.
namespace Go.Proofs.YtpijgeijflbmhaaDoorW.PrintWords
open Go.ChangeShapes Go.WideShapes
end Go.Proofs.YtpijgeijflbmhaaDoorW.PrintWords

/- PpredBad: the row, and its tied card. -/
namespace Go.Proofs.YtpijgeijflbmhaaDoor.PpredBadC
open Go.ChangeShapes Go.WideShapes Go.ChangeAt Go.RowKit
open Go.ChangeMaps (open_string shut_string)
set_option linter.unusedVariables false
theorem own : ownKnob Tryd.prog.godebug = none := by kernel_rfl
set_option maxRecDepth 100000 in
theorem lifted (os : Os) (started : os.Started) (H : Type) (enc : TypeId × Value → H) :
    ReturnsInHanded {} Tryd.checked os 5 .any (fun w args => (Rows.ppredBadSpec.pre enc Tryd.prog Tryd.f5 Rows.ppredBadRow.domain false w args ∧ laidMetH Tryd.prog P.laidL w) ∧ sizedMet enc Tryd.prog Tryd.f5 (OpenSpec.ofChange Rows.ppredBadSpec) false w args)
      (Rows.ppredBadSpec.post enc Tryd.prog Tryd.f5 false true false false) := by
  refine P.of_change_laid (C := Tryd.checked) (X := fun w _ => laidMetH Tryd.prog P.laidL w) (fun _ _ _ hh h => h.of_heap hh) own started (by kernel_rfl) Tryd.func5
    (ChangeSpec.witness_shaped (enc := enc) (C := Tryd.checked) (os := os) (X := fun w _ => laidMetH Tryd.prog P.laidL w) false (World.laidAll Tryd.prog os P.laidL) #[.string ByteArray.empty, .int .i64 0] 8 (World.laidAll_os _ _ _)
      (World.shaped_of_ZipB (by kernel_rfl) (by kernel_rfl)) (by kernel_rfl) (by kernel_rfl) (by kernel_rfl)
      (by rw [MakeChecks.laidMetH_plain _ _ _ (by kernel_rfl)]; exact laidMet_laidAll _ (by kernel_rfl) (by kernel_rfl))) ?_
  intro W base args ds gs before hval0 hW hcnd hsz0 hL hS _
  have hG := P.glob_of hL hS
  have hsz : (DataW.weightsEach Tryd.prog (Tryd.f5.params.toList ++ Rows.ppredBadSpec.plain.varTypes Tryd.prog) (ds ++ gs)).all (· ≤ reachBytes) = true := hsz0
  have hval : ∀ (j : Nat) t v, Tryd.f5.params[j]? = some t → args[j]? = some v → Value.okWide Tryd.prog W .any base t v := hval0
  have hW' := hW
  obtain ⟨p, q, hA0, hV, rfl, hfz, hnd⟩ := hW
  have hA : DataW.TrodAll enc Tryd.prog W 0 (fun _ => true) true Tryd.f5.params.toList args.toList ds p := hA0
  rw [Tryd.params5] at hA hval hsz
  obtain ⟨v0, vs0, d0, ds0, p0, q0, hargs, rfl, rfl, h0, r0⟩ := trodAll_cons hA
  obtain ⟨v1, vs1, d1, ds1, p1, q1, rfl, rfl, rfl, h1, r1⟩ := trodAll_cons r0
  obtain ⟨rfl, rfl, rfl⟩ := trodAll_nil r1
  obtain rfl : args = #[v0, v1] := by cases args; simp_all
  obtain ⟨rfl, rfl⟩ := trodVars_none hV
  obtain ⟨a0, rfl, rfl, rfl, y0⟩ := open_string Tryd.underlying9 (hval 0 9 v0 rfl rfl) h0
  have w0 : a0.size ≤ 140737488351232 := by
    have z := sized_string hsz (j := 0) (t := 9) rfl rfl
    rw [Array.length_toList] at z
    exact z
  obtain ⟨a1, rfl, rfl, rfl, w1⟩ := open_int Tryd.underlying3 (hval 1 3 v1 rfl rfl) h1
  clear hA0 hval0 hsz0 hsz
  refine (P.bad_calls a0 a1 W w1 w0 hG).mono fun e W' ⟨he, bel⟩ => ?_
  subst he
  exact ⟨_, rfl, _, _, _, [], _, [], hW', trodAll_mk1 (shut_bool Tryd.underlying4 _), (trodAll_cons_mk (shut_string Tryd.underlying9 y0) (trodAll_cons_mk (shut_int Tryd.underlying3 w1) trodAll_mk0)), rfl, bel.frame _, fun h => by cases h⟩

theorem holds : Rows.PpredBadSaid :=
  OpenClaim.holds_of_wide 5 Tryd.f5 rfl rfl rfl rfl rfl rfl rfl ⟨rfl, rfl, rfl, rfl, rfl⟩ rfl rfl rfl rfl rfl (by kernel_rfl) Tryd.func5 (by kernel_rfl)
    (of_decide_eq_true (by kernel_rfl)) (by unfold Func.isWrapper; first | (rw [if_pos (by decide +kernel)]; kernel_rfl) | (rw [if_neg (by decide +kernel)]; exact ⟨rfl, rfl⟩))
    (fun os started H enc _ => lifted os started H enc)

end Go.Proofs.YtpijgeijflbmhaaDoor.PpredBadC
namespace Go.Proofs.YtpijgeijflbmhaaDoor
theorem ppredBad_card : Rows.PpredBadCardSaid :=
  Claim7.holds_tied_plain_at .later [] [.data, .widerDeep, .data, .pinned] true (true, "9e8a413c664d87c9377098e2c9af7f60accc99a0e040eec980f774eab2c6e035") true PpredBadC.holds (fun _ h => by cases h) (by kernel_rfl) (fun _ h => by cases h) ppredBad_row_tie rfl ⟨rfl, rfl⟩ (by kernel_rfl) rfl
    (fun f fn hf hfn => by
      obtain rfl : f = 5 := Option.some.inj ((show Tryd.prog.funcNamed "lamplighter/lamplighterlaw15.PpredBad" = some 5 by kernel_rfl).symm.trans hf) |>.symm
      obtain rfl : fn = Tryd.f5 := (Option.some.inj (Tryd.func5.symm.trans hfn)).symm
      exact ⟨by kernel_rfl, fun j t ht => by
        rw [Tryd.params5] at ht
        have hm : t ∈ [9, 3] := by simpa using Array.mem_of_getElem? ht
        have hall : ([9, 3].all fun u => !Tryd.prog.wantsStandIn u) = true := by kernel_rfl
        exact (show Tryd.prog.wantsStandIn t = false by simpa using List.all_eq_true.1 hall t hm)⟩)
    (by kernel_rfl)
#print axioms ppredBad_card
end Go.Proofs.YtpijgeijflbmhaaDoor

