/- Words that the walks of this claim use; no conditions beyond each theorem's own. -/
import Derived.Test.YtpijgeijflbmhaaDoorC0
import Derived.Test.YtpijgeijflbmhaaDoorProg
import Derived.Below
import Derived.Deep.Draws
import Derived.Deep.AppendLies
import Derived.Maps.AppendAt
import Derived.OwnWalk
import Derived.Laws.BytesArg
import Derived.Laws.MakeOwn
import Derived.Laws.OwnMore
import Derived.Deep.OwnRows
import Derived.Tactics
import Derived.Lib.ConvBytes
import Derived.Laws.Slices
import Derived.WalkKit
import Derived.KernelRfl
import Derived.RowKit3
import Derived.Deep.LoopGhost
import Derived.Deep.QuietTactic
import Derived.BigQuiet
import Derived.WideLaws
import Derived.Deep.DeepCutAuto
import Derived.Deep.CutBlock
import Derived.Deep.RegionHeld3
import Derived.Laws.Rows
import Derived.Lib.AppendStr
import Derived.ArgAppend
import Derived.Laws.IdiomCopy
import Derived.OrdersHeld
import Derived.Laws.BitsLemmas
import Derived.RowKit
import Derived.WalkSpells
import Derived.Laws.Tables
import Derived.Laws.CopyOwn
/-! ### 57. A region of open order by ONE relation over what is listed so far: each operation is shown once, whatever came up before it -/
namespace Go.Proofs.YtpijgeijflbmhaaDoorW.PrintLast
/-- Number i is listed too. -/
def up (b : Nat → Bool) (i : Nat) : Nat → Bool := fun j => if j = i then true else b j
theorem up_self (b : Nat → Bool) (i : Nat) : up b i i = true := by simp [up]
theorem up_ne {b : Nat → Bool} {i j : Nat} (h : j ≠ i) : up b i j = b j := by simp [up, h]
/-- What is listed: O's operations by b, all else already. -/
def lof (n : Nat) (O : List Nat) (b : Nat → Bool) : List Bool := (List.range n).map fun j => if O.contains j then b j else true
/-- The destinations of what is listed are filled. -/
def putSel (a : Act) (b : Nat → Bool) : List (Nat × Tmp × Value) → Act
  | [] => a
  | e :: r => putSel (if b e.1 = true then a.put (some e.2.1) e.2.2 else a) b r
section
variable {P : Program} {ops : Array Oper} {Q : Exit → Act → World → Prop} {md : Region.Mode} {T : Bool × List (List Nat × List Nat)} {B : List Nat} {O : List Nat} {b : Nat → Bool} {i j n : Nat}
theorem lof_length : (lof n O b).length = n := by simp [lof]
theorem lof_get {d : Bool} (hj : j < n) : (lof n O b).getD j d = if O.contains j then b j else true := by
  simp [lof, List.getD_eq_getElem?_getD, hj]
theorem lof_up (hi : O.contains i = true) : (lof n O b).set i true = lof n O (up b i) := by
  apply List.ext_getElem?
  intro j
  by_cases hj : j < n
  · by_cases hij : i = j
    · subst hij
      have hl : i < (lof n O b).length := by rw [lof_length]; exact hj
      rw [List.getElem?_set_self hl]
      simp only [lof, List.getElem?_map, List.getElem?_range hj, Option.map_some, hi, if_true, up_self]
    · rw [List.getElem?_set_ne hij]
      simp only [lof, List.getElem?_map, List.getElem?_range hj, Option.map_some]
      rw [up_ne (Ne.symm hij)]
  · rw [List.getElem?_eq_none (by simp [lof]; omega), List.getElem?_eq_none (by simp [lof]; omega)]
/-- The step of operation i: out of the relation, it not being listed, all it waits for being so, and nothing that waits for it. -/
def StepAt (P : Program) (ops : Array Oper) (Q : Exit → Act → World → Prop) (B : List Nat) (O : List Nat) (I : (Nat → Bool) → Act → World → Prop) (i : Nat) : Prop :=
  ∀ b a w, I b a w → b i = false → (∀ j, (O.contains j && (B.getD i 0).testBit j) = true → b j = true) → (∀ d, (O.contains d && (B.getD d 0).testBit i) = true → b d = false) →
    ∃ oi, ops[i]? = some oi ∧ ∀ K : Act → World → Prop, Shut (∀ a' w', I (up b i) a' w' → K a' w') → if Region.wanted oi (yielded ops a.tmps) = true then Oper.wp P oi a w K Q else K (a.put oi.dst undef) w
theorem steps_nil {I : (Nat → Bool) → Act → World → Prop} : ∀ i ∈ ([] : List Nat), StepAt P ops Q B O I i := fun _ h => by cases h
theorem steps_cons {I : (Nat → Bool) → Act → World → Prop} {rs : List Nat} (h : StepAt P ops Q B O I i) (hs : ∀ j ∈ rs, StepAt P ops Q B O I j) : ∀ j ∈ i :: rs, StepAt P ops Q B O I j := fun j hj => by
  rcases List.mem_cons.1 hj with rfl | hj
  · exact h
  · exact hs j hj
/-- Every edge goes to an earlier operation; what is listed already waits for nothing of O; O's numbers are the region's, each once. -/
def baseOk (T : List (List Nat × List Nat)) (O : List Nat) : Bool :=
  (List.range T.length).all (fun d => match T[d]? with
    | some r => (O.contains d || r.1.all fun n => !O.contains n) && r.1.all fun n => decide (n < d)
    | none => false) && O.all (fun i => decide (i < T.length)) && decide O.Nodup
theorem baseOk_row {T : List (List Nat × List Nat)} (h : baseOk T O = true) {d : Nat} {r : List Nat × List Nat} (hr : T[d]? = some r) : (O.contains d = false → ∀ n ∈ r.1, O.contains n = false) ∧ ∀ n ∈ r.1, n < d := by
  simp only [baseOk, Bool.and_eq_true] at h
  have h1 := List.all_eq_true.1 h.1.1 d (List.mem_range.2 (List.getElem?_eq_some_iff.1 hr).1)
  rw [hr] at h1
  simp only [Bool.and_eq_true, Bool.or_eq_true, List.all_eq_true, decide_eq_true_eq] at h1
  refine ⟨fun hd n hn => ?_, h1.2⟩
  rcases h1.1 with h2 | h2
  · rw [hd] at h2; cases h2
  · simpa using h2 n hn
theorem baseOk_lt {T : List (List Nat × List Nat)} (h : baseOk T O = true) {i : Nat} (hi : i ∈ O) : i < T.length := by
  simp only [baseOk, Bool.and_eq_true] at h
  simpa using List.all_eq_true.1 h.1.2 i hi
theorem baseOk_nodup {T : List (List Nat × List Nat)} (h : baseOk T O = true) : O.Nodup := by
  simp only [baseOk, Bool.and_eq_true] at h
  exact of_decide_eq_true h.2
def Closed (T : List (List Nat × List Nat)) (O : List Nat) (b : Nat → Bool) : Prop := ∀ d r, T[d]? = some r → O.contains d = true → b d = true → ∀ n ∈ r.1, O.contains n = true → b n = true
/-- What waits for nothing of O has none of it in its bits. -/
theorem bits_out {T : List (List Nat × List Nat)} (hw : waitsOk T B = true) (hk : baseOk T O = true) : ∀ (m d : Nat), d ≤ m → d < T.length → O.contains d = false → ∀ j, (B.getD d 0).testBit j = true → O.contains j = false := by
  intro m
  induction m with
  | zero =>
    intro d hd hl hO j hj
    have hd0 : d = 0 := by omega
    subst hd0
    have hr : T[0]? = some T[0] := List.getElem?_eq_getElem hl
    have h1 := List.all_eq_true.1 hw 0 (List.mem_range.2 hl)
    rw [hr] at h1
    simp only [beq_iff_eq] at h1
    have h2 : (upM B 0 T[0].1).testBit j = true := by rw [← h1, Nat.testBit_or, hj, Bool.true_or]
    obtain ⟨n, hn, h3⟩ := upM_bit h2
    have := (baseOk_row hk hr).2 n hn
    omega
  | succ m ih =>
    intro d hd hl hO j hj
    have hr : T[d]? = some T[d] := List.getElem?_eq_getElem hl
    have h1 := List.all_eq_true.1 hw d (List.mem_range.2 hl)
    rw [hr] at h1
    simp only [beq_iff_eq] at h1
    have h2 : (upM B d T[d].1).testBit j = true := by rw [← h1, Nat.testBit_or, hj, Bool.true_or]
    obtain ⟨n, hn, h3⟩ := upM_bit h2
    have hO2 := (baseOk_row hk hr).1 hO n hn
    rcases h3 with rfl | ⟨h4, h5⟩
    · exact hO2
    · exact ih n (by omega) (by omega) hO2 j h5
theorem closed_bits {T : List (List Nat × List Nat)} (hw : waitsOk T B = true) (hk : baseOk T O = true) (hc : Closed T O b) : ∀ (m d : Nat), d ≤ m → d < T.length → O.contains d = true → b d = true → ∀ j, O.contains j = true → (B.getD d 0).testBit j = true → b j = true := by
  intro m
  induction m with
  | zero =>
    intro d hd hl hO hb j hjO hj
    have hd0 : d = 0 := by omega
    subst hd0
    have hr : T[0]? = some T[0] := List.getElem?_eq_getElem hl
    have h1 := List.all_eq_true.1 hw 0 (List.mem_range.2 hl)
    rw [hr] at h1
    simp only [beq_iff_eq] at h1
    have h2 : (upM B 0 T[0].1).testBit j = true := by rw [← h1, Nat.testBit_or, hj, Bool.true_or]
    obtain ⟨n, hn, h3⟩ := upM_bit h2
    have := (baseOk_row hk hr).2 n hn
    omega
  | succ m ih =>
    intro d hd hl hO hb j hjO hj
    have hr : T[d]? = some T[d] := List.getElem?_eq_getElem hl
    have h1 := List.all_eq_true.1 hw d (List.mem_range.2 hl)
    rw [hr] at h1
    simp only [beq_iff_eq] at h1
    have h2 : (upM B d T[d].1).testBit j = true := by rw [← h1, Nat.testBit_or, hj, Bool.true_or]
    obtain ⟨n, hn, h3⟩ := upM_bit h2
    rcases h3 with rfl | ⟨h4, h5⟩
    · exact hc d _ hr hO hb n hn hjO
    · cases hO2 : O.contains n with
      | true => exact ih n (by omega) (by omega) hO2 (hc d _ hr hO hb n hn hO2) j hjO h5
      | false =>
        have := bits_out hw hk n n (Nat.le_refl _) (by omega) hO2 j h5
        rw [hjO] at this
        cases this
theorem up_count : ∀ {O : List Nat}, O.Nodup → i ∈ O → b i = false → (O.filter fun j => !up b i j).length + 1 = (O.filter fun j => !b j).length
  | [], _, hi, _ => by cases hi
  | x :: r, hn, hi, hb => by
    rw [List.nodup_cons] at hn
    rcases List.mem_cons.1 hi with rfl | hi
    · have h1 : (r.filter fun j => !up b i j) = r.filter fun j => !b j := by
        refine List.filter_congr (fun j hj => ?_)
        rw [up_ne (fun e => hn.1 (by rw [← e]; exact hj))]
      rw [List.filter_cons, List.filter_cons]
      simp [up_self, hb, h1]
    · have hxi : x ≠ i := fun e => hn.1 (e ▸ hi)
      have h1 := up_count hn.2 hi hb
      rw [List.filter_cons, List.filter_cons, up_ne hxi]
      cases hbx : b x
      · simp only [Bool.not_false, if_true, List.length_cons]
        omega
      · simpa using h1
theorem inv_all (hT : rtab md ops = T) (hw : waitsOk T.2 B = true) (hk : baseOk T.2 O = true) (I : (Nat → Bool) → Act → World → Prop) (hs : ∀ i ∈ O, StepAt P ops Q B O I i)
    (hend : ∀ b a w, (∀ j, O.contains j = true → b j = true) → I b a w → Q .normal a w) :
    ∀ (m : Nat) (b : Nat → Bool) (a : Act) (w : World), (O.filter fun j => !b j).length = m → Closed T.2 O b → I b a w → wpAnyLast P md ops Q (fun _ => True) [] m (lof T.2.length O b).toArray a w := by
  subst hT
  have mem_ready' : ∀ {b : Nat → Bool} {i : Nat}, i ∈ Region.ready md ops (lof (rtab md ops).2.length O b).toArray → i < (rtab md ops).2.length ∧ O.contains i = true ∧ b i = false ∧ ∀ r, (rtab md ops).2[i]? = some r → ∀ n ∈ r.1, n < (rtab md ops).2.length → O.contains n = true → b n = true := by
    intro b i hi
    rw [ready_eq] at hi
    unfold readyT at hi
    rw [List.mem_filter, List.mem_range] at hi
    obtain ⟨hl, h1⟩ := hi
    unfold readyAt at h1
    rw [Bool.and_eq_true, lof_get hl] at h1
    obtain ⟨h2, h3⟩ := h1
    have h4 : O.contains i = true := by
      cases h : O.contains i with
      | true => rfl
      | false => rw [h] at h2; simp at h2
    rw [h4] at h2
    refine ⟨hl, h4, by simpa using h2, fun r hr n hn hnl hO => ?_⟩
    rw [hr] at h3
    simp only [List.all_eq_true] at h3
    have h5 := h3 n hn
    rw [lof_get hnl, hO] at h5
    simpa using h5
  intro m
  induction m with
  | zero =>
    intro b a w hm hc hI
    have hall : ∀ j, O.contains j = true → b j = true := by
      intro j hj
      cases hb : b j with
      | true => rfl
      | false =>
        have : j ∈ O.filter fun j => !b j := List.mem_filter.2 ⟨List.contains_iff_mem.1 hj, by simp [hb]⟩
        rw [List.eq_nil_of_length_eq_zero hm] at this
        cases this
    refine ⟨?_, hend b a w hall hI⟩
    refine List.eq_nil_iff_forall_not_mem.2 (fun i hi => ?_)
    obtain ⟨_, h1, h2, _⟩ := mem_ready' hi
    rw [hall i h1] at h2
    cases h2
  | succ m ih =>
    intro b a w hm hc hI
    refine ⟨fun hr => ?_, fun i hi => ?_⟩
    · exfalso
      -- the smallest number that isn't listed is ready
      have hex : ∃ i, O.contains i = true ∧ b i = false := by
        cases hf : O.filter (fun j => !b j) with
        | nil => rw [hf] at hm; simp at hm
        | cons x r =>
          have hx : x ∈ O.filter (fun j => !b j) := by rw [hf]; exact List.mem_cons_self
          rw [List.mem_filter] at hx
          exact ⟨x, List.contains_iff_mem.2 hx.1, by simpa using hx.2⟩
      have hmin : ∀ k, (∃ i, i ≤ k ∧ O.contains i = true ∧ b i = false) → ∃ i, O.contains i = true ∧ b i = false ∧ ∀ j, j < i → O.contains j = true → b j = true := by
        intro k
        induction k with
        | zero =>
          rintro ⟨i, hi, h1, h2⟩
          exact ⟨i, h1, h2, fun j hj => by omega⟩
        | succ k ihk =>
          rintro ⟨i, hi, h1, h2⟩
          by_cases hlow : ∃ j, j ≤ k ∧ O.contains j = true ∧ b j = false
          · exact ihk hlow
          · refine ⟨i, h1, h2, fun j hj hO => ?_⟩
            cases hb : b j with
            | true => rfl
            | false => exact absurd ⟨j, by omega, hO, hb⟩ hlow
      obtain ⟨i0, h1, h2⟩ := hex
      obtain ⟨i, hO, hb, hlow⟩ := hmin i0 ⟨i0, Nat.le_refl _, h1, h2⟩
      have hl := baseOk_lt hk (List.contains_iff_mem.1 hO)
      have hin : i ∈ Region.ready md ops (lof (rtab md ops).2.length O b).toArray := by
        rw [ready_eq]
        unfold readyT
        rw [List.mem_filter, List.mem_range]
        refine ⟨hl, ?_⟩
        unfold readyAt
        rw [lof_get hl, hO, hb]
        have hr2 : (rtab md ops).2[i]? = some (rtab md ops).2[i] := List.getElem?_eq_getElem hl
        rw [hr2]
        simp only [if_true, Bool.not_false, Bool.true_and, List.all_eq_true]
        intro n hn
        have hni := (baseOk_row hk hr2).2 n hn
        rw [lof_get (by omega)]
        cases hOn : O.contains n with
        | true => simpa using hlow n hni hOn
        | false => simp
      rw [hr] at hin
      cases hin
    · obtain ⟨hl, hO, hb, hneed⟩ := mem_ready' hi
      have hon : ∀ j, (O.contains j && (B.getD i 0).testBit j) = true → b j = true := by
        intro j hj
        rw [Bool.and_eq_true] at hj
        have hr2 : (rtab md ops).2[i]? = some (rtab md ops).2[i] := List.getElem?_eq_getElem hl
        have h1 := List.all_eq_true.1 hw i (List.mem_range.2 hl)
        rw [hr2] at h1
        simp only [beq_iff_eq] at h1
        have h2 : (upM B i (rtab md ops).2[i].1).testBit j = true := by rw [← h1, Nat.testBit_or, hj.2, Bool.true_or]
        obtain ⟨n, hn, h3⟩ := upM_bit h2
        have hni := (baseOk_row hk hr2).2 n hn
        rcases h3 with rfl | ⟨h4, h5⟩
        · exact hneed _ hr2 n hn (by omega) hj.1
        · cases hO2 : O.contains n with
          | true => exact closed_bits hw hk hc n n (Nat.le_refl _) (by omega) hO2 (hneed _ hr2 n hn (by omega) hO2) j hj.1 h5
          | false =>
            have := bits_out hw hk n n (Nat.le_refl _) (by omega) hO2 j h5
            rw [hj.1] at this
            cases this
      have hoff : ∀ d, (O.contains d && (B.getD d 0).testBit i) = true → b d = false := by
        intro d hd
        rw [Bool.and_eq_true] at hd
        cases hbd : b d with
        | false => rfl
        | true =>
          have hdl := baseOk_lt hk (List.contains_iff_mem.1 hd.1)
          have := closed_bits hw hk hc d d (Nat.le_refl _) hdl hd.1 hbd i hO hd.2
          rw [hb] at this
          cases this
      obtain ⟨oi, hoi, hK⟩ := hs i (List.contains_iff_mem.1 hO) b a w hI hb hon hoff
      refine wpOp_step hoi (fun K' hK' => hK K' (fun a' w' hI' => hK' a' w' ⟨fun _ _ => trivial, ?_⟩))
      have hset : (lof (rtab md ops).2.length O b).toArray.setIfInBounds i true = (lof (rtab md ops).2.length O (up b i)).toArray := by
        apply Array.ext'
        rw [Array.toList_setIfInBounds]
        exact lof_up hO
      rw [hset]
      refine ih (up b i) a' w' ?_ ?_ hI'
      · have := up_count (baseOk_nodup hk) (List.contains_iff_mem.1 hO) hb
        omega
      · intro d r hr hOd hbd n hn hOn
        by_cases hni : n = i
        · rw [hni, up_self]
        · rw [up_ne hni]
          by_cases hdi : d = i
          · subst hdi
            exact hneed r hr n hn (by have := (baseOk_row hk hr).2 n hn; omega) hOn
          · rw [up_ne hdi] at hbd
            exact hc d r hr hOd hbd n hn hOn
/-! The frame: what is listed has its destination filled. -/
/-- A slot that no operation of the list fills. -/
theorem putSel_off {b : Nat → Bool} {t : Tmp} : ∀ {L : List (Nat × Tmp × Value)} {a : Act}, (L.all fun e => !(e.2.1 == t)) = true → (putSel a b L).tmps[t]? = a.tmps[t]?
  | [], _, _ => rfl
  | e :: r, a, h => by
    rw [List.all_cons, Bool.and_eq_true] at h
    have he : e.2.1 ≠ t := by simpa using h.1
    unfold putSel
    by_cases hb : b e.1 = true
    · rw [if_pos hb, putSel_off h.2]
      simp [Act.put, Array.getElem?_setIfInBounds_ne he]
    · rw [if_neg hb]
      exact putSel_off h.2
/-- A slot of a listed operation: k is its place in the list. -/
theorem putSel_on {b : Nat → Bool} {e : Nat × Tmp × Value} : ∀ {L : List (Nat × Tmp × Value)} {a : Act} (k : Nat), L[k]? = some e → ((L.drop (k + 1)).all fun x => !(x.2.1 == e.2.1)) = true → b e.1 = true → Nat.ble (e.2.1 + 1) a.tmps.size = true → (putSel a b L).tmps[e.2.1]? = some e.2.2
  | [], _, _, h, _, _, _ => by cases h
  | x :: r, a, 0, h, hd, hb, ht => by
    simp only [List.getElem?_cons_zero, Option.some.injEq] at h
    subst h
    unfold putSel
    rw [if_pos hb, putSel_off (by simpa using hd)]
    have ht2 : x.2.1 < a.tmps.size := Nat.le_of_ble_eq_true ht
    simp [Act.put, ht2]
  | x :: r, a, k + 1, h, hd, hb, ht => by
    unfold putSel
    refine putSel_on k (by simpa using h) (by simpa using hd) hb ?_
    by_cases hx : b x.1 = true
    · rw [if_pos hx]
      simpa [Act.put] using ht
    · rw [if_neg hx]
      exact ht
theorem put_comm {a : Act} {s t : Tmp} {u v : Value} (h : s ≠ t) : (a.put (some s) u).put (some t) v = (a.put (some t) v).put (some s) u := by
  simp only [Act.put]
  rw [Array.setIfInBounds_comm _ _ h]
theorem putSel_put {b : Nat → Bool} {t : Tmp} {v : Value} : ∀ {L : List (Nat × Tmp × Value)} {a : Act}, (L.all fun e => !(e.2.1 == t)) = true → (putSel a b L).put (some t) v = putSel (a.put (some t) v) b L
  | [], _, _ => rfl
  | e :: r, a, h => by
    rw [List.all_cons, Bool.and_eq_true] at h
    have he : e.2.1 ≠ t := by simpa using h.1
    unfold putSel
    by_cases hb : b e.1 = true
    · rw [if_pos hb, if_pos hb, putSel_put h.2, put_comm he]
    · rw [if_neg hb, if_neg hb]
      exact putSel_put h.2
theorem putSel_same {b : Nat → Bool} {i : Nat} : ∀ {L : List (Nat × Tmp × Value)} {a : Act}, (L.all fun e => !(e.1 == i)) = true → putSel a (up b i) L = putSel a b L
  | [], _, _ => rfl
  | e :: r, a, h => by
    rw [List.all_cons, Bool.and_eq_true] at h
    have he : e.1 ≠ i := by simpa using h.1
    unfold putSel
    rw [up_ne he]
    exact putSel_same h.2
/-- Operation i (its entry stands between L1 and L2) is listed: its destination is filled with v, whatever stood in its entry. -/
theorem putSel_up {b : Nat → Bool} {i : Nat} {t : Tmp} {v0 v : Value} : ∀ {L1 L2 : List (Nat × Tmp × Value)} {a : Act}, b i = false → ((L1 ++ L2).all fun e => !(e.1 == i) && !(e.2.1 == t)) = true →
    (putSel a b (L1 ++ (i, t, v0) :: L2)).put (some t) v = putSel a (up b i) (L1 ++ (i, t, v) :: L2)
  | [], L2, a, hb, h => by
    simp only [List.nil_append] at h ⊢
    have h1 : (L2.all fun e => !(e.1 == i)) = true := List.all_eq_true.2 (fun e he => by have := List.all_eq_true.1 h e he; simp only [Bool.and_eq_true] at this; exact this.1)
    have h2 : (L2.all fun e => !(e.2.1 == t)) = true := List.all_eq_true.2 (fun e he => by have := List.all_eq_true.1 h e he; simp only [Bool.and_eq_true] at this; exact this.2)
    unfold putSel
    rw [if_neg (by rw [hb]; decide), if_pos (up_self b i), putSel_put h2, putSel_same h1]
  | e :: r, L2, a, hb, h => by
    simp only [List.cons_append, List.all_cons, Bool.and_eq_true] at h
    have he : e.1 ≠ i := by simpa using h.1.1
    simp only [List.cons_append]
    unfold putSel
    rw [up_ne he]
    exact putSel_up hb h.2
/-- The same by its place k in the list. -/
theorem putSel_upk {b : Nat → Bool} {i : Nat} {t : Tmp} {v0 v : Value} {a : Act} {L L' : List (Nat × Tmp × Value)} (k : Nat) (hb : b i = false) (hL : L[k]? = some (i, t, v0)) (hL' : L.set k (i, t, v) = L') (hd : ((L.take k ++ L.drop (k + 1)).all fun e => !(e.1 == i) && !(e.2.1 == t)) = true) :
    (putSel a b L).put (some t) v = putSel a (up b i) L' := by
  have hk := (List.getElem?_eq_some_iff.1 hL).1
  have h1 : L = L.take k ++ (i, t, v0) :: L.drop (k + 1) := by
    have h2 : L[k] = (i, t, v0) := (List.getElem?_eq_some_iff.1 hL).2
    rw [← h2, List.getElem_cons_drop, List.take_append_drop]
  have h3 : L' = L.take k ++ (i, t, v) :: L.drop (k + 1) := by rw [← hL', List.set_eq_take_append_cons_drop, if_pos hk]
  rw [h3]
  conv => lhs; rw [h1]
  exact putSel_up hb hd
/-- THE REGION FROM HERE TO ITS END, by one relation I: l has all listed but O's operations; I holds with none of them listed; each step; with all listed what follows. -/
theorem inv_ {l : Array Bool} {fuel : Nat} {a : Act} {w : World} (O : List Nat) (I : (Nat → Bool) → Act → World → Prop) (hT : rtab md ops = T) (hw : waitsOk T.2 B = true) (hk : baseOk T.2 O = true)
    (hl : (lof T.2.length O (fun _ => false) == l.toList && O.length == fuel) = true) (h0 : I (fun _ => false) a w) (hs : ∀ i ∈ O, StepAt P ops Q B O I i)
    (hend : ∀ b a w, (∀ j, O.contains j = true → b j = true) → I b a w → Q .normal a w) : wpAnyLast P md ops Q (fun _ => True) [] fuel l a w := by
  rw [Bool.and_eq_true, beq_iff_eq, beq_iff_eq] at hl
  have h1 := inv_all hT hw hk I hs hend fuel (fun _ => false) a w (by rw [← hl.2]; simp) (fun d r _ _ hb => by cases hb) h0
  have h2 : (lof T.2.length O (fun _ => false)).toArray = l := by apply Array.ext'; exact hl.1
  rw [h2] at h1
  exact h1
/-- inv_ with the relation told from the frame that stands now (a0_). -/
theorem inv_at {l : Array Bool} {fuel : Nat} {a : Act} {w : World} (O : List Nat) (I : Act → (Nat → Bool) → Act → World → Prop) (hT : rtab md ops = T) (hw : waitsOk T.2 B = true) (hk : baseOk T.2 O = true)
    (hl : (lof T.2.length O (fun _ => false) == l.toList && O.length == fuel) = true) (h0 : I a (fun _ => false) a w) (hs : ∀ i ∈ O, StepAt P ops Q B O (I a) i)
    (hend : ∀ b a' w, (∀ j, O.contains j = true → b j = true) → I a b a' w → Q .normal a' w) : wpAnyLast P md ops Q (fun _ => True) [] fuel l a w := inv_ O (I a) hT hw hk hl h0 hs hend
end
end Go.Proofs.YtpijgeijflbmhaaDoorW.PrintLast

namespace Go.Proofs.YtpijgeijflbmhaaDoorW.PrintWords
open Go.RowKit
end Go.Proofs.YtpijgeijflbmhaaDoorW.PrintWords
namespace Go.Proofs.YtpijgeijflbmhaaDoorW.PrintLast
section
variable {ops : Array Oper} {a : Act} {o og : Oper} {g : Nat} {t : Tmp} {u : Bool}
end
end Go.Proofs.YtpijgeijflbmhaaDoorW.PrintLast

/-! ### 58. A guarded operation whose guard is known to want it: the same goal without the guard -/
namespace Go.Proofs.YtpijgeijflbmhaaDoorW.PrintWords
open Go.RowKit
section
variable {P : Program} {ops : Array Oper} {rest : List Oper} {o : Oper} {a : Act} {Q : Exit → Act → World → Prop} {W : World}
end

namespace Kd
section
variable {α : Type} {d : Kd α} {e base n cap g : Nat} {ok ok' okp : Nat → Prop} {w w1 W : World} {v v1 : Value} {xs ys : List α}
end
section
variable {P : Program} {ops : Array Oper} {rest : List Oper} {o : Oper} {a : Act} {Q : Exit → Act → World → Prop} {Kc : Act → World → Prop} {α : Type}
end
end Kd
end Go.Proofs.YtpijgeijflbmhaaDoorW.PrintWords

-- PRINTED WORDS (module Derived/Print/More.lean): go-gate-2's additions: an AI agent of Go's test side, Tue Nov 17 2026; no person has read it. Lean checks it.
namespace Go.Proofs.YtpijgeijflbmhaaDoorW.PrintMore
open Go.RowKit Go.Proofs.YtpijgeijflbmhaaDoorW.PrintWords
namespace Kd
open Go.Proofs.YtpijgeijflbmhaaDoorW.PrintWords.Kd
end Kd

namespace Kd
open Go.Proofs.YtpijgeijflbmhaaDoorW.PrintWords.Kd
section
variable {α : Type} {d : Kd α} {e base g N : Nat} {ok : Nat → Prop} {W w1 : World} {u v : Value} {xs : List α}
end
end Kd
/-- 'max' and 'min' of two whole numbers. -/
theorem max2_int (k k' : IntKind) (x y : Int) : Builtin.max2 (.int k x) (.int k' y) = pure (.int k (if x < y then y else x)) := by simp only [Builtin.max2, gt_iff_lt]
theorem min2_int (k k' : IntKind) (x y : Int) : Builtin.min2 (.int k x) (.int k' y) = pure (.int k (if y < x then y else x)) := by simp only [Builtin.min2]
theorem max_two (ats : Array TypeId) (ty : TypeId) (a b : Value) : Builtin.max_ ats ty #[a, b] = (Builtin.max2 a b >>= fun s => pure s) := by simp only [Builtin.max_, List.foldlM_cons, List.foldlM_nil]
theorem min_two (ats : Array TypeId) (ty : TypeId) (a b : Value) : Builtin.min_ ats ty #[a, b] = (Builtin.min2 a b >>= fun s => pure s) := by simp only [Builtin.min_, List.foldlM_cons, List.foldlM_nil]
theorem max_three (ats : Array TypeId) (ty : TypeId) (a b c : Value) : Builtin.max_ ats ty #[a, b, c] = (Builtin.max2 a b >>= fun s => Builtin.max2 s c >>= fun s => pure s) := by simp only [Builtin.max_, List.foldlM_cons, List.foldlM_nil]
theorem min_three (ats : Array TypeId) (ty : TypeId) (a b c : Value) : Builtin.min_ ats ty #[a, b, c] = (Builtin.min2 a b >>= fun s => Builtin.min2 s c >>= fun s => pure s) := by simp only [Builtin.min_, List.foldlM_cons, List.foldlM_nil]
theorem max_four (ats : Array TypeId) (ty : TypeId) (a b c d : Value) : Builtin.max_ ats ty #[a, b, c, d] = (Builtin.max2 a b >>= fun s => Builtin.max2 s c >>= fun s => Builtin.max2 s d >>= fun s => pure s) := by simp only [Builtin.max_, List.foldlM_cons, List.foldlM_nil]
theorem min_four (ats : Array TypeId) (ty : TypeId) (a b c d : Value) : Builtin.min_ ats ty #[a, b, c, d] = (Builtin.min2 a b >>= fun s => Builtin.min2 s c >>= fun s => Builtin.min2 s d >>= fun s => pure s) := by simp only [Builtin.min_, List.foldlM_cons, List.foldlM_nil]
end Go.Proofs.YtpijgeijflbmhaaDoorW.PrintMore
namespace Go.Proofs.YtpijgeijflbmhaaDoorW.PrintWords
open Go.RowKit
section
variable {P : Program} {ops : Array Oper} {rest : List Oper} {o : Oper} {a : Act} {Q : Exit → Act → World → Prop} {W : World}
/-- The operation is a call of this function (a cheap look ahead of a dear step). -/
theorem gaC {f : FuncId} {as' : Array Operand} {ts : Array TypeId} (_ho : o.op = .call { callee := .value (.func f), args := as', argTypes := ts }) (h : wpList P ops Q (o :: rest) a W) : wpList P ops Q (o :: rest) a W := h
/-- The operation is a builtin over these places. -/
theorem gaB {b : Builtin} {xs : Array Operand} {ts : Array TypeId} (_ho : o.op = .call { callee := .builtin b, args := xs, argTypes := ts }) (h : wpList P ops Q (o :: rest) a W) : wpList P ops Q (o :: rest) a W := h
end
/-- The smaller of two whole numbers, as' Go's min tells it. -/
def mn (a b : Int) : Int := if b < a then b else a
/-- It says x = x, and that is its use: 'rw [drewN_self w]' fails where the world was not drawn, and the row behind it is skipped. -/
theorem drewN_self (w : World) (n : Nat) : w.drewN n = w.drewN n := rfl
namespace Kd
section
variable {α : Type} {d : Kd α} {e base : Nat} {ok : Nat → Prop} {W w1 : World} {v : Value} {xs : List α}
end
section
variable {α : Type} {d : Kd α} {e base g n cap : Nat} {ok oki okp : Nat → Prop} {W : World} {xs : List α} {i : Int} {c : List Value}
end
section
variable {α : Type} {d : Kd α} {e base b b' g N : Nat} {ok ok1 : Nat → Prop} {W W2 w1 : World} {u v : Value} {xs ys : List α} {S : Nat → Prop}
theorem R_keptB (h : d.R e W base ok v xs) (hk : Kept W W2 S) (hne : ∀ k, ok k → ¬ S k) : d.R e W2 base (fun k => ok k ∧ (¬ S k ∧ k < W.heap.size)) v xs :=
  R_kept (R_mono (R_bound h) (fun k hk => ⟨hk.1, hne k hk.1, hk.2.2.1⟩)) hk (fun _ hk => hk.2.1)
end
end Kd
end Go.Proofs.YtpijgeijflbmhaaDoorW.PrintWords
namespace Go.Proofs.YtpijgeijflbmhaaDoorW.PrintWords
open Go.RowKit
namespace Kd
section
variable {α β : Type} {d : Kd α} {e base base' n m c g N' lo hi : Nat} {ok ok' S : Nat → Prop} {w W w1 : World} {A : Option Addr} {ad : Addr} {u v v1 : Value} {xs : List α}
end
end Kd
end Go.Proofs.YtpijgeijflbmhaaDoorW.PrintWords

/- Go functions of the given program come to what plain Lean functions say: walks, printed by a program of this session's (after the kit's print); no conditions beyond each theorem's own. -/
namespace Go.Proofs.YtpijgeijflbmhaaDoor.P
open Go.RowKit Go.Proofs.YtpijgeijflbmhaaDoorW.PrintWords Go.Proofs.YtpijgeijflbmhaaDoorW.PrintLast Go.Proofs.YtpijgeijflbmhaaDoorW.PrintMore
attribute [local go_sem] max2_int min2_int max_two min_two max_three min_three max_four min_four   -- for this text's walks alone
set_option linter.unusedVariables false
set_option linter.unusedSimpArgs false

theorem info5 : (Tryd.prog.info? 5).map (fun i => (i.zero, i.size, i.bytes)) = some (some (.int .u8 0), 1, 1) := by kernel_rfl
theorem info9 : (Tryd.prog.info? 9).map (fun i => (i.zero, i.size, i.bytes)) = some (some (.string ⟨#[]⟩), 1, 16) := by kernel_rfl
theorem info53 : (Tryd.prog.info? 53).map (fun i => (i.zero, i.size, i.bytes)) = some (some (.agg #[(.int .i64 0), (.int .i64 0), (.int .i64 0), (.string ⟨#[]⟩), (.bool false), (.string ⟨#[]⟩), (.string ⟨#[]⟩)]), 7, 80) := by kernel_rfl
-- the values' own types
/-! #### struct type 67 -/
structure S67 where
 f0 : Int
 f1 : ByteArray
 f2 : Int
 f3 : Int
def z67 : S67 := ⟨(0 : Int), (⟨#[]⟩ : ByteArray), (0 : Int), (0 : Int)⟩
def k67 : Kd S67 := Kd.iso (Kd.pair (Kd.int .i64) (Kd.pair Kd.string (Kd.pair (Kd.int .i64) (Kd.int .i64)))) (fun x : S67 => (x.f0, x.f1, x.f2, x.f3))
theorem k67_open {w : World} {x : S67} {cs : List Value} (h : k67.K w x cs) : cs = [.int .i64 x.f0, .string x.f1, .int .i64 x.f2, .int .i64 x.f3] := by
 obtain ⟨_, _, rfl, rfl, ⟨_, _, rfl, rfl, ⟨_, _, rfl, rfl, rfl⟩⟩⟩ := h
 exact rfl
theorem k67_mkM (w : World) (base : Nat) (ok : Nat → Prop) (x : S67)  : k67.M w base ok x [.int .i64 x.f0, .string x.f1, .int .i64 x.f2, .int .i64 x.f3] := ⟨[.int .i64 x.f0], [.string x.f1, .int .i64 x.f2, .int .i64 x.f3], rfl, rfl, ⟨[.string x.f1], [.int .i64 x.f2, .int .i64 x.f3], rfl, rfl, ⟨[.int .i64 x.f2], [.int .i64 x.f3], rfl, rfl, rfl⟩⟩⟩
def rd_T67 (xs : List S67) (i : Int) : S67 := xs.getD i.toNat z67
theorem at_T67 {w : World} {A : Option Addr} {n : Nat} {xs : List S67} (h : Kd.C k67 w A n xs) (i : Int) (h0 : 0 ≤ i) (h1 : i < n) : ∃ ad , A = some ad ∧ w.cell? (ad.add (i.toNat * 4)) = some (.int .i64 (rd_T67 xs i).f0) ∧ w.cell? ⟨(ad.add (i.toNat * 4)).block, (ad.add (i.toNat * 4)).off + 1, none⟩ = some (.string (rd_T67 xs i).f1) ∧ w.cell? ⟨(ad.add (i.toNat * 4)).block, (ad.add (i.toNat * 4)).off + 2, none⟩ = some (.int .i64 (rd_T67 xs i).f2) ∧ w.cell? ⟨(ad.add (i.toNat * 4)).block, (ad.add (i.toNat * 4)).off + 3, none⟩ = some (.int .i64 (rd_T67 xs i).f3) := by
 obtain ⟨ad, c, e, _, hK, hc0⟩ := Kd.C_get h z67 i h0 h1
 have hc : ∀ j u, c[j]? = some u → w.cell? (ad.add (i.toNat * 4 + j)) = some u := hc0
 obtain rfl := k67_open hK
 exact ⟨ad, e, hc 0 _ rfl, by rw [← add_field _ _ 1 (by omega)]; exact hc 1 _ rfl, by rw [← add_field _ _ 2 (by omega)]; exact hc 2 _ rfl, by rw [← add_field _ _ 3 (by omega)]; exact hc 3 _ rfl⟩

/-! #### struct type 51 -/
structure S51 where
 f0 : Int
 f1 : Int
 f2 : ByteArray
 f3 : Bool
def z51 : S51 := ⟨(0 : Int), (0 : Int), (⟨#[]⟩ : ByteArray), false⟩
def k51 : Kd S51 := Kd.iso (Kd.pair (Kd.int .i64) (Kd.pair (Kd.int .i64) (Kd.pair Kd.string Kd.bool))) (fun x : S51 => (x.f0, x.f1, x.f2, x.f3))
theorem k51_open {w : World} {x : S51} {cs : List Value} (h : k51.K w x cs) : cs = [.int .i64 x.f0, .int .i64 x.f1, .string x.f2, .bool x.f3] := by
 obtain ⟨_, _, rfl, rfl, ⟨_, _, rfl, rfl, ⟨_, _, rfl, rfl, rfl⟩⟩⟩ := h
 exact rfl
theorem k51_mkM (w : World) (base : Nat) (ok : Nat → Prop) (x : S51)  : k51.M w base ok x [.int .i64 x.f0, .int .i64 x.f1, .string x.f2, .bool x.f3] := ⟨[.int .i64 x.f0], [.int .i64 x.f1, .string x.f2, .bool x.f3], rfl, rfl, ⟨[.int .i64 x.f1], [.string x.f2, .bool x.f3], rfl, rfl, ⟨[.string x.f2], [.bool x.f3], rfl, rfl, rfl⟩⟩⟩

/-! #### struct type 53 -/
structure S53 where
 f0 : Int
 f1 : S51
 f2 : ByteArray
 f3 : ByteArray
def z53 : S53 := ⟨(0 : Int), z51, (⟨#[]⟩ : ByteArray), (⟨#[]⟩ : ByteArray)⟩
def k53 : Kd S53 := Kd.iso (Kd.pair (Kd.int .i64) (Kd.pair k51 (Kd.pair Kd.string Kd.string))) (fun x : S53 => (x.f0, x.f1, x.f2, x.f3))
theorem k53_open {w : World} {x : S53} {cs : List Value} (h : k53.K w x cs) : cs = [.int .i64 x.f0, .int .i64 x.f1.f0, .int .i64 x.f1.f1, .string x.f1.f2, .bool x.f1.f3, .string x.f2, .string x.f3] := by
 obtain ⟨_, _, rfl, rfl, ⟨_, _, rfl, s1, ⟨_, _, rfl, rfl, rfl⟩⟩⟩ := h
 obtain rfl := k51_open s1
 exact rfl
theorem k53_mkM (w : World) (base : Nat) (ok : Nat → Prop) (x : S53)  : k53.M w base ok x [.int .i64 x.f0, .int .i64 x.f1.f0, .int .i64 x.f1.f1, .string x.f1.f2, .bool x.f1.f3, .string x.f2, .string x.f3] := ⟨[.int .i64 x.f0], [.int .i64 x.f1.f0, .int .i64 x.f1.f1, .string x.f1.f2, .bool x.f1.f3, .string x.f2, .string x.f3], rfl, rfl, ⟨[.int .i64 x.f1.f0, .int .i64 x.f1.f1, .string x.f1.f2, .bool x.f1.f3], [.string x.f2, .string x.f3], rfl, (k51_mkM w base ok x.f1 ), ⟨[.string x.f2], [.string x.f3], rfl, rfl, rfl⟩⟩⟩
def rd_T53 (xs : List S53) (i : Int) : S53 := xs.getD i.toNat z53
theorem at_T53 {w : World} {A : Option Addr} {n : Nat} {xs : List S53} (h : Kd.C k53 w A n xs) (i : Int) (h0 : 0 ≤ i) (h1 : i < n) : ∃ ad , A = some ad ∧ w.cell? (ad.add (i.toNat * 7)) = some (.int .i64 (rd_T53 xs i).f0) ∧ w.cell? ⟨(ad.add (i.toNat * 7)).block, (ad.add (i.toNat * 7)).off + 1, none⟩ = some (.int .i64 (rd_T53 xs i).f1.f0) ∧ w.cell? ⟨(ad.add (i.toNat * 7)).block, (ad.add (i.toNat * 7)).off + 2, none⟩ = some (.int .i64 (rd_T53 xs i).f1.f1) ∧ w.cell? ⟨(ad.add (i.toNat * 7)).block, (ad.add (i.toNat * 7)).off + 3, none⟩ = some (.string (rd_T53 xs i).f1.f2) ∧ w.cell? ⟨(ad.add (i.toNat * 7)).block, (ad.add (i.toNat * 7)).off + 4, none⟩ = some (.bool (rd_T53 xs i).f1.f3) ∧ w.cell? ⟨(ad.add (i.toNat * 7)).block, (ad.add (i.toNat * 7)).off + 5, none⟩ = some (.string (rd_T53 xs i).f2) ∧ w.cell? ⟨(ad.add (i.toNat * 7)).block, (ad.add (i.toNat * 7)).off + 6, none⟩ = some (.string (rd_T53 xs i).f3) := by
 obtain ⟨ad, c, e, _, hK, hc0⟩ := Kd.C_get h z53 i h0 h1
 have hc : ∀ j u, c[j]? = some u → w.cell? (ad.add (i.toNat * 7 + j)) = some u := hc0
 obtain rfl := k53_open hK
 exact ⟨ad, e, hc 0 _ rfl, by rw [← add_field _ _ 1 (by omega)]; exact hc 1 _ rfl, by rw [← add_field _ _ 2 (by omega)]; exact hc 2 _ rfl, by rw [← add_field _ _ 3 (by omega)]; exact hc 3 _ rfl, by rw [← add_field _ _ 4 (by omega)]; exact hc 4 _ rfl, by rw [← add_field _ _ 5 (by omega)]; exact hc 5 _ rfl, by rw [← add_field _ _ 6 (by omega)]; exact hc 6 _ rfl⟩

end Go.Proofs.YtpijgeijflbmhaaDoor.P

/- Words for walks over a local struct: where it is stored whole, and what stays beside it; no conditions beyond each theorem's own. -/
namespace Go.Proofs.YtpijgeijflbmhaaDoor.P
open Go.RowKit Go.Proofs.YtpijgeijflbmhaaDoorW.PrintWords Go.Proofs.YtpijgeijflbmhaaDoorW.PrintLast Go.Proofs.YtpijgeijflbmhaaDoorW.PrintMore

/-- A world that is another one but for one block. -/
structure But (w w1 : World) (g : Nat) : Prop where
  os : w1.os = w.os
  tape : w1.tape = w.tape
  output : w1.output = w.output
  size : w1.heap.size = w.heap.size
  blk : ∀ i, i ≠ g → w1.heap[i]? = w.heap[i]?

theorem But.below {w w1 u : World} {g B : Nat} (h : But w w1 g) (hb : Below B u w) (hg : B ≤ g) : Below B u w1 :=
  ⟨h.os.trans hb.os, h.tape.trans hb.tape, h.output.trans hb.output, by rw [h.size]; exact hb.size, fun i hi => (h.blk i (by omega)).trans (hb.block i hi)⟩
theorem But.kept {w w1 : World} {g : Nat} (h : But w w1 g) : Kept w w1 (fun k => k = g) := ⟨by rw [h.size]; exact Nat.le_refl _, fun i _ hn => h.blk i hn⟩
theorem But.keep {w w1 : World} {g : Nat} (h : But w w1 g) : KeepBut w w1 g none := ⟨by rw [h.size]; exact Nat.le_refl _, fun i _ hn _ => h.blk i hn⟩
theorem But.keep_far {w w1 u : World} {g g' : Nat} (h : But w w1 g) (hk : KeepBut u w g' none) (hg : u.heap.size ≤ g) : KeepBut u w1 g' none :=
  ⟨by rw [h.size]; exact hk.1, fun i hi hn hr => (h.blk i (by omega)).trans (hk.2 i hi hn hr)⟩

theorem but_setRow (w : World) (g : Nat) (cs : Array Value) {old : Array Value} {t : TypeId} {fr : Nat × Nat} (hg : w.heap[g]? = some (.cells old t fr)) :
    But w (w.setRow g cs) g ∧ (w.setRow g cs).heap[g]? = some (.cells cs t fr) := by
  refine ⟨⟨rfl, rfl, rfl, by simp [World.setRow], fun i hi => ?_⟩, ?_⟩
  · simp only [World.setRow, Array.getElem?_modify]
    rw [if_neg (fun e => hi e.symm)]
  · simp only [World.setRow, Array.getElem?_modify]
    simp [hg]

section
variable {P : Program} {ops : Array Oper} {rest : List Oper} {o : Oper} {a : Act} {Q : Exit → Act → World → Prop}
/-- A struct is stored whole into a variable of the call's own. -/
theorem row_event {w : World} (hgd : o.guard = none) (ty : TypeId) (x y : Operand) (ho : o.op = .store ty x y)
    (g : Nat) (cells : Array Value) (hx : a.eval x = .pointer (some ⟨g, 0, none⟩)) (hy : a.eval y = .agg cells)
    (t : TypeId) (old : Array Value) (hg : w.heap[g]? = some (.cells old t (0, 0))) (hi : (P.info? ty).map (·.size) = some cells.size)
    (hold : old.size = cells.size) (h1 : cells.all (·.oneCell') = true) (hN : o.dst = none)
    (h : ∀ w1, But w w1 g → w1.heap[g]? = some (.cells cells t (0, 0)) → wpList P ops Q rest a w1) : wpList P ops Q (o :: rest) a w := by
  refine wpList_store_row hgd ty x y ho g cells hx hy t old hg hi hold h1 ?_
  obtain ⟨hb, hc⟩ := but_setRow w g cells hg
  rw [hN]
  exact h _ hb hc
end

/-- A source at block g: its pieces are those of l, which came in by w0. -/
def Src (w0 W : World) (g : Nat) (l : List S67) : Prop := ∃ A c, W.heap[g]? = some (.cells #[.slice A l.length c] 69 (0, 0)) ∧ w0.heap.size ≤ g ∧ l.length ≤ c ∧ Kd.C k67 w0 A l.length l
theorem Src.lt {w0 W : World} {g : Nat} {l : List S67} (h : Src w0 W g l) : g < W.heap.size := by
  obtain ⟨A, c, h1, _⟩ := h
  exact blk_lt h1
theorem Src.ge {w0 W : World} {g : Nat} {l : List S67} (h : Src w0 W g l) : w0.heap.size ≤ g := by
  obtain ⟨A, c, h1, h2, _⟩ := h
  exact h2
theorem Src.ty {w0 W : World} {g : Nat} {l : List S67} (h : Src w0 W g l) : ∃ cs, W.heap[g]? = some (.cells cs 69 (0, 0)) := by
  obtain ⟨A, c, h1, h2, _⟩ := h
  exact ⟨_, h1⟩
theorem Src.same {w0 W W1 : World} {g : Nat} {l : List S67} (h : Src w0 W g l) (hb : W1.heap[g]? = W.heap[g]?) : Src w0 W1 g l := by
  obtain ⟨A, c, h1, h2⟩ := h
  exact ⟨A, c, hb.trans h1, h2⟩
theorem Src.below {w0 W W1 : World} {g : Nat} {l : List S67} (h : Src w0 W g l) (hb : Below W.heap.size W W1) : Src w0 W1 g l := h.same (hb.block _ h.lt)
theorem Src.but {w0 W W1 : World} {g b : Nat} {l : List S67} (h : Src w0 W g l) (hb : But W W1 b) (hne : g ≠ b) : Src w0 W1 g l := h.same (hb.blk _ hne)
theorem Src.alloc {w0 W : World} {g : Nat} {l : List S67} (h : Src w0 W g l) (o : Obj) : Src w0 (W.alloc o) g l := h.below (bwA (Below.refl _ _) o)

/-- The next piece, and what is left behind it. -/
def peekT (l : List S67) : S67 := l.headD z67
def nextT (l : List S67) : List S67 := if (peekT l).f0 = 0 then l else l.drop 1
abbrev tokV (t : S67) : Value := .agg #[.int .i64 t.f0, .string t.f1, .int .i64 t.f2, .int .i64 t.f3]

end Go.Proofs.YtpijgeijflbmhaaDoor.P

/- What lex.Source's Peek and Left come to: the next piece, and how many are left; no conditions. -/
namespace Go.Proofs.YtpijgeijflbmhaaDoor.P
open Go.RowKit Go.Proofs.YtpijgeijflbmhaaDoorW.PrintWords Go.Proofs.YtpijgeijflbmhaaDoorW.PrintLast Go.Proofs.YtpijgeijflbmhaaDoorW.PrintMore
set_option linter.unusedVariables false

theorem left_calls (g : Nat) (l : List S67) (w0 w : World) (hI : Src w0 w g l) :
    Calls Tryd.prog 24 #[.pointer (some ⟨g, 0, none⟩)] w fun e w' => e = .returned (.int .i64 l.length) ∧ w = w' := by
  obtain ⟨A, c, h1, h2, h3, h4⟩ := hI
  have hc : w.cell? ⟨g, 0, none⟩ = some (.slice A l.length c) := (blk_cell h1 0).trans rfl
  clear h1 h2 h3 h4
  go_enter Tryd.func24, Tryd.ntmps24
  go_wp2
  go_ret
  exact ⟨rfl, rfl⟩

set_option maxHeartbeats 2000000 in
set_option maxRecDepth 100000 in
theorem peek_calls (g : Nat) (l : List S67) (w0 w : World) (hI : Src w0 w g l) (hB : Below w0.heap.size w0 w) :
    Calls Tryd.prog 44 #[.pointer (some ⟨g, 0, none⟩)] w fun e w' => e = .returned (tokV (peekT l)) ∧ Below w.heap.size w w' := by
  have hu67 := Tryd.underlying67
  have HI0 := As.mk hI
  have HB0 := As.mk hB
  clear hI hB
  cases l with
  | nil =>
    go_enter Tryd.func44, Tryd.ntmps44
    go_wp2_with (first
      | ((with_reducible refine gate_dst (N := 2) rfl ?_); refine box_event ?hg (N := 2) ?hd (cs := #[.int .i64 0, .string (⟨#[]⟩ : ByteArray), .int .i64 0, .int .i64 0]) (t := 67) ?hr ?_; (case hd => rfl); (case hg => rfl); (case hr => first | (go_simp; done) | (go_simp; rfl)); intro g2 hg2 w2 hbx2 hbl2; obtain ⟨A, c, h1, h2, h3, h4⟩ := (HI0.out).below hbl2; have hc : w2.cell? ⟨g, 0, none⟩ = some (.slice A 0 c) := (blk_cell h1 0).trans rfl; have HBL := As.mk hbl2; have X2 := As.mk hbx2; have HG2 := As.mk hg2; clear h1 h2 h3 h4 hbx2 hbl2 hg2)
      | ((with_reducible refine gaS (t := 67) (p := 2) (v := .tmp 13) rfl ?_); refine row_event rfl 67 (.tmp 2) (.tmp 13) rfl g2 #[.int .i64 0, .string (⟨#[]⟩ : ByteArray), .int .i64 0, .int .i64 0] rfl rfl 67 _ X2.out (by kernel_rfl) rfl (by simp [Value.oneCell']) rfl ?_; intro w5 hbut hb5; have Y5 := As.mk hb5; have HBut := As.mk hbut; clear hb5 hbut))
    refine bodyPost_ret (results_cell_row rfl _ _ g2 67 #[.int .i64 0, .string (⟨#[]⟩ : ByteArray), .int .i64 0, .int .i64 0] (0, 0) _ rfl Y5.out Tryd.underlying67 rfl (by kernel_rfl)) rfl ?_
    exact ⟨rfl, HBut.out.below HBL.out (by rw [HG2.out]; exact Nat.le_refl _)⟩
  | cons t l =>
    go_enter Tryd.func44, Tryd.ntmps44
    go_wp2_with (first
      | ((with_reducible refine gate_dst (N := 2) rfl ?_); refine box_event ?hg (N := 2) ?hd (cs := #[.int .i64 0, .string (⟨#[]⟩ : ByteArray), .int .i64 0, .int .i64 0]) (t := 67) ?hr ?_; (case hd => rfl); (case hg => rfl); (case hr => first | (go_simp; done) | (go_simp; rfl)); intro g2 hg2 w2 hbx2 hbl2; obtain ⟨A, c, h1, h2, h3, h4⟩ := (HI0.out).below hbl2; have hc : w2.cell? ⟨g, 0, none⟩ = some (.slice A (l.length + 1) c) := (blk_cell h1 0).trans rfl; have hln : ((l.length : Int) + 1 == 0) = false := beq_eq_false_iff_ne.mpr (by omega); obtain ⟨ad, ead, x0, x1, x2, x3⟩ := at_T67 h4 0 (by omega) (by simp only [List.length_cons]; omega); cases ead; (try rw [show ((0 : Int)).toNat = 0 from rfl] at x0 x1 x2 x3); (try rw [show 0 * 4 = 0 from rfl] at x0 x1 x2 x3); (try rw [Addr.add_zero'] at x0 x1 x2 x3); replace x0 := pw_cell_below (bwS HB0.out hbl2) x0; replace x1 := pw_cell_below (bwS HB0.out hbl2) x1; replace x2 := pw_cell_below (bwS HB0.out hbl2) x2; replace x3 := pw_cell_below (bwS HB0.out hbl2) x3; have HBL := As.mk hbl2; have X2 := As.mk hbx2; have HG2 := As.mk hg2; clear h1 h2 h3 h4 hbx2 hbl2 hg2)
      | ((with_reducible refine gaS (t := 67) (p := 2) (v := .tmp 19) rfl ?_); refine row_event rfl 67 (.tmp 2) (.tmp 19) rfl g2 #[.int .i64 t.f0, .string t.f1, .int .i64 t.f2, .int .i64 t.f3] rfl rfl 67 _ X2.out (by kernel_rfl) rfl (by simp [Value.oneCell']) rfl ?_; intro w5 hbut hb5; have Y5 := As.mk hb5; have HBut := As.mk hbut; clear hb5 hbut))
    refine bodyPost_ret (results_cell_row rfl _ _ g2 67 #[.int .i64 t.f0, .string t.f1, .int .i64 t.f2, .int .i64 t.f3] (0, 0) _ rfl Y5.out Tryd.underlying67 rfl (by kernel_rfl)) rfl ?_
    exact ⟨rfl, HBut.out.below HBL.out (by rw [HG2.out]; exact Nat.le_refl _)⟩

set_option maxHeartbeats 4000000 in
set_option maxRecDepth 100000 in
theorem next_end (g : Nat) (l : List S67) (t : S67) (ht : peekT l = t) (h0 : t.f0 = 0) (w0 w : World) (hI : Src w0 w g l) (hB : Below w0.heap.size w0 w) :
    Calls Tryd.prog 45 #[.pointer (some ⟨g, 0, none⟩)] w fun e w' => e = .returned (tokV t) ∧ Src w0 w' g l ∧ Below w0.heap.size w0 w' ∧ KeepBut w w' g none := by
  have HP := As.mk (fun w1 h1 h2 => peek_calls g l w0 w1 h1 h2)
  rw [ht] at HP
  have HI0 := As.mk hI
  have HB0 := As.mk hB
  have HLe := As.mk hB.size
  have hz : (t.f0 != 0) = false := by simp [h0]
  clear hI hB ht h0
  go_enter Tryd.func45, Tryd.ntmps45
  go_wp2_with (first
    | ((with_reducible refine gate_dst (N := 2) rfl ?_); refine box_event ?hgg2 (N := 2) ?hdg2 (cs := #[.int .i64 0, .string (⟨#[]⟩ : ByteArray), .int .i64 0, .int .i64 0]) (t := 67) ?hrg2 ?_; (case hdg2 => rfl); (case hgg2 => rfl); (case hrg2 => first | (go_simp; done) | (go_simp; rfl)); intro g2 hg2 w2 hbx2 hbl2; have HI2 := As.mk (HI0.out.below hbl2); have HB2 := As.mk (bwS HB0.out hbl2); have HK2 := As.mk (KeepBut.of_below hbl2 g none); have X2 := As.mk hbx2; have HG2 := As.mk hg2; clear hbx2 hbl2 hg2)
    | (go_at_call 44; (with_reducible refine (HP.out _ ?s1 ?s2).mono ?_); (case s1 => exact HI2.out); (case s2 => exact HB2.out); rintro e w3 ⟨rfl, hb⟩; have HI3 := As.mk (HI2.out.below hb); have HB3 := As.mk (bwS HB2.out hb); have HK3 := As.mk (KeepBut.trans HK2.out (KeepBut.of_below hb g none) (.inl rfl)); have X3 := As.mk ((hb.block _ (blk_lt X2.out)).trans X2.out); clear hb)
    | ((with_reducible refine gate_dst (N := 3) rfl ?_); refine box_event ?hgg3 (N := 3) ?hdg3 (cs := #[.int .i64 0, .string (⟨#[]⟩ : ByteArray), .int .i64 0, .int .i64 0]) (t := 67) ?hrg3 ?_; (case hdg3 => rfl); (case hgg3 => rfl); (case hrg3 => first | (go_simp; done) | (go_simp; rfl)); intro g3 hg3 w4 hbx3 hbl3; have HI4 := As.mk (HI3.out.below hbl3); have HB4 := As.mk (bwS HB3.out hbl3); have HK4 := As.mk (KeepBut.trans HK3.out (KeepBut.of_below hbl3 g none) (.inl rfl)); have X4 := As.mk ((hbl3.block _ (blk_lt X3.out)).trans X3.out); have Y4 := As.mk hbx3; have HG3 := As.mk (show g3 ≠ g ∧ g2 ≠ g3 ∧ g2 ≠ g ∧ w.heap.size ≤ g2 ∧ w.heap.size ≤ g3 from ⟨by rw [hg3]; exact Nat.ne_of_gt HI3.out.lt, by rw [hg3]; exact Nat.ne_of_lt (blk_lt X3.out), by rw [HG2.out]; exact Nat.ne_of_gt HI0.out.lt, by rw [HG2.out]; exact Nat.le_refl _, by rw [hg3]; exact HK3.out.1⟩); clear hbx3 hbl3 hg3)
    | ((with_reducible refine gaS (t := 67) (p := 3) (v := .tmp 5) rfl ?_); refine row_event rfl 67 (.tmp 3) (.tmp 5) rfl g3 #[.int .i64 t.f0, .string t.f1, .int .i64 t.f2, .int .i64 t.f3] rfl rfl 67 _ Y4.out (by kernel_rfl) rfl (by simp [Value.oneCell']) rfl ?_; intro w5 hbut hb5; have HI5 := As.mk (HI4.out.but hbut (Ne.symm HG3.out.1)); have HB5 := As.mk (hbut.below HB4.out (Nat.le_trans HLe.out HG3.out.2.2.2.2)); have HK5 := As.mk (hbut.keep_far HK4.out HG3.out.2.2.2.2); have X5 := As.mk ((hbut.blk _ HG3.out.2.1).trans X4.out); have hk0 : w5.cell? ⟨g3, 0, none⟩ = some (.int .i64 t.f0) := (blk_cell hb5 0).trans rfl; have Y5 := As.mk hb5; clear hb5 hbut)
    | ((with_reducible refine gate_dst (N := 17) rfl ?_); refine wpList_load_row rfl 67 (.tmp 3) rfl g3 rfl 67 #[.int .i64 t.f0, .string t.f1, .int .i64 t.f2, .int .i64 t.f3] (0, 0) _ ?yy Tryd.underlying67 rfl (by kernel_rfl) ?_; (case yy => exact Y5.out))
    | ((with_reducible refine gaS (t := 67) (p := 2) (v := .tmp 17) rfl ?_); refine row_event rfl 67 (.tmp 2) (.tmp 17) rfl g2 #[.int .i64 t.f0, .string t.f1, .int .i64 t.f2, .int .i64 t.f3] rfl rfl 67 _ X5.out (by kernel_rfl) rfl (by simp [Value.oneCell']) rfl ?_; intro w6 hbut hb6; have HBut6 := As.mk hbut; have Z6 := As.mk hb6; clear hb6 hbut))
  refine bodyPost_ret (results_cell_row rfl _ _ g2 67 #[.int .i64 t.f0, .string t.f1, .int .i64 t.f2, .int .i64 t.f3] (0, 0) _ rfl Z6.out Tryd.underlying67 rfl (by kernel_rfl)) rfl ?_
  exact ⟨rfl, HI5.out.but HBut6.out (Ne.symm HG3.out.2.2.1), HBut6.out.below HB5.out (Nat.le_trans HLe.out HG3.out.2.2.2.1), HBut6.out.keep_far HK5.out HG3.out.2.2.2.1⟩

set_option maxHeartbeats 4000000 in
set_option maxRecDepth 100000 in
theorem next_more (g : Nat) (l : List S67) (t : S67) (ht : t.f0 ≠ 0) (w0 w : World) (hI : Src w0 w g (t :: l)) (hB : Below w0.heap.size w0 w) :
    Calls Tryd.prog 45 #[.pointer (some ⟨g, 0, none⟩)] w fun e w' => e = .returned (tokV t) ∧ Src w0 w' g l ∧ Below w0.heap.size w0 w' ∧ KeepBut w w' g none := by
  have HP := As.mk (fun w1 h1 h2 => peek_calls g (t :: l) w0 w1 h1 h2)
  rw [show peekT (t :: l) = t from rfl] at HP
  have HI0 := As.mk hI
  have HB0 := As.mk hB
  have HLe := As.mk hB.size
  have hz : (t.f0 != 0) = true := by simp [ht]
  clear hI hB ht
  go_enter Tryd.func45, Tryd.ntmps45
  go_wp2_with (first
    | ((with_reducible refine gate_dst (N := 2) rfl ?_); refine box_event ?hgg2 (N := 2) ?hdg2 (cs := #[.int .i64 0, .string (⟨#[]⟩ : ByteArray), .int .i64 0, .int .i64 0]) (t := 67) ?hrg2 ?_; (case hdg2 => rfl); (case hgg2 => rfl); (case hrg2 => first | (go_simp; done) | (go_simp; rfl)); intro g2 hg2 w2 hbx2 hbl2; have HI2 := As.mk (HI0.out.below hbl2); have HB2 := As.mk (bwS HB0.out hbl2); have HK2 := As.mk (KeepBut.of_below hbl2 g none); have X2 := As.mk hbx2; have HG2 := As.mk hg2; clear hbx2 hbl2 hg2)
    | (go_at_call 44; (with_reducible refine (HP.out _ ?s1 ?s2).mono ?_); (case s1 => exact HI2.out); (case s2 => exact HB2.out); rintro e w3 ⟨rfl, hb⟩; have HI3 := As.mk (HI2.out.below hb); have HB3 := As.mk (bwS HB2.out hb); have HK3 := As.mk (KeepBut.trans HK2.out (KeepBut.of_below hb g none) (.inl rfl)); have X3 := As.mk ((hb.block _ (blk_lt X2.out)).trans X2.out); clear hb)
    | ((with_reducible refine gate_dst (N := 3) rfl ?_); refine box_event ?hgg3 (N := 3) ?hdg3 (cs := #[.int .i64 0, .string (⟨#[]⟩ : ByteArray), .int .i64 0, .int .i64 0]) (t := 67) ?hrg3 ?_; (case hdg3 => rfl); (case hgg3 => rfl); (case hrg3 => first | (go_simp; done) | (go_simp; rfl)); intro g3 hg3 w4 hbx3 hbl3; have HI4 := As.mk (HI3.out.below hbl3); have HB4 := As.mk (bwS HB3.out hbl3); have HK4 := As.mk (KeepBut.trans HK3.out (KeepBut.of_below hbl3 g none) (.inl rfl)); have X4 := As.mk ((hbl3.block _ (blk_lt X3.out)).trans X3.out); have Y4 := As.mk hbx3; have HG3 := As.mk (show g3 ≠ g ∧ g2 ≠ g3 ∧ g2 ≠ g ∧ w.heap.size ≤ g2 ∧ w.heap.size ≤ g3 from ⟨by rw [hg3]; exact Nat.ne_of_gt HI3.out.lt, by rw [hg3]; exact Nat.ne_of_lt (blk_lt X3.out), by rw [HG2.out]; exact Nat.ne_of_gt HI0.out.lt, by rw [HG2.out]; exact Nat.le_refl _, by rw [hg3]; exact HK3.out.1⟩); clear hbx3 hbl3 hg3)
    | ((with_reducible refine gaS (t := 67) (p := 3) (v := .tmp 5) rfl ?_); refine row_event rfl 67 (.tmp 3) (.tmp 5) rfl g3 #[.int .i64 t.f0, .string t.f1, .int .i64 t.f2, .int .i64 t.f3] rfl rfl 67 _ Y4.out (by kernel_rfl) rfl (by simp [Value.oneCell']) rfl ?_; intro w5 hbut hb5; have HI5 := As.mk (HI4.out.but hbut (Ne.symm HG3.out.1)); have HB5 := As.mk (hbut.below HB4.out (Nat.le_trans HLe.out HG3.out.2.2.2.2)); have HK5 := As.mk (hbut.keep_far HK4.out HG3.out.2.2.2.2); have X5 := As.mk ((hbut.blk _ HG3.out.2.1).trans X4.out); have hk0 : w5.cell? ⟨g3, 0, none⟩ = some (.int .i64 t.f0) := (blk_cell hb5 0).trans rfl; have Y5 := As.mk hb5; clear hb5 hbut; obtain ⟨A, c, h1, h2, h3, h4⟩ := HI5.out; have hc : w5.cell? ⟨g, 0, none⟩ = some (.slice A (l.length + 1) c) := (blk_cell h1 0).trans rfl; have hfz := blk_frozen h1 0; have hcl : 1 ≤ c := Nat.le_trans (Nat.succ_le_succ (Nat.zero_le l.length)) h3; have H1 := As.mk h1; have H2 := As.mk h2; have H3 := As.mk h3; have H4 := As.mk h4; clear h1 h2 h3 h4)
    | ((with_reducible refine gate_dst (N := 17) rfl ?_); refine wpList_load_row rfl 67 (.tmp 3) rfl g3 rfl 67 #[.int .i64 t.f0, .string t.f1, .int .i64 t.f2, .int .i64 t.f3] (0, 0) _ ?yy Tryd.underlying67 rfl (by kernel_rfl) ?_; (case yy => exact blk_far Y5.out HG3.out.1 _))
    | ((with_reducible refine gaS (t := 67) (p := 2) (v := .tmp 17) rfl ?_); refine row_event rfl 67 (.tmp 2) (.tmp 17) rfl g2 #[.int .i64 t.f0, .string t.f1, .int .i64 t.f2, .int .i64 t.f3] rfl rfl 67 _ (blk_far X5.out HG3.out.2.2.1 _) (by kernel_rfl) rfl (by simp [Value.oneCell']) rfl ?_; intro w6 hbut hb6; have HBut6 := As.mk hbut; have Z6 := As.mk hb6; clear hb6 hbut))
  all_goals
    refine bodyPost_ret (results_cell_row rfl _ _ g2 67 #[.int .i64 t.f0, .string t.f1, .int .i64 t.f2, .int .i64 t.f3] (0, 0) _ rfl Z6.out Tryd.underlying67 rfl (by kernel_rfl)) rfl ?_
    refine ⟨rfl, ?_, HBut6.out.below (bwC HB5.out H2.out) (Nat.le_trans HLe.out HG3.out.2.2.2.1), HBut6.out.keep_far (KeepBut.set_ HK5.out 0 _) HG3.out.2.2.2.1⟩
    refine Src.but ?_ HBut6.out (Ne.symm HG3.out.2.2.1)
    have hd := Kd.C_drop (m := 1) H4.out (Nat.succ_le_succ (Nat.zero_le l.length)) H3.out
    refine ⟨_, c - 1, blk_put H1.out 0 _ rfl, H2.out, by have := H3.out; simp only [List.length_cons] at this; omega, ?_⟩
    have he : (Option.map (fun x => ({ block := x.block, off := x.off + 4, spot := none } : Addr)) A) = A.map (·.add (1 * k67.sz)) := by
      congr 1
    rw [he]
    exact hd

theorem next_calls (g : Nat) (l : List S67) (w0 w : World) (hI : Src w0 w g l) (hB : Below w0.heap.size w0 w) :
    Calls Tryd.prog 45 #[.pointer (some ⟨g, 0, none⟩)] w fun e w' => e = .returned (tokV (peekT l)) ∧ Src w0 w' g (nextT l) ∧ Below w0.heap.size w0 w' ∧ KeepBut w w' g none := by
  unfold nextT
  by_cases h : (peekT l).f0 = 0
  · rw [if_pos h]
    exact next_end g l _ rfl h w0 w hI hB
  · rw [if_neg h]
    cases l with
    | nil => exact absurd rfl h
    | cons t l => exact next_more g l t h w0 w hI hB

theorem bytes_eq {a b : ByteArray} (h : a.toList = b.toList) : a = b := by
  have e : a.data.toList = b.data.toList := by rw [← ByteArray.toList_eq, ← ByteArray.toList_eq]; exact h
  have : a.data = b.data := Array.toList_inj.1 e
  cases a; cases b
  simp_all

def isB (l : List S67) (kind : Int) (x : ByteArray) : Bool := decide ((peekT l).f0 = kind) && decide ((peekT l).f1 = x)

set_option maxHeartbeats 4000000 in
set_option maxRecDepth 100000 in
theorem is_kind (g : Nat) (l : List S67) (kind : Int) (x : ByteArray) (t : S67) (ht : peekT l = t) (h0 : t.f0 ≠ kind) (w0 w : World) (hI : Src w0 w g l) (hB : Below w0.heap.size w0 w) :
    Calls Tryd.prog 52 #[.pointer (some ⟨g, 0, none⟩), .int .i64 kind, .string x] w fun e w' => e = .returned (.bool false) ∧ Src w0 w' g l ∧ Below w0.heap.size w0 w' ∧ KeepBut w w' g none := by
  have HP := As.mk (fun w1 h1 h2 => peek_calls g l w0 w1 h1 h2)
  rw [ht] at HP
  have HI0 := As.mk hI
  have HB0 := As.mk hB
  have HLe := As.mk hB.size
  have hz : (t.f0 != kind) = true := by simp [h0]
  clear hI hB ht h0
  go_enter Tryd.func52, Tryd.ntmps52
  go_wp2_with (first
    | (go_at_call 44; (with_reducible refine (HP.out _ HI0.out HB0.out).mono ?_); rintro e w3 ⟨rfl, hb⟩; have HI3 := As.mk (HI0.out.below hb); have HB3 := As.mk (bwS HB0.out hb); have HK3 := As.mk (KeepBut.of_below hb g none); clear hb)
    | ((with_reducible refine gate_dst (N := 7) rfl ?_); refine box_event ?hgg3 (N := 7) ?hdg3 (cs := #[.int .i64 0, .string (⟨#[]⟩ : ByteArray), .int .i64 0, .int .i64 0]) (t := 67) ?hrg3 ?_; (case hdg3 => rfl); (case hgg3 => rfl); (case hrg3 => first | (go_simp; done) | (go_simp; rfl)); intro g3 hg7 w4 hbx7 hbl7; have HI4 := As.mk (HI3.out.below hbl7); have HB4 := As.mk (bwS HB3.out hbl7); have HK4 := As.mk (KeepBut.trans HK3.out (KeepBut.of_below hbl7 g none) (.inl rfl)); have Y4 := As.mk hbx7; have HG3 := As.mk (show g3 ≠ g ∧ w.heap.size ≤ g3 from ⟨by rw [hg7]; exact Nat.ne_of_gt HI3.out.lt, by rw [hg7]; exact HK3.out.1⟩); clear hbx7 hbl7 hg7)
    | ((with_reducible refine gaS (t := 67) (p := 7) (v := .tmp 9) rfl ?_); refine row_event rfl 67 (.tmp 7) (.tmp 9) rfl g3 #[.int .i64 t.f0, .string t.f1, .int .i64 t.f2, .int .i64 t.f3] rfl rfl 67 _ Y4.out (by kernel_rfl) rfl (by simp [Value.oneCell']) rfl ?_; intro w5 hbut hb5; have HI5 := As.mk (HI4.out.but hbut (Ne.symm HG3.out.1)); have HB5 := As.mk (hbut.below HB4.out (Nat.le_trans HLe.out HG3.out.2)); have HK5 := As.mk (hbut.keep_far HK4.out HG3.out.2); have hk0 : w5.cell? ⟨g3, 0, none⟩ = some (.int .i64 t.f0) := (blk_cell hb5 0).trans rfl; have hk1 : w5.cell? ⟨g3, 1, none⟩ = some (.string t.f1) := (blk_cell hb5 1).trans rfl; clear hb5 hbut)
    | (go_at_call 45; (with_reducible refine (next_calls g l w0 _ HI5.out HB5.out).mono ?_); rintro e w6 ⟨rfl, hi, hb, hk⟩; have HI6 := As.mk hi; have HB6 := As.mk hb; have HK6 := As.mk (KeepBut.trans HK5.out hk (.inl rfl)); clear hi hb hk))
  go_ret
  exact ⟨rfl, HI5.out, HB5.out, HK5.out⟩

set_option maxHeartbeats 4000000 in
set_option maxRecDepth 100000 in
theorem is_text (g : Nat) (l : List S67) (kind : Int) (x : ByteArray) (t : S67) (ht : peekT l = t) (h0 : t.f0 = kind) (h1 : t.f1.toList ≠ x.toList) (w0 w : World) (hI : Src w0 w g l) (hB : Below w0.heap.size w0 w) :
    Calls Tryd.prog 52 #[.pointer (some ⟨g, 0, none⟩), .int .i64 kind, .string x] w fun e w' => e = .returned (.bool false) ∧ Src w0 w' g l ∧ Below w0.heap.size w0 w' ∧ KeepBut w w' g none := by
  have HP := As.mk (fun w1 h1 h2 => peek_calls g l w0 w1 h1 h2)
  rw [ht] at HP
  have HI0 := As.mk hI
  have HB0 := As.mk hB
  have HLe := As.mk hB.size
  have hz : (t.f0 != kind) = false := by simp [h0]
  have hy : (t.f1.toList != x.toList) = true := by simp [h1]
  have hy2 : (t.f1.toList == x.toList) = false := by simp [h1]
  clear hI hB ht h0 h1
  go_enter Tryd.func52, Tryd.ntmps52
  go_wp2_with (first
    | (go_at_call 44; (with_reducible refine (HP.out _ HI0.out HB0.out).mono ?_); rintro e w3 ⟨rfl, hb⟩; have HI3 := As.mk (HI0.out.below hb); have HB3 := As.mk (bwS HB0.out hb); have HK3 := As.mk (KeepBut.of_below hb g none); clear hb)
    | ((with_reducible refine gate_dst (N := 7) rfl ?_); refine box_event ?hgg3 (N := 7) ?hdg3 (cs := #[.int .i64 0, .string (⟨#[]⟩ : ByteArray), .int .i64 0, .int .i64 0]) (t := 67) ?hrg3 ?_; (case hdg3 => rfl); (case hgg3 => rfl); (case hrg3 => first | (go_simp; done) | (go_simp; rfl)); intro g3 hg7 w4 hbx7 hbl7; have HI4 := As.mk (HI3.out.below hbl7); have HB4 := As.mk (bwS HB3.out hbl7); have HK4 := As.mk (KeepBut.trans HK3.out (KeepBut.of_below hbl7 g none) (.inl rfl)); have Y4 := As.mk hbx7; have HG3 := As.mk (show g3 ≠ g ∧ w.heap.size ≤ g3 from ⟨by rw [hg7]; exact Nat.ne_of_gt HI3.out.lt, by rw [hg7]; exact HK3.out.1⟩); clear hbx7 hbl7 hg7)
    | ((with_reducible refine gaS (t := 67) (p := 7) (v := .tmp 9) rfl ?_); refine row_event rfl 67 (.tmp 7) (.tmp 9) rfl g3 #[.int .i64 t.f0, .string t.f1, .int .i64 t.f2, .int .i64 t.f3] rfl rfl 67 _ Y4.out (by kernel_rfl) rfl (by simp [Value.oneCell']) rfl ?_; intro w5 hbut hb5; have HI5 := As.mk (HI4.out.but hbut (Ne.symm HG3.out.1)); have HB5 := As.mk (hbut.below HB4.out (Nat.le_trans HLe.out HG3.out.2)); have HK5 := As.mk (hbut.keep_far HK4.out HG3.out.2); have hk0 : w5.cell? ⟨g3, 0, none⟩ = some (.int .i64 t.f0) := (blk_cell hb5 0).trans rfl; have hk1 : w5.cell? ⟨g3, 1, none⟩ = some (.string t.f1) := (blk_cell hb5 1).trans rfl; clear hb5 hbut)
    | (go_at_call 45; (with_reducible refine (next_calls g l w0 _ HI5.out HB5.out).mono ?_); rintro e w6 ⟨rfl, hi, hb, hk⟩; have HI6 := As.mk hi; have HB6 := As.mk hb; have HK6 := As.mk (KeepBut.trans HK5.out hk (.inl rfl)); clear hi hb hk))
  go_ret
  exact ⟨rfl, HI5.out, HB5.out, HK5.out⟩

set_option maxHeartbeats 4000000 in
set_option maxRecDepth 100000 in
theorem is_yes (g : Nat) (l : List S67) (kind : Int) (x : ByteArray) (t : S67) (ht : peekT l = t) (h0 : t.f0 = kind) (h1 : t.f1.toList = x.toList) (hk : kind ≠ 0) (w0 w : World) (hI : Src w0 w g l) (hB : Below w0.heap.size w0 w) :
    Calls Tryd.prog 52 #[.pointer (some ⟨g, 0, none⟩), .int .i64 kind, .string x] w fun e w' => e = .returned (.bool true) ∧ Src w0 w' g (nextT l) ∧ Below w0.heap.size w0 w' ∧ KeepBut w w' g none := by
  have HP := As.mk (fun w1 h1 h2 => peek_calls g l w0 w1 h1 h2)
  rw [ht] at HP
  have HI0 := As.mk hI
  have HB0 := As.mk hB
  have HLe := As.mk hB.size
  have hz : (t.f0 != kind) = false := by simp [h0]
  have hy : (t.f1.toList != x.toList) = false := by simp [h1]
  have hy2 : (t.f1.toList == x.toList) = true := by simp [h1]
  have hk0 : (kind == 0) = false := by simp [hk]
  clear hI hB ht h0 h1 hk
  go_enter Tryd.func52, Tryd.ntmps52
  go_wp2_with (first
    | (go_at_call 44; (with_reducible refine (HP.out _ HI0.out HB0.out).mono ?_); rintro e w3 ⟨rfl, hb⟩; have HI3 := As.mk (HI0.out.below hb); have HB3 := As.mk (bwS HB0.out hb); have HK3 := As.mk (KeepBut.of_below hb g none); clear hb)
    | ((with_reducible refine gate_dst (N := 7) rfl ?_); refine box_event ?hgg3 (N := 7) ?hdg3 (cs := #[.int .i64 0, .string (⟨#[]⟩ : ByteArray), .int .i64 0, .int .i64 0]) (t := 67) ?hrg3 ?_; (case hdg3 => rfl); (case hgg3 => rfl); (case hrg3 => first | (go_simp; done) | (go_simp; rfl)); intro g3 hg7 w4 hbx7 hbl7; have HI4 := As.mk (HI3.out.below hbl7); have HB4 := As.mk (bwS HB3.out hbl7); have HK4 := As.mk (KeepBut.trans HK3.out (KeepBut.of_below hbl7 g none) (.inl rfl)); have Y4 := As.mk hbx7; have HG3 := As.mk (show g3 ≠ g ∧ w.heap.size ≤ g3 from ⟨by rw [hg7]; exact Nat.ne_of_gt HI3.out.lt, by rw [hg7]; exact HK3.out.1⟩); clear hbx7 hbl7 hg7)
    | ((with_reducible refine gaS (t := 67) (p := 7) (v := .tmp 9) rfl ?_); refine row_event rfl 67 (.tmp 7) (.tmp 9) rfl g3 #[.int .i64 t.f0, .string t.f1, .int .i64 t.f2, .int .i64 t.f3] rfl rfl 67 _ Y4.out (by kernel_rfl) rfl (by simp [Value.oneCell']) rfl ?_; intro w5 hbut hb5; have HI5 := As.mk (HI4.out.but hbut (Ne.symm HG3.out.1)); have HB5 := As.mk (hbut.below HB4.out (Nat.le_trans HLe.out HG3.out.2)); have HK5 := As.mk (hbut.keep_far HK4.out HG3.out.2); have hk0 : w5.cell? ⟨g3, 0, none⟩ = some (.int .i64 t.f0) := (blk_cell hb5 0).trans rfl; have hk1 : w5.cell? ⟨g3, 1, none⟩ = some (.string t.f1) := (blk_cell hb5 1).trans rfl; clear hb5 hbut)
    | (go_at_call 45; (with_reducible refine (next_calls g l w0 _ HI5.out HB5.out).mono ?_); rintro e w6 ⟨rfl, hi, hb, hk⟩; have HI6 := As.mk hi; have HB6 := As.mk hb; have HK6 := As.mk (KeepBut.trans HK5.out hk (.inl rfl)); clear hi hb hk))
  go_ret
  exact ⟨rfl, HI6.out, HB6.out, HK6.out⟩

theorem is_calls (g : Nat) (l : List S67) (kind : Int) (x : ByteArray) (hk : kind ≠ 0) (w0 w : World) (hI : Src w0 w g l) (hB : Below w0.heap.size w0 w) :
    Calls Tryd.prog 52 #[.pointer (some ⟨g, 0, none⟩), .int .i64 kind, .string x] w fun e w' => e = .returned (.bool (isB l kind x)) ∧ Src w0 w' g (if isB l kind x then nextT l else l) ∧ Below w0.heap.size w0 w' ∧ KeepBut w w' g none := by
  unfold isB
  by_cases h0 : (peekT l).f0 = kind
  · by_cases h1 : (peekT l).f1 = x
    · rw [decide_eq_true h0, decide_eq_true h1]
      exact is_yes g l kind x _ rfl h0 (by rw [h1]) hk w0 w hI hB
    · rw [decide_eq_true h0, decide_eq_false h1]
      exact is_text g l kind x _ rfl h0 (fun h => h1 (bytes_eq h)) w0 w hI hB
  · rw [decide_eq_false h0]
    exact is_kind g l kind x _ rfl h0 w0 w hI hB

/-- The first error stays. -/
def wr (e c : Int) : Int := if e = 0 then c else e

def opNode (op : Int) : S53 := ⟨op, z51, ⟨#[]⟩, ⟨#[]⟩⟩
def conNode (kind n : Int) (s : ByteArray) (b : Bool) : S53 := ⟨1, ⟨kind, n, s, b⟩, ⟨#[]⟩, ⟨#[]⟩⟩
def fldNode (v f : ByteArray) : S53 := ⟨2, z51, v, f⟩

/-- Which part a piece between two others is, and how strong; (0, 0): none. -/
def binF (t : S67) : Int × Int :=
  if t.f0 = 5 ∨ t.f0 = 2 then
    (if t.f1 = ⟨#[43]⟩ then (4, 5) else if t.f1 = ⟨#[45]⟩ then (5, 5) else if t.f1 = ⟨#[42]⟩ then (6, 6)
     else if t.f1 = ⟨#[61]⟩ then (7, 4) else if t.f1 = ⟨#[33, 61]⟩ then (8, 4) else if t.f1 = ⟨#[60]⟩ then (9, 4)
     else if t.f1 = ⟨#[60, 61]⟩ then (10, 4) else if t.f1 = ⟨#[62]⟩ then (11, 4) else if t.f1 = ⟨#[62, 61]⟩ then (12, 4)
     else if t.f1 = ⟨#[97, 110, 100]⟩ then (14, 2) else if t.f1 = ⟨#[111, 114]⟩ then (15, 1) else (0, 0))
  else (0, 0)

mutual
/-- Parts that are at least so strong: their nodes, the pieces left, the first error. -/
def levelF : Nat → Int → Int → List S67 → Int → Option (List S53 × List S67 × Int)
  | 0, _, _, _, _ => none
  | k + 1, least, depth, l, e =>
    if 140 < depth then some ([], l, wr e 5)
    else (oneF k depth l e).bind fun r => loopF k least depth r.1 r.2.1 r.2.2
def loopF : Nat → Int → Int → List S53 → List S67 → Int → Option (List S53 × List S67 × Int)
  | 0, _, _, _, _, _ => none
  | k + 1, least, depth, a, l, e =>
    if e = 0 then
      (if (binF (peekT l)).1 = 0 then some (a, l, e)
       else if (binF (peekT l)).2 < least then some (a, l, e)
       else (levelF k ((binF (peekT l)).2 + 1) (depth + 1) (nextT l) e).bind fun r =>
         if 64 < (a ++ r.1 ++ [opNode (binF (peekT l)).1]).length then some ([], r.2.1, wr r.2.2 5)
         else if (binF (peekT l)).2 = 4 ∧ (binF (peekT r.2.1)).2 = 4 then some ([], r.2.1, wr r.2.2 2)
         else loopF k least depth (a ++ r.1 ++ [opNode (binF (peekT l)).1]) r.2.1 r.2.2)
    else some (a, l, e)
def oneF : Nat → Int → List S67 → Int → Option (List S53 × List S67 × Int)
  | 0, _, _, _ => none
  | k + 1, depth, l, e =>
    if 140 < depth then some ([], l, wr e 5)
    else if (peekT l).f0 = 3 then some ([conNode 1 (peekT l).f2 ⟨#[]⟩ false], nextT l, e)
    else if (peekT l).f0 = 4 then some ([conNode 2 0 (peekT l).f1 false], nextT l, e)
    else if (peekT l).f0 = 2 then
      (if (peekT l).f1 = ⟨#[116, 114, 117, 101]⟩ then some ([conNode 3 0 ⟨#[]⟩ true], nextT l, e)
       else if (peekT l).f1 = ⟨#[102, 97, 108, 115, 101]⟩ then some ([conNode 3 0 ⟨#[]⟩ false], nextT l, e)
       else if (peekT l).f1 = ⟨#[110, 111, 116]⟩ then (levelF k 3 (depth + 1) (nextT l) e).bind fun r => some (r.1 ++ [opNode 13], r.2.1, r.2.2)
       else some ([], nextT l, wr e 2))
    else if (peekT l).f0 = 5 then
      (if (peekT l).f1 = ⟨#[45]⟩ then minusF k depth (nextT l) e
       else if (peekT l).f1 = ⟨#[40]⟩ then (levelF k 1 (depth + 1) (nextT l) e).bind fun r =>
         if isB r.2.1 5 ⟨#[41]⟩ then some (r.1, nextT r.2.1, r.2.2) else some ([], r.2.1, wr r.2.2 2)
       else some ([], nextT l, wr e 2))
    else if (peekT l).f0 = 1 then
      (if isB (nextT l) 5 ⟨#[46]⟩ then
        (if (peekT (nextT (nextT l))).f0 = 1 then some ([fldNode (peekT l).f1 (peekT (nextT (nextT l))).f1], nextT (nextT (nextT l)), e)
         else some ([], nextT (nextT (nextT l)), wr e 2))
       else some ([], nextT l, wr e 2))
    else some ([], nextT l, wr e 2)
def minusF : Nat → Int → List S67 → Int → Option (List S53 × List S67 × Int)
  | 0, _, _, _ => none
  | k + 1, depth, l, e =>
    if (peekT l).f0 = 3 then some ([conNode 1 (wrap64 (-(peekT l).f2)) ⟨#[]⟩ false], nextT l, e)
    else (oneF k (depth + 1) l e).bind fun r => some (r.1 ++ [opNode 3], r.2.1, r.2.2)
end

end Go.Proofs.YtpijgeijflbmhaaDoor.P

/- Go functions of the given program come to what plain Lean functions say: walks, printed by a program of this session's (after the kit's print); no conditions beyond each theorem's own. -/
namespace Go.Proofs.YtpijgeijflbmhaaDoor.P
open Go.RowKit Go.Proofs.YtpijgeijflbmhaaDoorW.PrintWords Go.Proofs.YtpijgeijflbmhaaDoorW.PrintLast Go.Proofs.YtpijgeijflbmhaaDoorW.PrintMore
attribute [local go_sem] max2_int min2_int max_two min_two max_three min_three max_four min_four   -- for this text's walks alone
set_option linter.unusedVariables false
set_option linter.unusedSimpArgs false

/-- A state of type 105 at block g of W; what its slices lead to came in by w0. -/
def IsS105 (w0 W : World) (g : Nat) (f0 : ByteArray) (f1 : Int) : Prop := W.heap[g]? = some (.cells #[.string f0, .int .i64 f1] 105 (0, 0)) ∧ w0.heap.size ≤ g
theorem IsS105.grown {w0 W : World} {g : Nat} {f0 : ByteArray} {f1 : Int} {W1 : World} {row : Option Nat} (h : IsS105 w0 W g f0 f1) (hw : W.grownBy W1 row) (hne : some g ≠ row) : IsS105 w0 W1 g f0 f1 := by
 obtain ⟨hb, hg⟩ := h
 exact ⟨blk_grown hb hw hne, hg⟩
theorem IsS105.below {w0 W : World} {g : Nat} {f0 : ByteArray} {f1 : Int} {W1 : World} (h : IsS105 w0 W g f0 f1) (hw : Below W.heap.size W W1) : IsS105 w0 W1 g f0 f1 := h.grown (grown_of_below hw none) (by simp)
theorem IsS105.drewN {w0 W : World} {g : Nat} {f0 : ByteArray} {f1 : Int} (h : IsS105 w0 W g f0 f1) (m : Nat) : IsS105 w0 (W.drewN m) g f0 f1 := h
theorem IsS105.apart {w0 W : World} {g : Nat} {f0 : ByteArray} {f1 : Int} {α : Type} {d : Kd α} {e : Nat} {base : Nat} {ok : Nat → Prop} {v : Value} {xs : List α} (h : IsS105 w0 W g f0 f1) (ho : d.R e W base ok v xs) (ht : ∀ q, q ∈ e :: d.E → q ≠ 105) : d.R e W base (fun k => ok k ∧ k ≠ g) v xs := by
 obtain ⟨hb, hg⟩ := h
 exact Kd.R_types ho hb ht
theorem IsS105.own_ne {w0 W : World} {g : Nat} {f0 : ByteArray} {f1 : Int} {α : Type} {d : Kd α} {e : Nat} {base : Nat} {ok : Nat → Prop} {v : Value} {xs : List α} (h : IsS105 w0 W g f0 f1) (ho : d.R e W base ok v xs) (ht : e ≠ 105) : some g ≠ v.ownBlock := by
 obtain ⟨hb, hg⟩ := h
 exact Kd.R_ne ho hb ht
theorem IsS105.lt {w0 W : World} {g : Nat} {f0 : ByteArray} {f1 : Int} (h : IsS105 w0 W g f0 f1) : g < W.heap.size := by
 obtain ⟨hb, hg⟩ := h
 exact blk_lt hb
theorem IsS105.ge {w0 W : World} {g : Nat} {f0 : ByteArray} {f1 : Int} (h : IsS105 w0 W g f0 f1) : w0.heap.size ≤ g := by
 obtain ⟨hb, hg⟩ := h
 exact hg
theorem IsS105.far {w0 W : World} {g : Nat} {f0 : ByteArray} {f1 : Int} {p : Addr} (h : IsS105 w0 W g f0 f1) (hne : g ≠ p.block) (u : Value) : IsS105 w0 (W.setCell p u) g f0 f1 := by
 obtain ⟨hb, hg⟩ := h
 exact ⟨blk_far hb hne u, hg⟩
theorem cellS105_0 {W : World} {g : Nat} {f0 : ByteArray} {f1 : Int} (h : W.heap[g]? = some (.cells #[.string f0, .int .i64 f1] 105 (0, 0))) : W.cell? ⟨g, 0, none⟩ = some (.string f0) := (blk_cell h 0).trans rfl
theorem cellS105_1 {W : World} {g : Nat} {f0 : ByteArray} {f1 : Int} (h : W.heap[g]? = some (.cells #[.string f0, .int .i64 f1] 105 (0, 0))) : W.cell? ⟨g, 1, none⟩ = some (.int .i64 f1) := (blk_cell h 1).trans rfl
theorem IsS105.set_1 {w0 W : World} {g : Nat} {f0 : ByteArray} {f1 : Int} (h : IsS105 w0 W g f0 f1) (x : Int) : IsS105 w0 (W.setCell ⟨g, 1, none⟩ (.int .i64 x)) g f0 x := by
 obtain ⟨hb, hg⟩ := h
 exact ⟨by simpa using blk_set hb 1 (.int .i64 x), hg⟩

/-! ### text_Reader_Left: function 39 -/
def text_Reader_Left.f (s0_0 : ByteArray) (s0_1 : Int) : Option (Int × ByteArray × Int) := some (wrap64 ((s0_0.size : Int) - s0_1), s0_0, s0_1)
set_option maxHeartbeats 8000000 in
set_option maxRecDepth 100000 in
theorem text_Reader_Left.calls (g : Nat) (s0_0 : ByteArray) (s0_1 : Int) (r1 : Int) (r2 : ByteArray) (r3 : Int) (w0 w : World) (hI : IsS105 w0 w g s0_0 s0_1) (hB : Below w0.heap.size w0 w) (h : text_Reader_Left.f s0_0 s0_1 = some (r1, r2, r3)) :
  Calls Tryd.prog 39 #[.pointer (some ⟨g, 0, none⟩)] w fun e w' => e = .returned (.int .i64 r1) ∧ IsS105 w0 w' g r2 r3 ∧ Below w0.heap.size w0 w' ∧ KeepBut w w' g none := by
 have HI0 := As.mk hI
 have HK := As.mk (KeepBut.refl w g none)
 have HL := As.mk hB.size
 clear hI
 have HW0 := As.mk hB.size
 have HB := As.mk hB
 clear hB
 have H : (some (wrap64 ((s0_0.size : Int) - s0_1), s0_0, s0_1)) = some (r1, r2, r3) := h
 clear h
 simp only [Option.some.injEq, Prod.mk.injEq] at H
 obtain ⟨rfl, rfl, rfl⟩ := H
 obtain ⟨HGz2, hgz2⟩ := HI0.out
 have hcz2_0 := cellS105_0 HGz2
 have hcz2_1 := cellS105_1 HGz2
 have hfz2_0 := blk_frozen HGz2 0
 have hfz2_1 := blk_frozen HGz2 1
 clear HGz2 hgz2
 go_enter Tryd.func39, Tryd.ntmps39
 go_wp2
 repeat (go_quiet (fail); try go_wp2)
 go_ret
 exact ⟨by first | rfl | (simp [errW_none, errW_some] <;> rfl) | (simp [*, errW_none, errW_some] <;> rfl), by repeat (first | (with_reducible first | exact HI0.out | apply IsS105.alloc | apply IsS105.drewN | apply IsS105.drew | apply IsS105.set_0 | apply IsS105.set_1) | exact HI0.out), by repeat (first | (with_reducible first | exact HB.out | apply bwA | apply bwN | apply bwD | refine bwC ?_ (IsS105.ge HI0.out)) | exact HB.out), by repeat (first | (with_reducible first | exact HK.out | apply KeepBut.set_ | apply kpN | apply kpD | apply kpA) | exact HK.out)⟩

/-! ### text_Reader_Byte: function 81 -/
def text_Reader_Byte.f (s0_0 : ByteArray) (s0_1 : Int) : Option (Int × ByteArray × Int) := (text_Reader_Left.f s0_0 s0_1).bind fun bt101 => (if bt101.1 = 0 then (some (0, bt101.2.1, bt101.2.2)) else (if 0 ≤ (wrap64 ((wrap64 (bt101.2.2 + 1)) - 1)) then (if (wrap64 ((wrap64 (bt101.2.2 + 1)) - 1)) < (bt101.2.1.size : Int) then (some (bt bt101.2.1 (wrap64 ((wrap64 (bt101.2.2 + 1)) - 1)), bt101.2.1, wrap64 (bt101.2.2 + 1))) else (none)) else (none)))
set_option maxHeartbeats 8000000 in
set_option maxRecDepth 100000 in
theorem text_Reader_Byte.calls (g : Nat) (s0_0 : ByteArray) (s0_1 : Int) (r1 : Int) (r2 : ByteArray) (r3 : Int) (w0 w : World) (hI : IsS105 w0 w g s0_0 s0_1) (hB : Below w0.heap.size w0 w) (h : text_Reader_Byte.f s0_0 s0_1 = some (r1, r2, r3)) :
  Calls Tryd.prog 81 #[.pointer (some ⟨g, 0, none⟩)] w fun e w' => e = .returned (.int .u8 r1) ∧ IsS105 w0 w' g r2 r3 ∧ Below w0.heap.size w0 w' ∧ KeepBut w w' g none := by
 have HI0 := As.mk hI
 have HK := As.mk (KeepBut.refl w g none)
 have HL := As.mk hB.size
 clear hI
 have HW0 := As.mk hB.size
 have HB := As.mk hB
 clear hB
 have H : ((text_Reader_Left.f s0_0 s0_1).bind fun bt101 => (if bt101.1 = 0 then (some (0, bt101.2.1, bt101.2.2)) else (if 0 ≤ (wrap64 ((wrap64 (bt101.2.2 + 1)) - 1)) then (if (wrap64 ((wrap64 (bt101.2.2 + 1)) - 1)) < (bt101.2.1.size : Int) then (some (bt bt101.2.1 (wrap64 ((wrap64 (bt101.2.2 + 1)) - 1)), bt101.2.1, wrap64 (bt101.2.2 + 1))) else (none)) else (none)))) = some (r1, r2, r3) := h
 clear h
 replace H := Option.bind_eq_some_iff.mp H
 obtain ⟨⟨t101, t102, t103⟩, A20, H⟩ := H
 replace H : (if t101 = 0 then (some (0, t102, t103)) else (if 0 ≤ (wrap64 ((wrap64 (t103 + 1)) - 1)) then (if (wrap64 ((wrap64 (t103 + 1)) - 1)) < (t102.size : Int) then (some (bt t102 (wrap64 ((wrap64 (t103 + 1)) - 1)), t102, wrap64 (t103 + 1))) else (none)) else (none))) = some (r1, r2, r3) := H
 have A2 := As.mk A20
 clear A20
 by_cases c3 : t101 = 0
 ·
  rw [if_pos c3] at H
  have c3b0 : (t101 == 0) = true := beq_iff_eq.mpr c3
  have c3b1 : (t101 != 0) = false := bne_eq_false_iff_eq.mpr c3
  clear c3
  simp only [Option.some.injEq, Prod.mk.injEq] at H
  obtain ⟨rfl, rfl, rfl⟩ := H
  go_enter Tryd.func81, Tryd.ntmps81
  go_wp2_with (first | (go_at_call 39; (with_reducible refine (text_Reader_Left.calls g s0_0 s0_1 t101 t102 t103 w0 _ ?side1 ?side2 A2.out).mono ?_); (case side1 => repeat (first | (with_reducible first | exact HI0.out | apply IsS105.alloc | apply IsS105.drewN | apply IsS105.drew | apply IsS105.set_0 | apply IsS105.set_1) | exact HI0.out)); (case side2 => repeat (first | (with_reducible first | exact HB.out | apply bwA | apply bwN | apply bwD | refine bwC ?_ (IsS105.ge HI0.out)) | exact HB.out)); rintro e w4 ⟨rfl, hi, hb, hk⟩; have n0_ := As.mk (KeepBut.trans (by repeat (first | (with_reducible first | exact HK.out | apply KeepBut.set_ | apply kpN | apply kpD | apply kpA) | exact HK.out)) hk (.inl rfl)); have n1_ := As.mk (hb); have n2_ := As.mk (hi); clear HK; clear HB; clear HI0; have HK := n0_; have HB := n1_; have HI0 := n2_; clear n0_ n1_ n2_; (try clear hb); (try clear hb2); (try clear hk); (try clear hi)))
  repeat (go_quiet (first | (go_at_call 39; (with_reducible refine (text_Reader_Left.calls g s0_0 s0_1 t101 t102 t103 w0 _ ?side1 ?side2 A2.out).mono ?_); (case side1 => repeat (first | (with_reducible first | exact HI0.out | apply IsS105.alloc | apply IsS105.drewN | apply IsS105.drew | apply IsS105.set_0 | apply IsS105.set_1) | exact HI0.out)); (case side2 => repeat (first | (with_reducible first | exact HB.out | apply bwA | apply bwN | apply bwD | refine bwC ?_ (IsS105.ge HI0.out)) | exact HB.out)); rintro e w4 ⟨rfl, hi, hb, hk⟩; have n0_ := As.mk (KeepBut.trans (by repeat (first | (with_reducible first | exact HK.out | apply KeepBut.set_ | apply kpN | apply kpD | apply kpA) | exact HK.out)) hk (.inl rfl)); have n1_ := As.mk (hb); have n2_ := As.mk (hi); clear HK; clear HB; clear HI0; have HK := n0_; have HB := n1_; have HI0 := n2_; clear n0_ n1_ n2_; (try clear hb); (try clear hb2); (try clear hk); (try clear hi))); try go_wp2_with (first | (go_at_call 39; (with_reducible refine (text_Reader_Left.calls g s0_0 s0_1 t101 t102 t103 w0 _ ?side1 ?side2 A2.out).mono ?_); (case side1 => repeat (first | (with_reducible first | exact HI0.out | apply IsS105.alloc | apply IsS105.drewN | apply IsS105.drew | apply IsS105.set_0 | apply IsS105.set_1) | exact HI0.out)); (case side2 => repeat (first | (with_reducible first | exact HB.out | apply bwA | apply bwN | apply bwD | refine bwC ?_ (IsS105.ge HI0.out)) | exact HB.out)); rintro e w4 ⟨rfl, hi, hb, hk⟩; have n0_ := As.mk (KeepBut.trans (by repeat (first | (with_reducible first | exact HK.out | apply KeepBut.set_ | apply kpN | apply kpD | apply kpA) | exact HK.out)) hk (.inl rfl)); have n1_ := As.mk (hb); have n2_ := As.mk (hi); clear HK; clear HB; clear HI0; have HK := n0_; have HB := n1_; have HI0 := n2_; clear n0_ n1_ n2_; (try clear hb); (try clear hb2); (try clear hk); (try clear hi))))
  go_ret
  exact ⟨by first | rfl | (simp [errW_none, errW_some] <;> rfl) | (simp [*, errW_none, errW_some] <;> rfl), by repeat (first | (with_reducible first | exact HI0.out | apply IsS105.alloc | apply IsS105.drewN | apply IsS105.drew | apply IsS105.set_0 | apply IsS105.set_1) | exact HI0.out), by repeat (first | (with_reducible first | exact HB.out | apply bwA | apply bwN | apply bwD | refine bwC ?_ (IsS105.ge HI0.out)) | exact HB.out), by repeat (first | (with_reducible first | exact HK.out | apply KeepBut.set_ | apply kpN | apply kpD | apply kpA) | exact HK.out)⟩
 ·
  rw [if_neg c3] at H
  have c3b0 : (t101 == 0) = false := beq_eq_false_iff_ne.mpr c3
  have c3b1 : (t101 != 0) = true := bne_iff_ne.mpr c3
  obtain ⟨ji5, hji5⟩ : ∃ j_ : Int, (wrap64 ((wrap64 (t103 + 1)) - 1)) = j_ := ⟨_, rfl⟩
  replace H : (if 0 ≤ (ji5) then (if (ji5) < (t102.size : Int) then (some (bt t102 (ji5), t102, wrap64 (t103 + 1))) else (none)) else (none)) = some (r1, r2, r3) := by first | (rw [hji5] at H; exact H) | (simp only [hji5] at H ⊢; exact H)
  (try rw [hji5] at A2)
  have hji5w : (IntKind.i64.wrap ((wrap64 (t103 + 1)) - 1)) = ji5 := (i64_w _).trans hji5
  replace H := ite_some H
  obtain ⟨c6, H⟩ := H
  have c6b0 : decide (0 ≤ (ji5)) = true := decide_eq_true c6
  clear c6
  replace H := ite_some H
  obtain ⟨c7, H⟩ := H
  have c7b0 : decide ((ji5) < (t102.size : Int)) = true := decide_eq_true c7
  clear c7
  simp only [Option.some.injEq, Prod.mk.injEq] at H
  obtain ⟨rfl, rfl, rfl⟩ := H
  go_enter Tryd.func81, Tryd.ntmps81
  go_wp2_with (first | (go_at_call 39; (with_reducible refine (text_Reader_Left.calls g s0_0 s0_1 t101 t102 t103 w0 _ ?side1 ?side2 A2.out).mono ?_); (case side1 => repeat (first | (with_reducible first | exact HI0.out | apply IsS105.alloc | apply IsS105.drewN | apply IsS105.drew | apply IsS105.set_0 | apply IsS105.set_1) | exact HI0.out)); (case side2 => repeat (first | (with_reducible first | exact HB.out | apply bwA | apply bwN | apply bwD | refine bwC ?_ (IsS105.ge HI0.out)) | exact HB.out)); rintro e w9 ⟨rfl, hi, hb, hk⟩; have n0_ := As.mk (KeepBut.trans (by repeat (first | (with_reducible first | exact HK.out | apply KeepBut.set_ | apply kpN | apply kpD | apply kpA) | exact HK.out)) hk (.inl rfl)); have n1_ := As.mk (hb); have n2_ := As.mk (hi); clear HK; clear HB; clear HI0; have HK := n0_; have HB := n1_; have HI0 := n2_; clear n0_ n1_ n2_; (try clear hb); (try clear hb2); (try clear hk); (try clear hi); obtain ⟨HGz10, hgz10⟩ := HI0.out; have hcz10_0 := cellS105_0 HGz10; have hcz10_1 := cellS105_1 HGz10; have hfz10_0 := blk_frozen HGz10 0; have hfz10_1 := blk_frozen HGz10 1; clear HGz10 hgz10; have p8 : 0 ≤ ((ji5) : Int) := of_decide_eq_true (by first | (with_reducible assumption) | assumption); have q8 : (ji5) < (t102.size : Int) := of_decide_eq_true (by first | (with_reducible assumption) | assumption); have hx8 := bt_at t102 (ji5); replace p8 := eq_true p8; replace q8 := eq_true q8))
  repeat (go_quiet (first | (go_at_call 39; (with_reducible refine (text_Reader_Left.calls g s0_0 s0_1 t101 t102 t103 w0 _ ?side1 ?side2 A2.out).mono ?_); (case side1 => repeat (first | (with_reducible first | exact HI0.out | apply IsS105.alloc | apply IsS105.drewN | apply IsS105.drew | apply IsS105.set_0 | apply IsS105.set_1) | exact HI0.out)); (case side2 => repeat (first | (with_reducible first | exact HB.out | apply bwA | apply bwN | apply bwD | refine bwC ?_ (IsS105.ge HI0.out)) | exact HB.out)); rintro e w9 ⟨rfl, hi, hb, hk⟩; have n0_ := As.mk (KeepBut.trans (by repeat (first | (with_reducible first | exact HK.out | apply KeepBut.set_ | apply kpN | apply kpD | apply kpA) | exact HK.out)) hk (.inl rfl)); have n1_ := As.mk (hb); have n2_ := As.mk (hi); clear HK; clear HB; clear HI0; have HK := n0_; have HB := n1_; have HI0 := n2_; clear n0_ n1_ n2_; (try clear hb); (try clear hb2); (try clear hk); (try clear hi); obtain ⟨HGz10, hgz10⟩ := HI0.out; have hcz10_0 := cellS105_0 HGz10; have hcz10_1 := cellS105_1 HGz10; have hfz10_0 := blk_frozen HGz10 0; have hfz10_1 := blk_frozen HGz10 1; clear HGz10 hgz10; have p8 : 0 ≤ ((ji5) : Int) := of_decide_eq_true (by first | (with_reducible assumption) | assumption); have q8 : (ji5) < (t102.size : Int) := of_decide_eq_true (by first | (with_reducible assumption) | assumption); have hx8 := bt_at t102 (ji5); replace p8 := eq_true p8; replace q8 := eq_true q8)); try go_wp2_with (first | (go_at_call 39; (with_reducible refine (text_Reader_Left.calls g s0_0 s0_1 t101 t102 t103 w0 _ ?side1 ?side2 A2.out).mono ?_); (case side1 => repeat (first | (with_reducible first | exact HI0.out | apply IsS105.alloc | apply IsS105.drewN | apply IsS105.drew | apply IsS105.set_0 | apply IsS105.set_1) | exact HI0.out)); (case side2 => repeat (first | (with_reducible first | exact HB.out | apply bwA | apply bwN | apply bwD | refine bwC ?_ (IsS105.ge HI0.out)) | exact HB.out)); rintro e w9 ⟨rfl, hi, hb, hk⟩; have n0_ := As.mk (KeepBut.trans (by repeat (first | (with_reducible first | exact HK.out | apply KeepBut.set_ | apply kpN | apply kpD | apply kpA) | exact HK.out)) hk (.inl rfl)); have n1_ := As.mk (hb); have n2_ := As.mk (hi); clear HK; clear HB; clear HI0; have HK := n0_; have HB := n1_; have HI0 := n2_; clear n0_ n1_ n2_; (try clear hb); (try clear hb2); (try clear hk); (try clear hi); obtain ⟨HGz10, hgz10⟩ := HI0.out; have hcz10_0 := cellS105_0 HGz10; have hcz10_1 := cellS105_1 HGz10; have hfz10_0 := blk_frozen HGz10 0; have hfz10_1 := blk_frozen HGz10 1; clear HGz10 hgz10; have p8 : 0 ≤ ((ji5) : Int) := of_decide_eq_true (by first | (with_reducible assumption) | assumption); have q8 : (ji5) < (t102.size : Int) := of_decide_eq_true (by first | (with_reducible assumption) | assumption); have hx8 := bt_at t102 (ji5); replace p8 := eq_true p8; replace q8 := eq_true q8)))
  go_ret
  exact ⟨by first | rfl | (simp [errW_none, errW_some] <;> rfl) | (simp only [← hji5]; first | rfl | (simp [errW_none, errW_some] <;> rfl)) | (simp [*, errW_none, errW_some] <;> rfl), by repeat (first | (with_reducible first | exact HI0.out | apply IsS105.alloc | apply IsS105.drewN | apply IsS105.drew | apply IsS105.set_0 | apply IsS105.set_1) | exact HI0.out), by repeat (first | (with_reducible first | exact HB.out | apply bwA | apply bwN | apply bwD | refine bwC ?_ (IsS105.ge HI0.out)) | exact HB.out), by repeat (first | (with_reducible first | exact HK.out | apply KeepBut.set_ | apply kpN | apply kpD | apply kpA) | exact HK.out)⟩
/-! ### lex_Source_Peek: function 44 -/

/-! ### ppred_both: function 46 -/
def ppred_both.f (l0 : List (S53)) (l1 : List (S53)) (a2 : Int) : Option ((List (S53))) := (some (([] : List (S53)) : List (S53))).bind fun y106 => (if y106.length + l0.length < 1759218604441 then ((some (y106 ++ l0 : List (S53))).bind fun y109 => (if y109.length + l1.length < 1759218604441 then ((some (y109 ++ l1 : List (S53))).bind fun y112 => (if y112.length < 1759218604441 then (some (y112 ++ [(⟨a2, (⟨0, 0, (⟨#[]⟩ : ByteArray), false⟩ : S51), (⟨#[]⟩ : ByteArray), (⟨#[]⟩ : ByteArray)⟩ : S53)])) else (none))) else (none))) else (none))
set_option maxHeartbeats 8000000 in
set_option maxRecDepth 100000 in
theorem ppred_both.calls (A0 : Option Addr) (c0 : Nat) (l0 : List (S53)) (A1 : Option Addr) (c1 : Nat) (l1 : List (S53)) (a2 : Int) (r : List (S53)) (w : World) (hr0 : Kd.C k53 w A0 l0.length l0) (hc0 : l0.length ≤ c0) (hr1 : Kd.C k53 w A1 l1.length l1) (hc1 : l1.length ≤ c1) (h : ppred_both.f l0 l1 a2 = some r) :
  Calls Tryd.prog 46 #[.slice A0 l0.length c0, .slice A1 l1.length c1, .int .i64 a2] w fun e w' => ∃ v0_ : Value, e = .returned (v0_) ∧ Kd.R k53 53 w' w.heap.size (fun _ => True) v0_ r ∧ Below w.heap.size w w' := by
 have hu53 := Tryd.underlying53
 have HR0 := As.mk hr0
 have HC0 := As.mk hc0
 clear hr0 hc0
 have HR1 := As.mk hr1
 have HC1 := As.mk hc1
 clear hr1 hc1
 have HB := As.mk (Below.refl w.heap.size w)
 have H : ((some (([] : List (S53)) : List (S53))).bind fun y106 => (if y106.length + l0.length < 1759218604441 then ((some (y106 ++ l0 : List (S53))).bind fun y109 => (if y109.length + l1.length < 1759218604441 then ((some (y109 ++ l1 : List (S53))).bind fun y112 => (if y112.length < 1759218604441 then (some (y112 ++ [(⟨a2, (⟨0, 0, (⟨#[]⟩ : ByteArray), false⟩ : S51), (⟨#[]⟩ : ByteArray), (⟨#[]⟩ : ByteArray)⟩ : S53)])) else (none))) else (none))) else (none))) = some r := h
 clear h
 obtain ⟨y106, hy106⟩ : ∃ y_ : List (S53), y_ = (([] : List (S53))) := ⟨_, rfl⟩
 replace H : (if y106.length + l0.length < 1759218604441 then ((some (y106 ++ l0 : List (S53))).bind fun y109 => (if y109.length + l1.length < 1759218604441 then ((some (y109 ++ l1 : List (S53))).bind fun y112 => (if y112.length < 1759218604441 then (some (y112 ++ [(⟨a2, (⟨0, 0, (⟨#[]⟩ : ByteArray), false⟩ : S51), (⟨#[]⟩ : ByteArray), (⟨#[]⟩ : ByteArray)⟩ : S53)])) else (none))) else (none))) else (none)) = some r := by first | (rw [hy106]; with_reducible exact H) | (have H2_ := (Option.bind_some _ _).symm.trans H; rw [hy106]; with_reducible exact H2_) | (have H2_ := (Option.bind_some _ _).symm.trans H; with_reducible exact H2_) | with_reducible exact H | (rw [hy106]; exact H) | exact H
 have Ny106 := As.mk hy106
 clear hy106
 replace H := ite_some H
 obtain ⟨c4, H⟩ := H
 have LMc4 := As.mk c4
 clear c4
 obtain ⟨y109, hy109⟩ : ∃ y_ : List (S53), y_ = (y106 ++ l0) := ⟨_, rfl⟩
 replace H : (if y109.length + l1.length < 1759218604441 then ((some (y109 ++ l1 : List (S53))).bind fun y112 => (if y112.length < 1759218604441 then (some (y112 ++ [(⟨a2, (⟨0, 0, (⟨#[]⟩ : ByteArray), false⟩ : S51), (⟨#[]⟩ : ByteArray), (⟨#[]⟩ : ByteArray)⟩ : S53)])) else (none))) else (none)) = some r := by first | (rw [hy109]; with_reducible exact H) | (have H2_ := (Option.bind_some _ _).symm.trans H; rw [hy109]; with_reducible exact H2_) | (have H2_ := (Option.bind_some _ _).symm.trans H; with_reducible exact H2_) | with_reducible exact H | (rw [hy109]; exact H) | exact H
 have Ny109 := As.mk hy109
 clear hy109
 replace H := ite_some H
 obtain ⟨c5, H⟩ := H
 have LMc5 := As.mk c5
 clear c5
 obtain ⟨y112, hy112⟩ : ∃ y_ : List (S53), y_ = (y109 ++ l1) := ⟨_, rfl⟩
 replace H : (if y112.length < 1759218604441 then (some (y112 ++ [(⟨a2, (⟨0, 0, (⟨#[]⟩ : ByteArray), false⟩ : S51), (⟨#[]⟩ : ByteArray), (⟨#[]⟩ : ByteArray)⟩ : S53)])) else (none)) = some r := by first | (rw [hy112]; with_reducible exact H) | (have H2_ := (Option.bind_some _ _).symm.trans H; rw [hy112]; with_reducible exact H2_) | (have H2_ := (Option.bind_some _ _).symm.trans H; with_reducible exact H2_) | with_reducible exact H | (rw [hy112]; exact H) | exact H
 have Ny112 := As.mk hy112
 clear hy112
 replace H := ite_some H
 obtain ⟨c6, H⟩ := H
 have LMc6 := As.mk c6
 clear c6
 obtain ⟨y115, hy115⟩ : ∃ y_ : List (S53), y_ = (y112 ++ [(⟨a2, (⟨0, 0, (⟨#[]⟩ : ByteArray), false⟩ : S51), (⟨#[]⟩ : ByteArray), (⟨#[]⟩ : ByteArray)⟩ : S53)]) := ⟨_, rfl⟩
 replace H : (some y115) = some r := by first | (rw [hy115]; with_reducible exact H) | (have H2_ := (Option.bind_some _ _).symm.trans H; rw [hy115]; with_reducible exact H2_) | (have H2_ := (Option.bind_some _ _).symm.trans H; with_reducible exact H2_) | with_reducible exact H | (rw [hy115]; exact H) | exact H
 have Ny115 := As.mk hy115
 clear hy115
 obtain rfl := Option.some.inj H
 go_enter Tryd.func46, Tryd.ntmps46
 go_wp2_with (first | ((with_reducible refine gate_dst (N := 8) rfl ?_); refine Kd.R_lit k53 _ 53 ?hg (N := 8) ?hd (xs := ([] : List (S53))) (inner := []) (ok := fun _ => True) (okp := fun _ => True) ?hr ?hp (fun _ hk => hk) trivial (Below.refl _ _) (Nat.le_refl _) (by simp) ?_; (case hd => rfl); (case hg => rfl); (case hr => first | (go_simp; done) | (go_simp; rfl)); (case hp => exact (Reps.none _ _)); intro v107 w7 ho8 hb hg_ hnew_; clear hg_ hnew_; (first | rw [← Ny106.out] at ho8 | (simp only [Int.reduceToNat] at ho8; rw [← Ny106.out] at ho8)); have n0_ := As.mk (Kd.R_lower ho8 (bwZ (by repeat (first | (with_reducible first | exact HB.out | apply bwA | apply bwN | apply bwD) | exact HB.out)))); have n1_ := As.mk (bwS (by repeat (first | (with_reducible first | exact HB.out | apply bwA | apply bwN | apply bwD) | exact HB.out)) hb); clear HB; have HO108 := n0_; have HB := n1_; clear n0_ n1_; clear hb ho8) | ((with_reducible refine gaB (b := .append) (xs := #[.tmp 8, .tmp 9]) rfl ?_); at_builtin; refine Kd.R_append_rows k53 (w0 := w) w.heap.size rfl (.tmp 8) (.tmp 9) 23 53 (.agg #[(.int .i64 0), (.int .i64 0), (.int .i64 0), (.string ⟨#[]⟩), (.bool false), (.string ⟨#[]⟩), (.string ⟨#[]⟩)]) 80 rfl Tryd.underlying23 info53 rfl (by decide) (by omega) v107 y106 l0 _ _ _ (fun _ => True) (fun _ => False) rfl rfl ?aO ?aR (fun _ _ h => h) (fun _ h => h.elim) ?aF ?aB ?aS ?aL ?_; (case aR => repeat (first | exact (Kd.C_below HR0.out HB.out) | (with_reducible refine Kd.C_alloc ?_ _) | (with_reducible refine Kd.C_drewN ?_ _) | (with_reducible refine Kd.C_drew ?_))); (case aB => exact (by repeat (first | (with_reducible first | exact HB.out | apply bwA | apply bwN | apply bwD) | exact HB.out))); (case aF => exact (fun _ _ => trivial)); (case aO => exact (by (with_reducible repeat (first | apply Kd.rA | apply Kd.rN | apply Kd.rD)); exact HO108.out)); (case aS => exact (bwZ (by repeat (first | (with_reducible first | exact HB.out | apply bwA | apply bwN | apply bwD) | exact HB.out)))); (case aL => have := LMc4.out; omega); intro v110 w9 ho hb hg hat; rw [← Ny109.out] at ho; have n0_ := As.mk (hb); have n1_ := As.mk (ho); clear HB; clear HO108; have HB := n0_; have HO111 := n1_; clear n0_ n1_; clear ho hb hg hat) | ((with_reducible refine gaB (b := .append) (xs := #[.tmp 11, .tmp 12]) rfl ?_); at_builtin; refine Kd.R_append_rows k53 (w0 := w) w.heap.size rfl (.tmp 11) (.tmp 12) 23 53 (.agg #[(.int .i64 0), (.int .i64 0), (.int .i64 0), (.string ⟨#[]⟩), (.bool false), (.string ⟨#[]⟩), (.string ⟨#[]⟩)]) 80 rfl Tryd.underlying23 info53 rfl (by decide) (by omega) v110 y109 l1 _ _ _ (fun _ => True) (fun _ => False) rfl rfl ?aO ?aR (fun _ _ h => h) (fun _ h => h.elim) ?aF ?aB ?aS ?aL ?_; (case aR => repeat (first | exact (Kd.C_below HR1.out HB.out) | (with_reducible refine Kd.C_alloc ?_ _) | (with_reducible refine Kd.C_drewN ?_ _) | (with_reducible refine Kd.C_drew ?_))); (case aB => exact (by repeat (first | (with_reducible first | exact HB.out | apply bwA | apply bwN | apply bwD) | exact HB.out))); (case aF => exact (fun _ _ => trivial)); (case aO => exact (by (with_reducible repeat (first | apply Kd.rA | apply Kd.rN | apply Kd.rD)); exact HO111.out)); (case aS => exact (bwZ (by repeat (first | (with_reducible first | exact HB.out | apply bwA | apply bwN | apply bwD) | exact HB.out)))); (case aL => have := LMc5.out; omega); intro v113 w10 ho hb hg hat; rw [← Ny112.out] at ho; have n0_ := As.mk (hb); have n1_ := As.mk (ho); clear HB; clear HO111; have HB := n0_; have HO114 := n1_; clear n0_ n1_; clear ho hb hg hat) | ((with_reducible refine gaB (b := .append) (xs := #[.tmp 13, .tmp 16]) rfl ?_); at_builtin; refine Kd.R_append k53 (w0 := w) w.heap.size rfl (.tmp 13) (.tmp 16) 23 53 (.agg #[(.int .i64 0), (.int .i64 0), (.int .i64 0), (.string ⟨#[]⟩), (.bool false), (.string ⟨#[]⟩), (.string ⟨#[]⟩)]) 80 rfl Tryd.underlying23 info53 rfl (by decide) (by omega) v113 y112 (⟨a2, (⟨0, 0, (⟨#[]⟩ : ByteArray), false⟩ : S51), (⟨#[]⟩ : ByteArray), (⟨#[]⟩ : ByteArray)⟩ : S53) [.int .i64 a2, .int .i64 0, .int .i64 0, .string (⟨#[]⟩ : ByteArray), .bool false, .string (⟨#[]⟩ : ByteArray), .string (⟨#[]⟩ : ByteArray)] (fun _ => True) (fun _ => False) rfl rfl ?aP (fun _ hk => hk.elim) ?aF ?aO ?aB ?aS ?aL ?_; (case aP => exact k53_mkM _ _ _ (⟨a2, (⟨0, 0, (⟨#[]⟩ : ByteArray), false⟩ : S51), (⟨#[]⟩ : ByteArray), (⟨#[]⟩ : ByteArray)⟩ : S53)); (case aB => exact (by repeat (first | (with_reducible first | exact HB.out | apply bwA | apply bwN | apply bwD) | exact HB.out))); (case aF => exact (fun _ _ => trivial)); (case aO => exact (by (with_reducible repeat (first | apply Kd.rA | apply Kd.rN | apply Kd.rD)); exact HO114.out)); (case aS => exact (bwZ (by repeat (first | (with_reducible first | exact HB.out | apply bwA | apply bwN | apply bwD) | exact HB.out)))); (case aL => have := LMc6.out; omega); intro v116 w11 ho hb hg hat; rw [← Ny115.out] at ho; have n0_ := As.mk (hb); have n1_ := As.mk (ho); clear HB; clear HO114; have HB := n0_; have HO117 := n1_; clear n0_ n1_; clear ho hb hg hat))
 go_ret
 exact ⟨_, by first | rfl | (simp [errW_none, errW_some] <;> rfl) | (simp [*, errW_none, errW_some] <;> rfl), by (with_reducible repeat (first | apply Kd.rA | apply Kd.rN | apply Kd.rD)); exact HO117.out, by repeat (first | (with_reducible first | exact HB.out | apply bwA | apply bwN | apply bwD) | exact HB.out)⟩
/-! ### term_Sign: function 67 -/
def term_Sign.j0 : Nat → Int → Bool → Option (ByteArray)
 | 0, _, _ => none
 | k + 1, x3, x4 => if x4 = true then (some (⟨#[45]⟩ : ByteArray)) else (if x3 = 4 then (some (⟨#[43]⟩ : ByteArray)) else (if x3 = 6 then (some (⟨#[42]⟩ : ByteArray)) else (if x3 = 7 then (some (⟨#[61]⟩ : ByteArray)) else (if x3 = 8 then (some (⟨#[33, 61]⟩ : ByteArray)) else (if x3 = 9 then (some (⟨#[60]⟩ : ByteArray)) else (if x3 = 10 then (some (⟨#[60, 61]⟩ : ByteArray)) else (if x3 = 11 then (some (⟨#[62]⟩ : ByteArray)) else (if x3 = 12 then (some (⟨#[62, 61]⟩ : ByteArray)) else (if x3 = 13 then (some (⟨#[110, 111, 116]⟩ : ByteArray)) else (if x3 = 14 then (some (⟨#[97, 110, 100]⟩ : ByteArray)) else (if x3 = 15 then (some (⟨#[111, 114]⟩ : ByteArray)) else (some (⟨#[]⟩ : ByteArray)))))))))))))
def term_Sign.f (k : Nat) (a0 : Int) : Option (ByteArray) := if a0 = 3 then (term_Sign.j0 k a0 (a0 == 3)) else (term_Sign.j0 k a0 (a0 == 5))
set_option maxHeartbeats 8000000 in
set_option maxRecDepth 100000 in
theorem term_Sign.calls (k : Nat) (a0 : Int) (r : ByteArray) (w : World) (h : term_Sign.f k a0 = some r) :
  Calls Tryd.prog 67 #[.int .i64 a0] w fun e w' => e = .returned (.string r) ∧ Drawn0 w w' := by
 have H : (if a0 = 3 then (term_Sign.j0 k a0 (a0 == 3)) else (term_Sign.j0 k a0 (a0 == 5))) = some r := h
 clear h
 have HC2 := As.mk H
 clear H
 go_enter Tryd.func67, Tryd.ntmps67
 go_upto_if 4 with (fail)
 go_cut [4] (fun v4 wc => ∃ (kq : Nat) (x4_1 : Bool), v4 = .bool x4_1 ∧ As (term_Sign.j0 kq a0 x4_1 = some r) ∧ As (kq ≤ k) ∧ Drawn0 w wc)
 case first =>
  have H := HC2.out
  clear HC2
  by_cases c3 : a0 = 3
  ·
   rw [if_pos c3] at H
   have c3b0 : (a0 == 3) = true := beq_iff_eq.mpr c3
   have c3b1 : (a0 != 3) = false := bne_eq_false_iff_eq.mpr c3
   clear c3
   (first | rw [c3b0] | (simp only [i64_w, i32_w]; rw [c3b0]) | skip)
   have H' := As.mk H
   clear H
   go_wp2
   go_meet
   case rel => exact ⟨_, ((a0 == 3)), (by first | rfl | (simp; done) | (simp [*]; done)), H', ⟨by first | omega | exact Nat.le_refl _⟩, by repeat (first | exact Drawn0.refl _ | apply Drawn0.step)⟩
  ·
   rw [if_neg c3] at H
   have c3b0 : (a0 == 3) = false := beq_eq_false_iff_ne.mpr c3
   have c3b1 : (a0 != 3) = true := bne_iff_ne.mpr c3
   (first | rw [c3b0] | (simp only [i64_w, i32_w]; rw [c3b0]) | skip)
   have H' := As.mk H
   clear H
   go_wp2
   go_meet
   case rel => exact ⟨_, ((a0 == 5)), (by first | rfl | (simp; done) | (simp [*]; done)), H', ⟨by first | omega | exact Nat.le_refl _⟩, by repeat (first | exact Drawn0.refl _ | apply Drawn0.step)⟩
 case rest =>
  clear HC2
  try clear p2
  try clear c3
  try clear c3b0
  try clear c3b1
  obtain ⟨kq, x4_1, rfl, HA, HJ1, ⟨mc1, rfl⟩⟩ := hcut
  cases kq with
  | zero => exact absurd HA.out (by simp [term_Sign.j0])
  | succ kj1 =>
   have H := HA.out
   clear HA
   simp only [term_Sign.j0] at H
   by_cases c4 : x4_1 = true
   ·
    subst c4
    have H1 : (some (⟨#[45]⟩ : ByteArray)) = some r := by rw [if_pos rfl] at H; exact H
    clear H
    have H := H1
    clear H1
    obtain rfl := Option.some.inj H
    go_wp2
    go_ret
    exact ⟨by first | rfl | (simp; done) | (simp [*]; done), by repeat (first | exact Drawn0.refl _ | apply Drawn0.step)⟩
   ·
    replace c4 := Bool.eq_false_iff.mpr c4
    subst c4
    have H1 : (if a0 = 4 then (some (⟨#[43]⟩ : ByteArray)) else (if a0 = 6 then (some (⟨#[42]⟩ : ByteArray)) else (if a0 = 7 then (some (⟨#[61]⟩ : ByteArray)) else (if a0 = 8 then (some (⟨#[33, 61]⟩ : ByteArray)) else (if a0 = 9 then (some (⟨#[60]⟩ : ByteArray)) else (if a0 = 10 then (some (⟨#[60, 61]⟩ : ByteArray)) else (if a0 = 11 then (some (⟨#[62]⟩ : ByteArray)) else (if a0 = 12 then (some (⟨#[62, 61]⟩ : ByteArray)) else (if a0 = 13 then (some (⟨#[110, 111, 116]⟩ : ByteArray)) else (if a0 = 14 then (some (⟨#[97, 110, 100]⟩ : ByteArray)) else (if a0 = 15 then (some (⟨#[111, 114]⟩ : ByteArray)) else (some (⟨#[]⟩ : ByteArray))))))))))))) = some r := by rw [if_neg (show ¬ (false = true) by decide)] at H; exact H
    clear H
    have H := H1
    clear H1
    by_cases c5 : a0 = 4
    ·
     rw [if_pos c5] at H
     have c5b0 : (a0 == 4) = true := beq_iff_eq.mpr c5
     have c5b1 : (a0 != 4) = false := bne_eq_false_iff_eq.mpr c5
     clear c5
     obtain rfl := Option.some.inj H
     go_wp2
     go_ret
     exact ⟨by first | rfl | (simp; done) | (simp [*]; done), by repeat (first | exact Drawn0.refl _ | apply Drawn0.step)⟩
    ·
     rw [if_neg c5] at H
     have c5b0 : (a0 == 4) = false := beq_eq_false_iff_ne.mpr c5
     have c5b1 : (a0 != 4) = true := bne_iff_ne.mpr c5
     by_cases c6 : a0 = 6
     ·
      rw [if_pos c6] at H
      have c6b0 : (a0 == 6) = true := beq_iff_eq.mpr c6
      have c6b1 : (a0 != 6) = false := bne_eq_false_iff_eq.mpr c6
      clear c6
      obtain rfl := Option.some.inj H
      go_wp2
      go_ret
      exact ⟨by first | rfl | (simp; done) | (simp [*]; done), by repeat (first | exact Drawn0.refl _ | apply Drawn0.step)⟩
     ·
      rw [if_neg c6] at H
      have c6b0 : (a0 == 6) = false := beq_eq_false_iff_ne.mpr c6
      have c6b1 : (a0 != 6) = true := bne_iff_ne.mpr c6
      by_cases c7 : a0 = 7
      ·
       rw [if_pos c7] at H
       have c7b0 : (a0 == 7) = true := beq_iff_eq.mpr c7
       have c7b1 : (a0 != 7) = false := bne_eq_false_iff_eq.mpr c7
       clear c7
       obtain rfl := Option.some.inj H
       go_wp2
       go_ret
       exact ⟨by first | rfl | (simp; done) | (simp [*]; done), by repeat (first | exact Drawn0.refl _ | apply Drawn0.step)⟩
      ·
       rw [if_neg c7] at H
       have c7b0 : (a0 == 7) = false := beq_eq_false_iff_ne.mpr c7
       have c7b1 : (a0 != 7) = true := bne_iff_ne.mpr c7
       by_cases c8 : a0 = 8
       ·
        rw [if_pos c8] at H
        have c8b0 : (a0 == 8) = true := beq_iff_eq.mpr c8
        have c8b1 : (a0 != 8) = false := bne_eq_false_iff_eq.mpr c8
        clear c8
        obtain rfl := Option.some.inj H
        go_wp2
        go_ret
        exact ⟨by first | rfl | (simp; done) | (simp [*]; done), by repeat (first | exact Drawn0.refl _ | apply Drawn0.step)⟩
       ·
        rw [if_neg c8] at H
        have c8b0 : (a0 == 8) = false := beq_eq_false_iff_ne.mpr c8
        have c8b1 : (a0 != 8) = true := bne_iff_ne.mpr c8
        by_cases c9 : a0 = 9
        ·
         rw [if_pos c9] at H
         have c9b0 : (a0 == 9) = true := beq_iff_eq.mpr c9
         have c9b1 : (a0 != 9) = false := bne_eq_false_iff_eq.mpr c9
         clear c9
         obtain rfl := Option.some.inj H
         go_wp2
         go_ret
         exact ⟨by first | rfl | (simp; done) | (simp [*]; done), by repeat (first | exact Drawn0.refl _ | apply Drawn0.step)⟩
        ·
         rw [if_neg c9] at H
         have c9b0 : (a0 == 9) = false := beq_eq_false_iff_ne.mpr c9
         have c9b1 : (a0 != 9) = true := bne_iff_ne.mpr c9
         by_cases c10 : a0 = 10
         ·
          rw [if_pos c10] at H
          have c10b0 : (a0 == 10) = true := beq_iff_eq.mpr c10
          have c10b1 : (a0 != 10) = false := bne_eq_false_iff_eq.mpr c10
          clear c10
          obtain rfl := Option.some.inj H
          go_wp2
          go_ret
          exact ⟨by first | rfl | (simp; done) | (simp [*]; done), by repeat (first | exact Drawn0.refl _ | apply Drawn0.step)⟩
         ·
          rw [if_neg c10] at H
          have c10b0 : (a0 == 10) = false := beq_eq_false_iff_ne.mpr c10
          have c10b1 : (a0 != 10) = true := bne_iff_ne.mpr c10
          by_cases c11 : a0 = 11
          ·
           rw [if_pos c11] at H
           have c11b0 : (a0 == 11) = true := beq_iff_eq.mpr c11
           have c11b1 : (a0 != 11) = false := bne_eq_false_iff_eq.mpr c11
           clear c11
           obtain rfl := Option.some.inj H
           go_wp2
           go_ret
           exact ⟨by first | rfl | (simp; done) | (simp [*]; done), by repeat (first | exact Drawn0.refl _ | apply Drawn0.step)⟩
          ·
           rw [if_neg c11] at H
           have c11b0 : (a0 == 11) = false := beq_eq_false_iff_ne.mpr c11
           have c11b1 : (a0 != 11) = true := bne_iff_ne.mpr c11
           by_cases c12 : a0 = 12
           ·
            rw [if_pos c12] at H
            have c12b0 : (a0 == 12) = true := beq_iff_eq.mpr c12
            have c12b1 : (a0 != 12) = false := bne_eq_false_iff_eq.mpr c12
            clear c12
            obtain rfl := Option.some.inj H
            go_wp2
            go_ret
            exact ⟨by first | rfl | (simp; done) | (simp [*]; done), by repeat (first | exact Drawn0.refl _ | apply Drawn0.step)⟩
           ·
            rw [if_neg c12] at H
            have c12b0 : (a0 == 12) = false := beq_eq_false_iff_ne.mpr c12
            have c12b1 : (a0 != 12) = true := bne_iff_ne.mpr c12
            by_cases c13 : a0 = 13
            ·
             rw [if_pos c13] at H
             have c13b0 : (a0 == 13) = true := beq_iff_eq.mpr c13
             have c13b1 : (a0 != 13) = false := bne_eq_false_iff_eq.mpr c13
             clear c13
             obtain rfl := Option.some.inj H
             go_wp2
             go_ret
             exact ⟨by first | rfl | (simp; done) | (simp [*]; done), by repeat (first | exact Drawn0.refl _ | apply Drawn0.step)⟩
            ·
             rw [if_neg c13] at H
             have c13b0 : (a0 == 13) = false := beq_eq_false_iff_ne.mpr c13
             have c13b1 : (a0 != 13) = true := bne_iff_ne.mpr c13
             by_cases c14 : a0 = 14
             ·
              rw [if_pos c14] at H
              have c14b0 : (a0 == 14) = true := beq_iff_eq.mpr c14
              have c14b1 : (a0 != 14) = false := bne_eq_false_iff_eq.mpr c14
              clear c14
              obtain rfl := Option.some.inj H
              go_wp2
              go_ret
              exact ⟨by first | rfl | (simp; done) | (simp [*]; done), by repeat (first | exact Drawn0.refl _ | apply Drawn0.step)⟩
             ·
              rw [if_neg c14] at H
              have c14b0 : (a0 == 14) = false := beq_eq_false_iff_ne.mpr c14
              have c14b1 : (a0 != 14) = true := bne_iff_ne.mpr c14
              by_cases c15 : a0 = 15
              ·
               rw [if_pos c15] at H
               have c15b0 : (a0 == 15) = true := beq_iff_eq.mpr c15
               have c15b1 : (a0 != 15) = false := bne_eq_false_iff_eq.mpr c15
               clear c15
               obtain rfl := Option.some.inj H
               go_wp2
               go_ret
               exact ⟨by first | rfl | (simp; done) | (simp [*]; done), by repeat (first | exact Drawn0.refl _ | apply Drawn0.step)⟩
              ·
               rw [if_neg c15] at H
               have c15b0 : (a0 == 15) = false := beq_eq_false_iff_ne.mpr c15
               have c15b1 : (a0 != 15) = true := bne_iff_ne.mpr c15
               obtain rfl := Option.some.inj H
               go_wp2
               go_ret
               exact ⟨by first | rfl | (simp; done) | (simp [*]; done), by repeat (first | exact Drawn0.refl _ | apply Drawn0.step)⟩

/-! ### ppred_binary: function 43 -/
mutual
def ppred_binary.j0 : Nat → Bool → Int → ByteArray → Int → Int → Option (Int × Int)
 | 0, _, _, _, _, _ => none
 | k + 1, x12, x119000, x119001, x119002, x119003 => if x12 = true then (some (0, 0)) else (ppred_binary.l0 k 4 x119000 x119001 x119002 x119003)
def ppred_binary.l0 : Nat → Int → Int → ByteArray → Int → Int → Option (Int × Int)
 | 0, _, _, _, _, _ => none
 | k + 1, x4, x119000, x119001, x119002, x119003 => if x4 ≤ 15 then (if x4 = 13 then (ppred_binary.j2 k x4 true x119000 x119001 x119002 x119003) else ((term_Sign.f k x4).bind fun t119 => (ppred_binary.j2 k x4 (t119.toList != x119001.toList) x119000 x119001 x119002 x119003))) else (some (0, 0))
def ppred_binary.j2 : Nat → Int → Bool → Int → ByteArray → Int → Int → Option (Int × Int)
 | 0, _, _, _, _, _, _ => none
 | k + 1, x4, x25, x119000, x119001, x119002, x119003 => if x25 = true then (ppred_binary.l0 k (wrap64 (x4 + 1)) x119000 x119001 x119002 x119003) else (if x4 = 15 then (some (x4, 1)) else (if x4 = 14 then (some (x4, 2)) else (if x4 ≥ 7 then (some (x4, 4)) else (if x4 = 6 then (some (x4, 6)) else (some (x4, 5))))))
end
def ppred_binary.f (k : Nat) (a0_0 : Int) (a0_1 : ByteArray) (a0_2 : Int) (a0_3 : Int) : Option (Int × Int) := if a0_0 = 5 then (ppred_binary.j0 k false a0_0 a0_1 a0_2 a0_3) else (ppred_binary.j0 k (a0_0 != 2) a0_0 a0_1 a0_2 a0_3)
set_option maxHeartbeats 8000000 in
set_option maxRecDepth 100000 in
theorem ppred_binary.calls (k : Nat) (a0_0 : Int) (a0_1 : ByteArray) (a0_2 : Int) (a0_3 : Int) (r1 : Int) (r2 : Int) (w : World) (h : ppred_binary.f k a0_0 a0_1 a0_2 a0_3 = some (r1, r2)) :
  Calls Tryd.prog 43 #[.agg #[.int .i64 a0_0, .string a0_1, .int .i64 a0_2, .int .i64 a0_3]] w fun e w' => e = .returned (.tuple #[.int .i64 r1, .int .i64 r2]) ∧ Below w.heap.size w w' := by
 have hu67 := Tryd.underlying67
 have HB := As.mk (Below.refl w.heap.size w)
 have H : (if a0_0 = 5 then (ppred_binary.j0 k false a0_0 a0_1 a0_2 a0_3) else (ppred_binary.j0 k (a0_0 != 2) a0_0 a0_1 a0_2 a0_3)) = some (r1, r2) := h
 clear h
 have HC2 := As.mk H
 clear H
 go_enter Tryd.func43, Tryd.ntmps43
 go_upto_region 1 with (first | ((with_reducible refine gate_dst (N := 1) rfl ?_); refine box_event ?hg (N := 1) ?hd (cs := #[.int .i64 a0_0, .string a0_1, .int .i64 a0_2, .int .i64 a0_3]) (t := 67) ?hr ?_; (case hd => rfl); (case hg => rfl); (case hr => first | (go_simp; done) | (go_simp; rfl)); intro gb118 hg w3 hbox hb; have n0_ := As.mk (bwS (by repeat (first | (with_reducible first | exact HB.out | apply bwA | apply bwN | apply bwD) | exact HB.out)) hb); have n1_ := As.mk (hbox); have n2_ := As.mk ((by rw [hg]; exact (bwZ (by repeat (first | (with_reducible first | exact HB.out | apply bwA | apply bwN | apply bwD) | exact HB.out))) : w.heap.size ≤ gb118)); have n3_ := As.mk ((by rw [hg]; exact (bwZ (by repeat (first | (with_reducible first | exact HB.out | apply bwA | apply bwN | apply bwD) | exact HB.out))) : w.heap.size ≤ gb118)); clear HB; have HB := n0_; have BK118 := n1_; have GW118 := n2_; have GE118 := n3_; clear n0_ n1_ n2_ n3_; clear hb hbox hg))
 repeat (go_quiet (first | ((with_reducible refine gate_dst (N := 1) rfl ?_); refine box_event ?hg (N := 1) ?hd (cs := #[.int .i64 a0_0, .string a0_1, .int .i64 a0_2, .int .i64 a0_3]) (t := 67) ?hr ?_; (case hd => rfl); (case hg => rfl); (case hr => first | (go_simp; done) | (go_simp; rfl)); intro gb118 hg w3 hbox hb; have n0_ := As.mk (bwS (by repeat (first | (with_reducible first | exact HB.out | apply bwA | apply bwN | apply bwD) | exact HB.out)) hb); have n1_ := As.mk (hbox); have n2_ := As.mk ((by rw [hg]; exact (bwZ (by repeat (first | (with_reducible first | exact HB.out | apply bwA | apply bwN | apply bwD) | exact HB.out))) : w.heap.size ≤ gb118)); have n3_ := As.mk ((by rw [hg]; exact (bwZ (by repeat (first | (with_reducible first | exact HB.out | apply bwA | apply bwN | apply bwD) | exact HB.out))) : w.heap.size ≤ gb118)); clear HB; have HB := n0_; have BK118 := n1_; have GW118 := n2_; have GE118 := n3_; clear n0_ n1_ n2_ n3_; clear hb hbox hg)); go_upto_region 1 with (first | ((with_reducible refine gate_dst (N := 1) rfl ?_); refine box_event ?hg (N := 1) ?hd (cs := #[.int .i64 a0_0, .string a0_1, .int .i64 a0_2, .int .i64 a0_3]) (t := 67) ?hr ?_; (case hd => rfl); (case hg => rfl); (case hr => first | (go_simp; done) | (go_simp; rfl)); intro gb118 hg w3 hbox hb; have n0_ := As.mk (bwS (by repeat (first | (with_reducible first | exact HB.out | apply bwA | apply bwN | apply bwD) | exact HB.out)) hb); have n1_ := As.mk (hbox); have n2_ := As.mk ((by rw [hg]; exact (bwZ (by repeat (first | (with_reducible first | exact HB.out | apply bwA | apply bwN | apply bwD) | exact HB.out))) : w.heap.size ≤ gb118)); have n3_ := As.mk ((by rw [hg]; exact (bwZ (by repeat (first | (with_reducible first | exact HB.out | apply bwA | apply bwN | apply bwD) | exact HB.out))) : w.heap.size ≤ gb118)); clear HB; have HB := n0_; have BK118 := n1_; have GW118 := n2_; have GE118 := n3_; clear n0_ n1_ n2_ n3_; clear hb hbox hg)))
 (try simp only [Act.put, List.setIfInBounds_toArray, List.set_cons_zero, List.set_cons_succ])
 go_cut [12] (fun v12 wc => ∃ (kq : Nat) (x12_1 : Bool), v12 = .bool x12_1 ∧ As (ppred_binary.j0 kq x12_1 a0_0 a0_1 a0_2 a0_3 = some (r1, r2)) ∧ As (kq ≤ k) ∧ As (wc.heap[gb118]? = some (.cells #[.int .i64 a0_0, .string a0_1, .int .i64 a0_2, .int .i64 a0_3] 67 (0, 0))) ∧ As (Below w.heap.size w wc))
 case first =>
  have H := HC2.out
  clear HC2
  by_cases c4 : a0_0 = 5
  ·
   rw [if_pos c4] at H
   have c4b0 : (a0_0 == 5) = true := beq_iff_eq.mpr c4
   have c4b1 : (a0_0 != 5) = false := bne_eq_false_iff_eq.mpr c4
   clear c4
   (first | rw [c4b0] | (simp only [i64_w, i32_w]; rw [c4b0]) | skip)
   have H' := As.mk H
   clear H
   have hcz5_0 : w3.cell? ⟨gb118, 0, none⟩ = some (.int .i64 a0_0) := (blk_cell BK118.out 0).trans rfl
   have hcz5_1 : w3.cell? ⟨gb118, 1, none⟩ = some (.string a0_1) := (blk_cell BK118.out 1).trans rfl
   have hcz5_2 : w3.cell? ⟨gb118, 2, none⟩ = some (.int .i64 a0_2) := (blk_cell BK118.out 2).trans rfl
   have hcz5_3 : w3.cell? ⟨gb118, 3, none⟩ = some (.int .i64 a0_3) := (blk_cell BK118.out 3).trans rfl
   have hfz5_0 := blk_frozen BK118.out 0
   have hfz5_1 := blk_frozen BK118.out 1
   have hfz5_2 := blk_frozen BK118.out 2
   have hfz5_3 := blk_frozen BK118.out 3
   go_wp2
   repeat (go_quiet (fail); try go_wp2)
   go_meet
   case rel => exact ⟨_, (false), (by first | rfl | (simp; done) | (simp [*]; done)), H', ⟨by first | omega | exact Nat.le_refl _⟩, ⟨by (with_reducible repeat (first | refine bkN ?_ _ | refine bkD ?_ | refine bkA ?_ _)); exact BK118.out⟩, ⟨by repeat (first | (with_reducible first | exact HB.out | apply bwA | apply bwN | apply bwD | refine bwC ?_ GE118.out) | exact HB.out)⟩⟩
  ·
   rw [if_neg c4] at H
   have c4b0 : (a0_0 == 5) = false := beq_eq_false_iff_ne.mpr c4
   have c4b1 : (a0_0 != 5) = true := bne_iff_ne.mpr c4
   (first | rw [c4b0] | (simp only [i64_w, i32_w]; rw [c4b0]) | skip)
   have H' := As.mk H
   clear H
   have hcz6_0 : w3.cell? ⟨gb118, 0, none⟩ = some (.int .i64 a0_0) := (blk_cell BK118.out 0).trans rfl
   have hcz6_1 : w3.cell? ⟨gb118, 1, none⟩ = some (.string a0_1) := (blk_cell BK118.out 1).trans rfl
   have hcz6_2 : w3.cell? ⟨gb118, 2, none⟩ = some (.int .i64 a0_2) := (blk_cell BK118.out 2).trans rfl
   have hcz6_3 : w3.cell? ⟨gb118, 3, none⟩ = some (.int .i64 a0_3) := (blk_cell BK118.out 3).trans rfl
   have hfz6_0 := blk_frozen BK118.out 0
   have hfz6_1 := blk_frozen BK118.out 1
   have hfz6_2 := blk_frozen BK118.out 2
   have hfz6_3 := blk_frozen BK118.out 3
   go_wp2
   repeat (go_quiet (fail); try go_wp2)
   go_meet
   case rel => exact ⟨_, ((a0_0 != 2)), (by first | rfl | (simp; done) | (simp [*]; done)), H', ⟨by first | omega | exact Nat.le_refl _⟩, ⟨by (with_reducible repeat (first | refine bkN ?_ _ | refine bkD ?_ | refine bkA ?_ _)); exact BK118.out⟩, ⟨by repeat (first | (with_reducible first | exact HB.out | apply bwA | apply bwN | apply bwD | refine bwC ?_ GE118.out) | exact HB.out)⟩⟩
 case rest =>
  clear HC2
  try clear p2
  try clear c4
  try clear c4b0
  try clear c4b1
  try clear hcz5_0
  try clear hcz5_1
  try clear hcz5_2
  try clear hcz5_3
  try clear hcz6_0
  try clear hcz6_1
  try clear hcz6_2
  try clear hcz6_3
  try clear hfz5_0
  try clear hfz5_1
  try clear hfz5_2
  try clear hfz5_3
  try clear hfz6_0
  try clear hfz6_1
  try clear hfz6_2
  try clear hfz6_3
  obtain ⟨kq, x12_1, rfl, HA, HJ1, BK118, HB⟩ := hcut
  cases kq with
  | zero => exact absurd HA.out (by simp [ppred_binary.j0])
  | succ kj1 =>
   have H := HA.out
   clear HA
   simp only [ppred_binary.j0] at H
   by_cases c7 : x12_1 = true
   ·
    subst c7
    have H1 : (some (0, 0)) = some (r1, r2) := by rw [if_pos rfl] at H; exact H
    clear H
    have H := H1
    clear H1
    simp only [Option.some.injEq, Prod.mk.injEq] at H
    obtain ⟨rfl, rfl⟩ := H
    go_wp2
    repeat (go_quiet (fail); try go_wp2)
    go_ret2
    exact ⟨by first | rfl | (simp [errW_none, errW_some] <;> rfl) | (simp [*, errW_none, errW_some] <;> rfl), by repeat (first | (with_reducible first | exact HB.out | apply bwA | apply bwN | apply bwD | refine bwC ?_ GE118.out) | exact HB.out)⟩
   ·
    replace c7 := Bool.eq_false_iff.mpr c7
    subst c7
    have H1 : (ppred_binary.l0 kj1 4 a0_0 a0_1 a0_2 a0_3) = some (r1, r2) := by rw [if_neg (show ¬ (false = true) by decide)] at H; exact H
    clear H
    have H := H1
    clear H1
    have H' := As.mk H
    clear H
    go_wp2
    repeat (go_quiet (fail); try go_wp2)
    go_loopg [4] kj1 (fun kq v4 w' => ∃ (x4_2 : Int), v4 = .int .i64 x4_2 ∧ As (ppred_binary.l0 kq x4_2 a0_0 a0_1 a0_2 a0_3 = some (r1, r2)) ∧ As (kq ≤ kj1) ∧ As (w'.heap[gb118]? = some (.cells #[.int .i64 a0_0, .string a0_1, .int .i64 a0_2, .int .i64 a0_3] 67 (0, 0))) ∧ As (Below w.heap.size w w'))
    case atStart => exact ⟨(4), (by first | rfl | (simp; done) | (simp [*]; done)), H', ⟨Nat.le_refl _⟩, ⟨by (with_reducible repeat (first | refine bkN ?_ _ | refine bkD ?_ | refine bkA ?_ _)); exact BK118.out⟩, ⟨by repeat (first | (with_reducible first | exact HB.out | apply bwA | apply bwN | apply bwD | refine bwC ?_ GE118.out) | exact HB.out)⟩⟩
    case round =>
     clear H'
     try clear p2
     try clear c4
     try clear c4b0
     try clear c4b1
     try clear c7
     try clear hcz5_0
     try clear hcz5_1
     try clear hcz5_2
     try clear hcz5_3
     try clear hcz6_0
     try clear hcz6_1
     try clear hcz6_2
     try clear hcz6_3
     try clear hfz5_0
     try clear hfz5_1
     try clear hfz5_2
     try clear hfz5_3
     try clear hfz6_0
     try clear hfz6_1
     try clear hfz6_2
     try clear hfz6_3
     try clear p2
     obtain ⟨x4_2, rfl, HA, HK2, BK118, HB⟩ := hrel
     cases gk with
     | zero => exact absurd HA.out (by simp [ppred_binary.l0])
     | succ k2 =>
      have H := HA.out
      clear HA
      simp only [ppred_binary.l0] at H
      by_cases c8 : x4_2 ≤ 15
      ·
       rw [if_pos c8] at H
       have c8b0 : decide (x4_2 ≤ 15) = true := decide_eq_true c8
       clear c8
       have HC9 := As.mk H
       clear H
       go_upto_region 6 with (fail)
       repeat (go_quiet (fail); go_upto_region 6 with (fail))
       go_cut [25] (fun v25 wc => ∃ (kq : Nat) (x25_8 : Bool), v25 = .bool x25_8 ∧ As (ppred_binary.j2 kq x4_2 x25_8 a0_0 a0_1 a0_2 a0_3 = some (r1, r2)) ∧ As (kq ≤ k2) ∧ As (wc.heap[gb118]? = some (.cells #[.int .i64 a0_0, .string a0_1, .int .i64 a0_2, .int .i64 a0_3] 67 (0, 0))) ∧ As (Below w.heap.size w wc))
       case first =>
        have H := HC9.out
        clear HC9
        by_cases c10 : x4_2 = 13
        ·
         rw [if_pos c10] at H
         have c10b0 : (x4_2 == 13) = true := beq_iff_eq.mpr c10
         have c10b1 : (x4_2 != 13) = false := bne_eq_false_iff_eq.mpr c10
         clear c10
         (first | rw [c10b0] | (simp only [i64_w, i32_w]; rw [c10b0]) | skip)
         have H' := As.mk H
         clear H
         go_wp2
         repeat (go_quiet (fail); try go_wp2)
         go_meet
         case rel => exact ⟨_, (true), (by first | rfl | (simp; done) | (simp [*]; done)), H', ⟨by have := HJ1.out; have := HK2.out; first | omega | exact Nat.le_refl _⟩, ⟨by (with_reducible repeat (first | refine bkN ?_ _ | refine bkD ?_ | refine bkA ?_ _)); exact BK118.out⟩, ⟨by repeat (first | (with_reducible first | exact HB.out | apply bwA | apply bwN | apply bwD | refine bwC ?_ GE118.out) | exact HB.out)⟩⟩
        ·
         rw [if_neg c10] at H
         have c10b0 : (x4_2 == 13) = false := beq_eq_false_iff_ne.mpr c10
         have c10b1 : (x4_2 != 13) = true := bne_iff_ne.mpr c10
         (first | rw [c10b0] | (simp only [i64_w, i32_w]; rw [c10b0]) | skip)
         replace H := Option.bind_eq_some_iff.mp H
         obtain ⟨t119, A110, H⟩ := H
         replace H : (ppred_binary.j2 k2 x4_2 (t119.toList != a0_1.toList) a0_0 a0_1 a0_2 a0_3) = some (r1, r2) := H
         have A11 := As.mk A110
         clear A110
         have H' := As.mk H
         clear H
         go_wp2_with (first | (go_at_call 67; (with_reducible refine (term_Sign.calls k2 x4_2 t119 _ A11.out).mono ?_); rintro e w' ⟨rfl, ⟨nd, rfl⟩⟩; (try first | exact ⟨rfl, _, World.drewN_drewN _ _ _⟩ | exact ⟨rfl, _, Eq.trans (World.drewN_drewN _ _ _) (congrArg (World.drewN _) (Nat.add_assoc _ _ _))⟩); have hcz12_0 : wr.cell? ⟨gb118, 0, none⟩ = some (.int .i64 a0_0) := (blk_cell BK118.out 0).trans rfl; have hcz12_1 : wr.cell? ⟨gb118, 1, none⟩ = some (.string a0_1) := (blk_cell BK118.out 1).trans rfl; have hcz12_2 : wr.cell? ⟨gb118, 2, none⟩ = some (.int .i64 a0_2) := (blk_cell BK118.out 2).trans rfl; have hcz12_3 : wr.cell? ⟨gb118, 3, none⟩ = some (.int .i64 a0_3) := (blk_cell BK118.out 3).trans rfl; have hfz12_0 := blk_frozen BK118.out 0; have hfz12_1 := blk_frozen BK118.out 1; have hfz12_2 := blk_frozen BK118.out 2; have hfz12_3 := blk_frozen BK118.out 3))
         repeat (go_quiet (first | (go_at_call 67; (with_reducible refine (term_Sign.calls k2 x4_2 t119 _ A11.out).mono ?_); rintro e w' ⟨rfl, ⟨nd, rfl⟩⟩; (try first | exact ⟨rfl, _, World.drewN_drewN _ _ _⟩ | exact ⟨rfl, _, Eq.trans (World.drewN_drewN _ _ _) (congrArg (World.drewN _) (Nat.add_assoc _ _ _))⟩); have hcz12_0 : wr.cell? ⟨gb118, 0, none⟩ = some (.int .i64 a0_0) := (blk_cell BK118.out 0).trans rfl; have hcz12_1 : wr.cell? ⟨gb118, 1, none⟩ = some (.string a0_1) := (blk_cell BK118.out 1).trans rfl; have hcz12_2 : wr.cell? ⟨gb118, 2, none⟩ = some (.int .i64 a0_2) := (blk_cell BK118.out 2).trans rfl; have hcz12_3 : wr.cell? ⟨gb118, 3, none⟩ = some (.int .i64 a0_3) := (blk_cell BK118.out 3).trans rfl; have hfz12_0 := blk_frozen BK118.out 0; have hfz12_1 := blk_frozen BK118.out 1; have hfz12_2 := blk_frozen BK118.out 2; have hfz12_3 := blk_frozen BK118.out 3)); try go_wp2_with (first | (go_at_call 67; (with_reducible refine (term_Sign.calls k2 x4_2 t119 _ A11.out).mono ?_); rintro e w' ⟨rfl, ⟨nd, rfl⟩⟩; (try first | exact ⟨rfl, _, World.drewN_drewN _ _ _⟩ | exact ⟨rfl, _, Eq.trans (World.drewN_drewN _ _ _) (congrArg (World.drewN _) (Nat.add_assoc _ _ _))⟩); have hcz12_0 : wr.cell? ⟨gb118, 0, none⟩ = some (.int .i64 a0_0) := (blk_cell BK118.out 0).trans rfl; have hcz12_1 : wr.cell? ⟨gb118, 1, none⟩ = some (.string a0_1) := (blk_cell BK118.out 1).trans rfl; have hcz12_2 : wr.cell? ⟨gb118, 2, none⟩ = some (.int .i64 a0_2) := (blk_cell BK118.out 2).trans rfl; have hcz12_3 : wr.cell? ⟨gb118, 3, none⟩ = some (.int .i64 a0_3) := (blk_cell BK118.out 3).trans rfl; have hfz12_0 := blk_frozen BK118.out 0; have hfz12_1 := blk_frozen BK118.out 1; have hfz12_2 := blk_frozen BK118.out 2; have hfz12_3 := blk_frozen BK118.out 3)))
         go_meet
         case rel => exact ⟨_, ((t119.toList != a0_1.toList)), (by first | rfl | (simp; done) | (simp [*]; done)), H', ⟨by have := HJ1.out; have := HK2.out; first | omega | exact Nat.le_refl _⟩, ⟨by (with_reducible repeat (first | refine bkN ?_ _ | refine bkD ?_ | refine bkA ?_ _)); exact BK118.out⟩, ⟨by repeat (first | (with_reducible first | exact HB.out | apply bwA | apply bwN | apply bwD | refine bwC ?_ GE118.out) | exact HB.out)⟩⟩
       case rest =>
        clear HC9
        try clear c1
        try clear p2
        try clear c4
        try clear c4b0
        try clear c4b1
        try clear c7
        try clear c8
        try clear c8b0
        try clear c10
        try clear c10b0
        try clear c10b1
        try clear hcz12_0
        try clear hcz12_1
        try clear hcz12_2
        try clear hcz12_3
        try clear hcz5_0
        try clear hcz5_1
        try clear hcz5_2
        try clear hcz5_3
        try clear hcz6_0
        try clear hcz6_1
        try clear hcz6_2
        try clear hcz6_3
        try clear hfz12_0
        try clear hfz12_1
        try clear hfz12_2
        try clear hfz12_3
        try clear hfz5_0
        try clear hfz5_1
        try clear hfz5_2
        try clear hfz5_3
        try clear hfz6_0
        try clear hfz6_1
        try clear hfz6_2
        try clear hfz6_3
        try clear p2
        obtain ⟨kq, x25_8, rfl, HA, HJ8, BK118, HB⟩ := hcut
        cases kq with
        | zero => exact absurd HA.out (by simp [ppred_binary.j2])
        | succ kj8 =>
         have H := HA.out
         clear HA
         simp only [ppred_binary.j2] at H
         by_cases c13 : x25_8 = true
         ·
          subst c13
          have H1 : (ppred_binary.l0 kj8 (wrap64 (x4_2 + 1)) a0_0 a0_1 a0_2 a0_3) = some (r1, r2) := by rw [if_pos rfl] at H; exact H
          clear H
          have H := H1
          clear H1
          have H' := As.mk H
          clear H
          go_wp2
          repeat (go_quiet (fail); try go_wp2)
          go_roundg kj8
          case measure => have := HJ1.out; have := HK2.out; have := HJ8.out; omega
          case rel => exact ⟨(wrap64 (x4_2 + 1)), (by first | rfl | (simp; done) | (simp [*]; done)), H', ⟨by have := HJ1.out; have := HK2.out; have := HJ8.out; omega⟩, ⟨by (with_reducible repeat (first | refine bkN ?_ _ | refine bkD ?_ | refine bkA ?_ _)); exact BK118.out⟩, ⟨by repeat (first | (with_reducible first | exact HB.out | apply bwA | apply bwN | apply bwD | refine bwC ?_ GE118.out) | exact HB.out)⟩⟩
         ·
          replace c13 := Bool.eq_false_iff.mpr c13
          subst c13
          have H1 : (if x4_2 = 15 then (some (x4_2, 1)) else (if x4_2 = 14 then (some (x4_2, 2)) else (if x4_2 ≥ 7 then (some (x4_2, 4)) else (if x4_2 = 6 then (some (x4_2, 6)) else (some (x4_2, 5)))))) = some (r1, r2) := by rw [if_neg (show ¬ (false = true) by decide)] at H; exact H
          clear H
          have H := H1
          clear H1
          by_cases c14 : x4_2 = 15
          ·
           rw [if_pos c14] at H
           have c14b0 : (x4_2 == 15) = true := beq_iff_eq.mpr c14
           have c14b1 : (x4_2 != 15) = false := bne_eq_false_iff_eq.mpr c14
           clear c14
           simp only [Option.some.injEq, Prod.mk.injEq] at H
           obtain ⟨rfl, rfl⟩ := H
           go_wp2
           repeat (go_quiet (fail); try go_wp2)
           go_ret2
           exact ⟨by first | rfl | (simp [errW_none, errW_some] <;> rfl) | (simp [*, errW_none, errW_some] <;> rfl), by repeat (first | (with_reducible first | exact HB.out | apply bwA | apply bwN | apply bwD | refine bwC ?_ GE118.out) | exact HB.out)⟩
          ·
           rw [if_neg c14] at H
           have c14b0 : (x4_2 == 15) = false := beq_eq_false_iff_ne.mpr c14
           have c14b1 : (x4_2 != 15) = true := bne_iff_ne.mpr c14
           by_cases c15 : x4_2 = 14
           ·
            rw [if_pos c15] at H
            have c15b0 : (x4_2 == 14) = true := beq_iff_eq.mpr c15
            have c15b1 : (x4_2 != 14) = false := bne_eq_false_iff_eq.mpr c15
            clear c15
            simp only [Option.some.injEq, Prod.mk.injEq] at H
            obtain ⟨rfl, rfl⟩ := H
            go_wp2
            repeat (go_quiet (fail); try go_wp2)
            go_ret2
            exact ⟨by first | rfl | (simp [errW_none, errW_some] <;> rfl) | (simp [*, errW_none, errW_some] <;> rfl), by repeat (first | (with_reducible first | exact HB.out | apply bwA | apply bwN | apply bwD | refine bwC ?_ GE118.out) | exact HB.out)⟩
           ·
            rw [if_neg c15] at H
            have c15b0 : (x4_2 == 14) = false := beq_eq_false_iff_ne.mpr c15
            have c15b1 : (x4_2 != 14) = true := bne_iff_ne.mpr c15
            by_cases c16 : x4_2 ≥ 7
            ·
             rw [if_pos c16] at H
             have c16b0 : decide (7 ≤ x4_2) = true := decide_eq_true c16
             clear c16
             simp only [Option.some.injEq, Prod.mk.injEq] at H
             obtain ⟨rfl, rfl⟩ := H
             go_wp2
             repeat (go_quiet (fail); try go_wp2)
             go_ret2
             exact ⟨by first | rfl | (simp [errW_none, errW_some] <;> rfl) | (simp [*, errW_none, errW_some] <;> rfl), by repeat (first | (with_reducible first | exact HB.out | apply bwA | apply bwN | apply bwD | refine bwC ?_ GE118.out) | exact HB.out)⟩
            ·
             rw [if_neg c16] at H
             have c16b0 : decide (7 ≤ x4_2) = false := decide_eq_false c16
             clear c16
             by_cases c17 : x4_2 = 6
             ·
              rw [if_pos c17] at H
              have c17b0 : (x4_2 == 6) = true := beq_iff_eq.mpr c17
              have c17b1 : (x4_2 != 6) = false := bne_eq_false_iff_eq.mpr c17
              clear c17
              simp only [Option.some.injEq, Prod.mk.injEq] at H
              obtain ⟨rfl, rfl⟩ := H
              go_wp2
              repeat (go_quiet (fail); try go_wp2)
              go_ret2
              exact ⟨by first | rfl | (simp [errW_none, errW_some] <;> rfl) | (simp [*, errW_none, errW_some] <;> rfl), by repeat (first | (with_reducible first | exact HB.out | apply bwA | apply bwN | apply bwD | refine bwC ?_ GE118.out) | exact HB.out)⟩
             ·
              rw [if_neg c17] at H
              have c17b0 : (x4_2 == 6) = false := beq_eq_false_iff_ne.mpr c17
              have c17b1 : (x4_2 != 6) = true := bne_iff_ne.mpr c17
              simp only [Option.some.injEq, Prod.mk.injEq] at H
              obtain ⟨rfl, rfl⟩ := H
              go_wp2
              repeat (go_quiet (fail); try go_wp2)
              go_ret2
              exact ⟨by first | rfl | (simp [errW_none, errW_some] <;> rfl) | (simp [*, errW_none, errW_some] <;> rfl), by repeat (first | (with_reducible first | exact HB.out | apply bwA | apply bwN | apply bwD | refine bwC ?_ GE118.out) | exact HB.out)⟩
      ·
       rw [if_neg c8] at H
       have c8b0 : decide (x4_2 ≤ 15) = false := decide_eq_false c8
       clear c8
       simp only [Option.some.injEq, Prod.mk.injEq] at H
       obtain ⟨rfl, rfl⟩ := H
       go_wp2
       repeat (go_quiet (fail); try go_wp2)
       go_ret2
       exact ⟨by first | rfl | (simp [errW_none, errW_some] <;> rfl) | (simp [*, errW_none, errW_some] <;> rfl), by repeat (first | (with_reducible first | exact HB.out | apply bwA | apply bwN | apply bwD | refine bwC ?_ GE118.out) | exact HB.out)⟩

/-! ### value_Num: function 63 -/
def value_Num.f (a0 : Int) : Option (Int × Int × ByteArray × Bool) := some (1, a0, (⟨#[]⟩ : ByteArray), false)
set_option maxHeartbeats 8000000 in
set_option maxRecDepth 100000 in
theorem value_Num.calls (a0 : Int) (r1 : Int) (r2 : Int) (r3 : ByteArray) (r4 : Bool) (w : World) (h : value_Num.f a0 = some (r1, r2, r3, r4)) :
  Calls Tryd.prog 63 #[.int .i64 a0] w fun e w' => e = .returned (.agg #[.int .i64 r1, .int .i64 r2, .string r3, .bool r4]) ∧ Below w.heap.size w w' := by
 have hu51 := Tryd.underlying51
 have HB := As.mk (Below.refl w.heap.size w)
 have H : (some (1, a0, (⟨#[]⟩ : ByteArray), false)) = some (r1, r2, r3, r4) := h
 clear h
 simp only [Option.some.injEq, Prod.mk.injEq] at H
 obtain ⟨rfl, rfl, rfl, rfl⟩ := H
 go_enter Tryd.func63, Tryd.ntmps63
 go_wp2_with (first | ((with_reducible refine gate_dst (N := 2) rfl ?_); refine box_event ?hg (N := 2) ?hd (cs := #[.int .i64 0, .int .i64 0, .string (⟨#[]⟩ : ByteArray), .bool false]) (t := 51) ?hr ?_; (case hd => rfl); (case hg => rfl); (case hr => first | (go_simp; done) | (go_simp; rfl)); intro gb120 hg w2 hbox hb; have n0_ := As.mk (bwS (by repeat (first | (with_reducible first | exact HB.out | apply bwA | apply bwN | apply bwD) | exact HB.out)) hb); have n1_ := As.mk (hbox); have n2_ := As.mk ((by rw [hg]; exact (bwZ (by repeat (first | (with_reducible first | exact HB.out | apply bwA | apply bwN | apply bwD) | exact HB.out))) : w.heap.size ≤ gb120)); have n3_ := As.mk ((by rw [hg]; exact (bwZ (by repeat (first | (with_reducible first | exact HB.out | apply bwA | apply bwN | apply bwD) | exact HB.out))) : w.heap.size ≤ gb120)); clear HB; have HB := n0_; have BK120 := n1_; have GW120 := n2_; have GE120 := n3_; clear n0_ n1_ n2_ n3_; clear hb hbox hg; have hcz3_0 : w2.cell? ⟨gb120, 0, none⟩ = some (.int .i64 0) := (blk_cell BK120.out 0).trans rfl; have hcz3_1 : w2.cell? ⟨gb120, 1, none⟩ = some (.int .i64 0) := (blk_cell BK120.out 1).trans rfl; have hcz3_2 : w2.cell? ⟨gb120, 2, none⟩ = some (.string (⟨#[]⟩ : ByteArray)) := (blk_cell BK120.out 2).trans rfl; have hcz3_3 : w2.cell? ⟨gb120, 3, none⟩ = some (.bool false) := (blk_cell BK120.out 3).trans rfl; have hfz3_0 := blk_frozen BK120.out 0; have hfz3_1 := blk_frozen BK120.out 1; have hfz3_2 := blk_frozen BK120.out 2; have hfz3_3 := blk_frozen BK120.out 3))
 refine bodyPost_ret (results_cell_row rfl _ _ gb120 51 #[.int .i64 1, .int .i64 a0, .string (⟨#[]⟩ : ByteArray), .bool false] (0, 0) _ rfl (by (with_reducible repeat (first | refine bkN ?_ _ | refine bkD ?_ | refine bkA ?_ _)); refine blk_put (cs := #[.int .i64 1, .int .i64 a0, .string (⟨#[]⟩ : ByteArray), .bool false]) ?_ 3 _ rfl; (with_reducible repeat (first | refine bkN ?_ _ | refine bkD ?_ | refine bkA ?_ _)); refine blk_put (cs := #[.int .i64 1, .int .i64 a0, .string (⟨#[]⟩ : ByteArray), .bool false]) ?_ 2 _ rfl; (with_reducible repeat (first | refine bkN ?_ _ | refine bkD ?_ | refine bkA ?_ _)); refine blk_put (cs := #[.int .i64 1, .int .i64 0, .string (⟨#[]⟩ : ByteArray), .bool false]) ?_ 1 _ rfl; (with_reducible repeat (first | refine bkN ?_ _ | refine bkD ?_ | refine bkA ?_ _)); refine blk_put (cs := #[.int .i64 0, .int .i64 0, .string (⟨#[]⟩ : ByteArray), .bool false]) ?_ 0 _ rfl; (with_reducible repeat (first | refine bkN ?_ _ | refine bkD ?_ | refine bkA ?_ _)); exact BK120.out) Tryd.underlying51 rfl (by kernel_rfl)) rfl ?_
 exact ⟨by first | rfl | (simp [errW_none, errW_some] <;> rfl) | (simp [*, errW_none, errW_some] <;> rfl), by repeat (first | (with_reducible first | exact HB.out | apply bwA | apply bwN | apply bwD | refine bwC ?_ GE120.out) | exact HB.out)⟩

/-! ### value_Text: function 64 -/
def value_Text.f (a0 : ByteArray) : Option (Int × Int × ByteArray × Bool) := some (2, 0, a0, false)
set_option maxHeartbeats 8000000 in
set_option maxRecDepth 100000 in
theorem value_Text.calls (a0 : ByteArray) (r1 : Int) (r2 : Int) (r3 : ByteArray) (r4 : Bool) (w : World) (h : value_Text.f a0 = some (r1, r2, r3, r4)) :
  Calls Tryd.prog 64 #[.string a0] w fun e w' => e = .returned (.agg #[.int .i64 r1, .int .i64 r2, .string r3, .bool r4]) ∧ Below w.heap.size w w' := by
 have hu51 := Tryd.underlying51
 have HB := As.mk (Below.refl w.heap.size w)
 have H : (some (2, 0, a0, false)) = some (r1, r2, r3, r4) := h
 clear h
 simp only [Option.some.injEq, Prod.mk.injEq] at H
 obtain ⟨rfl, rfl, rfl, rfl⟩ := H
 go_enter Tryd.func64, Tryd.ntmps64
 go_wp2_with (first | ((with_reducible refine gate_dst (N := 2) rfl ?_); refine box_event ?hg (N := 2) ?hd (cs := #[.int .i64 0, .int .i64 0, .string (⟨#[]⟩ : ByteArray), .bool false]) (t := 51) ?hr ?_; (case hd => rfl); (case hg => rfl); (case hr => first | (go_simp; done) | (go_simp; rfl)); intro gb121 hg w2 hbox hb; have n0_ := As.mk (bwS (by repeat (first | (with_reducible first | exact HB.out | apply bwA | apply bwN | apply bwD) | exact HB.out)) hb); have n1_ := As.mk (hbox); have n2_ := As.mk ((by rw [hg]; exact (bwZ (by repeat (first | (with_reducible first | exact HB.out | apply bwA | apply bwN | apply bwD) | exact HB.out))) : w.heap.size ≤ gb121)); have n3_ := As.mk ((by rw [hg]; exact (bwZ (by repeat (first | (with_reducible first | exact HB.out | apply bwA | apply bwN | apply bwD) | exact HB.out))) : w.heap.size ≤ gb121)); clear HB; have HB := n0_; have BK121 := n1_; have GW121 := n2_; have GE121 := n3_; clear n0_ n1_ n2_ n3_; clear hb hbox hg; have hcz3_0 : w2.cell? ⟨gb121, 0, none⟩ = some (.int .i64 0) := (blk_cell BK121.out 0).trans rfl; have hcz3_1 : w2.cell? ⟨gb121, 1, none⟩ = some (.int .i64 0) := (blk_cell BK121.out 1).trans rfl; have hcz3_2 : w2.cell? ⟨gb121, 2, none⟩ = some (.string (⟨#[]⟩ : ByteArray)) := (blk_cell BK121.out 2).trans rfl; have hcz3_3 : w2.cell? ⟨gb121, 3, none⟩ = some (.bool false) := (blk_cell BK121.out 3).trans rfl; have hfz3_0 := blk_frozen BK121.out 0; have hfz3_1 := blk_frozen BK121.out 1; have hfz3_2 := blk_frozen BK121.out 2; have hfz3_3 := blk_frozen BK121.out 3))
 refine bodyPost_ret (results_cell_row rfl _ _ gb121 51 #[.int .i64 2, .int .i64 0, .string a0, .bool false] (0, 0) _ rfl (by (with_reducible repeat (first | refine bkN ?_ _ | refine bkD ?_ | refine bkA ?_ _)); refine blk_put (cs := #[.int .i64 2, .int .i64 0, .string a0, .bool false]) ?_ 3 _ rfl; (with_reducible repeat (first | refine bkN ?_ _ | refine bkD ?_ | refine bkA ?_ _)); refine blk_put (cs := #[.int .i64 2, .int .i64 0, .string (⟨#[]⟩ : ByteArray), .bool false]) ?_ 2 _ rfl; (with_reducible repeat (first | refine bkN ?_ _ | refine bkD ?_ | refine bkA ?_ _)); refine blk_put (cs := #[.int .i64 2, .int .i64 0, .string (⟨#[]⟩ : ByteArray), .bool false]) ?_ 1 _ rfl; (with_reducible repeat (first | refine bkN ?_ _ | refine bkD ?_ | refine bkA ?_ _)); refine blk_put (cs := #[.int .i64 0, .int .i64 0, .string (⟨#[]⟩ : ByteArray), .bool false]) ?_ 0 _ rfl; (with_reducible repeat (first | refine bkN ?_ _ | refine bkD ?_ | refine bkA ?_ _)); exact BK121.out) Tryd.underlying51 rfl (by kernel_rfl)) rfl ?_
 exact ⟨by first | rfl | (simp [errW_none, errW_some] <;> rfl) | (simp [*, errW_none, errW_some] <;> rfl), by repeat (first | (with_reducible first | exact HB.out | apply bwA | apply bwN | apply bwD | refine bwC ?_ GE121.out) | exact HB.out)⟩

/-! ### value_Truth: function 65 -/
def value_Truth.f (a0 : Bool) : Option (Int × Int × ByteArray × Bool) := some (3, 0, (⟨#[]⟩ : ByteArray), a0)
set_option maxHeartbeats 8000000 in
set_option maxRecDepth 100000 in
theorem value_Truth.calls (a0 : Bool) (r1 : Int) (r2 : Int) (r3 : ByteArray) (r4 : Bool) (w : World) (h : value_Truth.f a0 = some (r1, r2, r3, r4)) :
  Calls Tryd.prog 65 #[.bool a0] w fun e w' => e = .returned (.agg #[.int .i64 r1, .int .i64 r2, .string r3, .bool r4]) ∧ Below w.heap.size w w' := by
 have hu51 := Tryd.underlying51
 have HB := As.mk (Below.refl w.heap.size w)
 have H : (some (3, 0, (⟨#[]⟩ : ByteArray), a0)) = some (r1, r2, r3, r4) := h
 clear h
 simp only [Option.some.injEq, Prod.mk.injEq] at H
 obtain ⟨rfl, rfl, rfl, rfl⟩ := H
 go_enter Tryd.func65, Tryd.ntmps65
 go_wp2_with (first | ((with_reducible refine gate_dst (N := 2) rfl ?_); refine box_event ?hg (N := 2) ?hd (cs := #[.int .i64 0, .int .i64 0, .string (⟨#[]⟩ : ByteArray), .bool false]) (t := 51) ?hr ?_; (case hd => rfl); (case hg => rfl); (case hr => first | (go_simp; done) | (go_simp; rfl)); intro gb122 hg w2 hbox hb; have n0_ := As.mk (bwS (by repeat (first | (with_reducible first | exact HB.out | apply bwA | apply bwN | apply bwD) | exact HB.out)) hb); have n1_ := As.mk (hbox); have n2_ := As.mk ((by rw [hg]; exact (bwZ (by repeat (first | (with_reducible first | exact HB.out | apply bwA | apply bwN | apply bwD) | exact HB.out))) : w.heap.size ≤ gb122)); have n3_ := As.mk ((by rw [hg]; exact (bwZ (by repeat (first | (with_reducible first | exact HB.out | apply bwA | apply bwN | apply bwD) | exact HB.out))) : w.heap.size ≤ gb122)); clear HB; have HB := n0_; have BK122 := n1_; have GW122 := n2_; have GE122 := n3_; clear n0_ n1_ n2_ n3_; clear hb hbox hg; have hcz3_0 : w2.cell? ⟨gb122, 0, none⟩ = some (.int .i64 0) := (blk_cell BK122.out 0).trans rfl; have hcz3_1 : w2.cell? ⟨gb122, 1, none⟩ = some (.int .i64 0) := (blk_cell BK122.out 1).trans rfl; have hcz3_2 : w2.cell? ⟨gb122, 2, none⟩ = some (.string (⟨#[]⟩ : ByteArray)) := (blk_cell BK122.out 2).trans rfl; have hcz3_3 : w2.cell? ⟨gb122, 3, none⟩ = some (.bool false) := (blk_cell BK122.out 3).trans rfl; have hfz3_0 := blk_frozen BK122.out 0; have hfz3_1 := blk_frozen BK122.out 1; have hfz3_2 := blk_frozen BK122.out 2; have hfz3_3 := blk_frozen BK122.out 3))
 refine bodyPost_ret (results_cell_row rfl _ _ gb122 51 #[.int .i64 3, .int .i64 0, .string (⟨#[]⟩ : ByteArray), .bool a0] (0, 0) _ rfl (by (with_reducible repeat (first | refine bkN ?_ _ | refine bkD ?_ | refine bkA ?_ _)); refine blk_put (cs := #[.int .i64 3, .int .i64 0, .string (⟨#[]⟩ : ByteArray), .bool false]) ?_ 3 _ rfl; (with_reducible repeat (first | refine bkN ?_ _ | refine bkD ?_ | refine bkA ?_ _)); refine blk_put (cs := #[.int .i64 3, .int .i64 0, .string (⟨#[]⟩ : ByteArray), .bool false]) ?_ 2 _ rfl; (with_reducible repeat (first | refine bkN ?_ _ | refine bkD ?_ | refine bkA ?_ _)); refine blk_put (cs := #[.int .i64 3, .int .i64 0, .string (⟨#[]⟩ : ByteArray), .bool false]) ?_ 1 _ rfl; (with_reducible repeat (first | refine bkN ?_ _ | refine bkD ?_ | refine bkA ?_ _)); refine blk_put (cs := #[.int .i64 0, .int .i64 0, .string (⟨#[]⟩ : ByteArray), .bool false]) ?_ 0 _ rfl; (with_reducible repeat (first | refine bkN ?_ _ | refine bkD ?_ | refine bkA ?_ _)); exact BK122.out) Tryd.underlying51 rfl (by kernel_rfl)) rfl ?_
 exact ⟨by first | rfl | (simp [errW_none, errW_some] <;> rfl) | (simp [*, errW_none, errW_some] <;> rfl), by repeat (first | (with_reducible first | exact HB.out | apply bwA | apply bwN | apply bwD | refine bwC ?_ GE122.out) | exact HB.out)⟩

/-! ### text_Reader_At: function 55 -/
def text_Reader_At.f (s0_0 : ByteArray) (s0_1 : Int) : Option (Int × ByteArray × Int) := some (s0_1, s0_0, s0_1)
set_option maxHeartbeats 8000000 in
set_option maxRecDepth 100000 in
theorem text_Reader_At.calls (g : Nat) (s0_0 : ByteArray) (s0_1 : Int) (r1 : Int) (r2 : ByteArray) (r3 : Int) (w0 w : World) (hI : IsS105 w0 w g s0_0 s0_1) (hB : Below w0.heap.size w0 w) (h : text_Reader_At.f s0_0 s0_1 = some (r1, r2, r3)) :
  Calls Tryd.prog 55 #[.pointer (some ⟨g, 0, none⟩)] w fun e w' => e = .returned (.int .i64 r1) ∧ IsS105 w0 w' g r2 r3 ∧ Below w0.heap.size w0 w' ∧ KeepBut w w' g none := by
 have HI0 := As.mk hI
 have HK := As.mk (KeepBut.refl w g none)
 have HL := As.mk hB.size
 clear hI
 have HW0 := As.mk hB.size
 have HB := As.mk hB
 clear hB
 have H : (some (s0_1, s0_0, s0_1)) = some (r1, r2, r3) := h
 clear h
 simp only [Option.some.injEq, Prod.mk.injEq] at H
 obtain ⟨rfl, rfl, rfl⟩ := H
 obtain ⟨HGz2, hgz2⟩ := HI0.out
 have hcz2_0 := cellS105_0 HGz2
 have hcz2_1 := cellS105_1 HGz2
 have hfz2_0 := blk_frozen HGz2 0
 have hfz2_1 := blk_frozen HGz2 1
 clear HGz2 hgz2
 go_enter Tryd.func55, Tryd.ntmps55
 go_wp2
 go_ret
 exact ⟨by first | rfl | (simp [errW_none, errW_some] <;> rfl) | (simp [*, errW_none, errW_some] <;> rfl), by repeat (first | (with_reducible first | exact HI0.out | apply IsS105.alloc | apply IsS105.drewN | apply IsS105.drew | apply IsS105.set_0 | apply IsS105.set_1) | exact HI0.out), by repeat (first | (with_reducible first | exact HB.out | apply bwA | apply bwN | apply bwD | refine bwC ?_ (IsS105.ge HI0.out)) | exact HB.out), by repeat (first | (with_reducible first | exact HK.out | apply KeepBut.set_ | apply kpN | apply kpD | apply kpA) | exact HK.out)⟩

end Go.Proofs.YtpijgeijflbmhaaDoor.P

