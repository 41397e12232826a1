/- What ppred.Parse comes to: the parts of a predicate's text, or an error; where the package's tables hold what its text lays. -/
import Derived.Test.YtpijgeijflbmhaaDoorC4
import Derived.Test.YtpijgeijflbmhaaDoorC5
import Derived.Test.YtpijgeijflbmhaaDoorC1
namespace Go.Proofs.YtpijgeijflbmhaaDoor.P
open Go.RowKit Go.Proofs.YtpijgeijflbmhaaDoorW.PrintWords Go.Proofs.YtpijgeijflbmhaaDoorW.PrintLast Go.Proofs.YtpijgeijflbmhaaDoorW.PrintMore
set_option linter.unusedVariables false

/-- So many rounds, and calls behind one another: enough for every text that the laws hand in. -/
@[irreducible] def parseFuel : Nat := 20000
theorem parseFuel_le : parseFuel ≤ 100000 := by unfold parseFuel; omega

def ppred_Parse.f (s : ByteArray) : Option (List S53 × Int) :=
  (lex_Text.f parseFuel s).bind fun t =>
    if t.2 = 0 then (if 1000 < t.1.length then none else (takeF parseFuel t.1).bind fun b =>
      if b.2.1 = 0 then (if 0 < b.2.2.length then some ([], 2) else some (b.1, 0)) else some ([], b.2.1))
    else some ([], t.2)

set_option maxHeartbeats 4000000 in
set_option maxRecDepth 100000 in
theorem ppred_Parse.calls (s : ByteArray) (r1 : List S53) (r2 : Int) (w : World) (hG : Glob w) (h : ppred_Parse.f s = some (r1, r2)) :
    Calls Tryd.prog 12 #[.string s] w fun e w' => ∃ v0 : Value, e = .returned (.tuple #[v0, .int .i64 r2]) ∧ Kd.R k53 53 w' w.heap.size (fun _ => True) v0 r1 ∧ Below w.heap.size w w' := by
  unfold ppred_Parse.f at h
  obtain ⟨t, ht, h⟩ := Option.bind_eq_some_iff.mp h
  have HT := As.mk (lex_Text.calls parseFuel s t.1 t.2 w hG ht)
  clear hG ht
  by_cases he : t.2 = 0
  · rw [if_pos he] at h
    have he1 : (t.2 != 0) = false := by simp [he]
    clear he
    by_cases hl : 1000 < t.1.length
    · rw [if_pos hl] at h
      exact absurd h (by simp)
    · rw [if_neg hl] at h
      have HL := As.mk (show t.1.length ≤ 268435456 from by omega)
      clear hl
      obtain ⟨b, hb, h⟩ := Option.bind_eq_some_iff.mp h
      have HK := As.mk hb
      clear hb
      by_cases hf : b.2.1 = 0
      · rw [if_pos hf] at h
        have hf1 : (b.2.1 != 0) = false := by simp [hf]
        clear hf
        by_cases hn : 0 < b.2.2.length
        · rw [if_pos hn] at h
          have hn1 : decide (0 < (b.2.2.length : Int)) = true := decide_eq_true (by omega)
          have hn2 : decide (0 < b.2.2.length) = true := decide_eq_true hn
          clear hn
          simp only [Option.some.injEq, Prod.mk.injEq] at h
          obtain ⟨rfl, rfl⟩ := h
          go_enter Tryd.func12, Tryd.ntmps12
          go_wp2_with (first
            | (go_at_call 23; (with_reducible refine HT.out.mono ?_); rintro e1 w1 ⟨v1, rfl, hr, hb⟩; have HR1 := As.mk hr; have HB1 := As.mk hb; clear hr hb; obtain ⟨A1, c1, e1⟩ := Kd.R_slice HR1.out; subst e1)
            | (go_at_call 17; (with_reducible refine (from_calls A1 c1 t.1 w1 (Kd.R_reads' HR1.out).2.2 (Kd.R_reads' HR1.out).2.1 HL.out).mono ?_); rintro e1 w2 ⟨gs, u, rfl, hi, hb, hu, hb2⟩; have HI2 := As.mk hi; have HB2 := As.mk hb; have HU := As.mk hu; have HW2 := As.mk (bwS HB1.out hb2); clear hi hb hu hb2)
            | (go_at_call 16; (with_reducible refine (take_calls parseFuel parseFuel_le gs t.1 b HK.out u w2 HI2.out HB2.out).mono ?_); rintro e1 w3 ⟨v3, rfl, hr, hi, hb, hk⟩; have HR3 := As.mk (Kd.R_lower hr HW2.out.size); have HI3 := As.mk hi; have HB3 := As.mk (bwS HB1.out (bwS HU.out hb)); clear hr hi hb hk)
            | (go_at_call 24; (with_reducible refine (left_calls gs b.2.2 u w3 HI3.out).mono ?_); rintro e1 w4 ⟨rfl, rfl⟩))
          go_ret2
          exact ⟨_, rfl, Kd.R_nil _ _ _ _ _, by repeat (first | exact HB3.out | apply bwN)⟩
        · rw [if_neg hn] at h
          have hn1 : decide (0 < (b.2.2.length : Int)) = false := decide_eq_false (by omega)
          have hn2 : decide (0 < b.2.2.length) = false := decide_eq_false hn
          clear hn
          simp only [Option.some.injEq, Prod.mk.injEq] at h
          obtain ⟨rfl, rfl⟩ := h
          go_enter Tryd.func12, Tryd.ntmps12
          go_wp2_with (first
            | (go_at_call 23; (with_reducible refine HT.out.mono ?_); rintro e1 w1 ⟨v1, rfl, hr, hb⟩; have HR1 := As.mk hr; have HB1 := As.mk hb; clear hr hb; obtain ⟨A1, c1, e1⟩ := Kd.R_slice HR1.out; subst e1)
            | (go_at_call 17; (with_reducible refine (from_calls A1 c1 t.1 w1 (Kd.R_reads' HR1.out).2.2 (Kd.R_reads' HR1.out).2.1 HL.out).mono ?_); rintro e1 w2 ⟨gs, u, rfl, hi, hb, hu, hb2⟩; have HI2 := As.mk hi; have HB2 := As.mk hb; have HU := As.mk hu; have HW2 := As.mk (bwS HB1.out hb2); clear hi hb hu hb2)
            | (go_at_call 16; (with_reducible refine (take_calls parseFuel parseFuel_le gs t.1 b HK.out u w2 HI2.out HB2.out).mono ?_); rintro e1 w3 ⟨v3, rfl, hr, hi, hb, hk⟩; have HR3 := As.mk (Kd.R_lower hr HW2.out.size); have HI3 := As.mk hi; have HB3 := As.mk (bwS HB1.out (bwS HU.out hb)); clear hr hi hb hk)
            | (go_at_call 24; (with_reducible refine (left_calls gs b.2.2 u w3 HI3.out).mono ?_); rintro e1 w4 ⟨rfl, rfl⟩))
          go_ret2
          exact ⟨_, rfl, HR3.out, by repeat (first | exact HB3.out | apply bwN)⟩
      · rw [if_neg hf] at h
        have hf1 : (b.2.1 != 0) = true := by simp [hf]
        clear hf
        simp only [Option.some.injEq, Prod.mk.injEq] at h
        obtain ⟨rfl, rfl⟩ := h
        go_enter Tryd.func12, Tryd.ntmps12
        go_wp2_with (first
          | (go_at_call 23; (with_reducible refine HT.out.mono ?_); rintro e1 w1 ⟨v1, rfl, hr, hb⟩; have HR1 := As.mk hr; have HB1 := As.mk hb; clear hr hb; obtain ⟨A1, c1, e1⟩ := Kd.R_slice HR1.out; subst e1)
          | (go_at_call 17; (with_reducible refine (from_calls A1 c1 t.1 w1 (Kd.R_reads' HR1.out).2.2 (Kd.R_reads' HR1.out).2.1 HL.out).mono ?_); rintro e1 w2 ⟨gs, u, rfl, hi, hb, hu, hb2⟩; have HI2 := As.mk hi; have HB2 := As.mk hb; have HU := As.mk hu; have HW2 := As.mk (bwS HB1.out hb2); clear hi hb hu hb2)
          | (go_at_call 16; (with_reducible refine (take_calls parseFuel parseFuel_le gs t.1 b HK.out u w2 HI2.out HB2.out).mono ?_); rintro e1 w3 ⟨v3, rfl, hr, hi, hb, hk⟩; have HR3 := As.mk (Kd.R_lower hr HW2.out.size); have HI3 := As.mk hi; have HB3 := As.mk (bwS HB1.out (bwS HU.out hb)); clear hr hi hb hk))
        go_ret2
        exact ⟨_, rfl, Kd.R_nil _ _ _ _ _, by repeat (first | exact HB3.out | apply bwN)⟩
  · rw [if_neg he] at h
    have he1 : (t.2 != 0) = true := by simp [he]
    clear he
    simp only [Option.some.injEq, Prod.mk.injEq] at h
    obtain ⟨rfl, rfl⟩ := h
    go_enter Tryd.func12, Tryd.ntmps12
    go_wp2_with (first
      | (go_at_call 23; (with_reducible refine HT.out.mono ?_); rintro e1 w1 ⟨v1, rfl, hr, hb⟩; have HR1 := As.mk hr; have HB1 := As.mk hb; clear hr hb; obtain ⟨A1, c1, e1⟩ := Kd.R_slice HR1.out; subst e1))
    go_ret2
    exact ⟨_, rfl, Kd.R_nil _ _ _ _ _, by repeat (first | exact HB1.out | apply bwN)⟩

theorem peek_cons (a : Nat) (c : Pc) (cs : List Pc) : peekT (toks a (c :: cs)) = c.tok (c.at_ a : Nat) := rfl
theorem next_cons (a : Nat) (c : Pc) (cs : List Pc) (h : c.kind ≠ 0) : nextT (toks a (c :: cs)) = toks (c.at_ a + c.raw.length) cs := by
  unfold nextT
  rw [peek_cons, if_neg (by exact h)]
  rfl

/-- No part stands between. -/
def Ends : List Pc → Prop
  | [] => True
  | c :: _ => ∃ sp, c = sg sp 41
theorem ends_bin (n : Nat) (rest : List Pc) (h : Ends rest) : binF (peekT (toks n rest)) = (0, 0) := by
  cases rest with
  | nil => rfl
  | cons c cs => obtain ⟨sp, rfl⟩ := h; exact (by decide +kernel : binF ⟨5, ofL [41], 0, 0⟩ = (0, 0))

def prec (op : Int) : Int := if op = 15 then 1 else if op = 14 then 2 else if op = 6 then 6 else if op = 4 then 5 else if op = 5 then 5 else 4

theorem op_bin (n : Nat) (op : Int) (rest : List Pc) (h : 4 ≤ op) (h2 : op ≤ 15) (h3 : op ≠ 13) : binF (peekT (toks n (opP op :: rest))) = (op, prec op) := by
  have h4 : ∀ op ∈ ([4, 5, 6, 7, 8, 9, 10, 11, 12, 14, 15] : List Int), binF ⟨(opP op).kind, ofL (opP op).S, 0, 0⟩ = (op, prec op) := by decide +kernel
  exact h4 op (by simp only [List.mem_cons, List.not_mem_nil, or_false]; omega)

theorem prec_range (op : Int) : 1 ≤ prec op ∧ prec op ≤ 6 := by unfold prec; repeat (first | split | omega)

theorem op_kind (op : Int) : (opP op).kind ≠ 0 := by unfold opP; simp only; split <;> decide

theorem sg_is (n : Nat) (sp : Bool) (x : UInt8) (rest : List Pc) : isB (toks n (sg sp x :: rest)) 5 (ofL [x]) = true := by
  unfold isB; simp [peek_cons, sg, Pc.tok]

/-- What the parser makes of a tree's pieces. -/
def OneOK (e : Ex) : Prop := ∀ (sp : Bool) (n : Nat) (rest : List Pc) (k : Nat) (d : Int), 8 * e.ht + 8 ≤ k → d + 6 * (e.ht : Int) ≤ 140 → e.nodes.length ≤ 60 →
  ∃ m, oneF k d (toks n (e.pcs sp ++ rest)) 0 = some (e.nodes, toks m rest, 0)

theorem level_of (e : Ex) (h : OneOK e) (sp : Bool) (n : Nat) (rest : List Pc) (k : Nat) (d least : Int) (hk : 8 * e.ht + 9 ≤ k) (hd : d + 6 * (e.ht : Int) ≤ 140) (hn : e.nodes.length ≤ 60) (hr : Ends rest) :
    ∃ m, levelF k least d (toks n (e.pcs sp ++ rest)) 0 = some (e.nodes, toks m rest, 0) := by
  obtain ⟨k, rfl⟩ : ∃ j, k = j + 2 := ⟨k - 2, by omega⟩
  obtain ⟨m, hm⟩ := h sp n rest (k + 1) d (by omega) hd hn
  refine ⟨m, ?_⟩
  rw [levelF, if_neg (by omega), hm, Option.bind_some, loopF, if_pos rfl, if_pos (by simp only; rw [ends_bin m rest hr])]

/-- A tree in brackets. -/
theorem paren_of (e : Ex) (h : OneOK e) (sp sp2 : Bool) (n : Nat) (rest : List Pc) (k : Nat) (d : Int) (hk : 8 * e.ht + 10 ≤ k) (hd : d + 1 + 6 * (e.ht : Int) ≤ 140) (hn : e.nodes.length ≤ 60) :
    ∃ m, oneF k d (toks n (sg sp 40 :: (e.pcs sp2 ++ (sg false 41 :: rest)))) 0 = some (e.nodes, toks m rest, 0) := by
  obtain ⟨k, rfl⟩ : ∃ j, k = j + 1 := ⟨k - 1, by omega⟩
  obtain ⟨m, hm⟩ := level_of e h sp2 ((sg sp 40).at_ n + 1) (sg false 41 :: rest) k (d + 1) 1 (by omega) (by omega) hn ⟨false, rfl⟩
  refine ⟨(sg false 41).at_ m + 1, ?_⟩
  rw [oneF, if_neg (by omega), next_cons _ _ _ (by simp [sg]), peek_cons]
  have k5 : ((sg sp 40).tok ((sg sp 40).at_ n : Nat)).f0 = 5 := rfl
  have s5 : ((sg sp 40).tok ((sg sp 40).at_ n : Nat)).f1 = ⟨#[40]⟩ := rfl
  rw [k5, s5, if_neg (by decide), if_neg (by decide), if_neg (by decide), if_pos (by first | trivial | rfl), if_neg (by decide +kernel), if_pos (by first | trivial | rfl)]
  have e1 : (sg sp 40).raw.length = 1 := rfl
  rw [e1, hm]
  simp only [Option.bind_some]
  rw [if_pos (by exact sg_is m false 41 rest), next_cons _ _ _ (by simp [sg])]
  rfl

theorem ht_pos (e : Ex) : 1 ≤ e.ht := by cases e <;> simp [Ex.ht]

theorem one_ok (e : Ex) : e.wf → OneOK e := by
  induction e with
  | num v =>
    rintro ⟨h1, h2⟩ sp n rest k d hk hd hn
    simp only [Ex.ht] at hk hd
    obtain ⟨k, rfl⟩ : ∃ j, k = j + 5 := ⟨k - 5, by omega⟩
    unfold Ex.pcs
    by_cases h : 0 ≤ v
    · rw [if_pos h]
      refine ⟨(numP sp v).at_ n + (numP sp v).raw.length, ?_⟩
      show oneF (k + 5) d (toks n (numP sp v :: rest)) 0 = _
      rw [oneF, if_neg (by omega), if_pos (by rfl), peek_cons, next_cons _ _ _ (by simp [numP])]
      rfl
    · rw [if_neg h]
      refine ⟨(sg false 41).at_ ((numP false (-v)).at_ ((sg false 45).at_ ((sg sp 40).at_ n + (sg sp 40).raw.length) + (sg false 45).raw.length) + (numP false (-v)).raw.length) + (sg false 41).raw.length, ?_⟩
      show oneF (k + 5) d (toks n (sg sp 40 :: (sg false 45 :: numP false (-v) :: sg false 41 :: rest))) 0 = _
      rw [oneF, if_neg (by omega), next_cons _ _ _ (by simp [sg]), peek_cons]
      have k5 : ((sg sp 40).tok ((sg sp 40).at_ n : Nat)).f0 = 5 := rfl
      have s5 : ((sg sp 40).tok ((sg sp 40).at_ n : Nat)).f1 = ⟨#[40]⟩ := rfl
      rw [k5, s5, if_neg (by decide), if_neg (by decide), if_neg (by decide), if_pos (by first | trivial | rfl), if_neg (by decide +kernel), if_pos (by first | trivial | rfl)]
      rw [levelF, if_neg (by omega), oneF, if_neg (by omega), next_cons _ _ _ (by simp [sg]), peek_cons]
      have k6 : ∀ a, ((sg false 45).tok a).f0 = 5 := fun _ => rfl
      have s6 : ∀ a, ((sg false 45).tok a).f1 = ⟨#[45]⟩ := fun _ => rfl
      rw [k6, s6, if_neg (by decide), if_neg (by decide), if_neg (by decide), if_pos (by first | trivial | rfl), if_pos (by first | trivial | rfl)]
      rw [minusF, if_pos (by rfl), peek_cons, next_cons _ _ _ (by simp [numP])]
      simp only [Option.bind_some]
      rw [loopF, if_pos (by first | trivial | rfl), if_pos (by rw [ends_bin _ (sg false 41 :: rest) ⟨false, rfl⟩])]
      simp only [Option.bind_some]
      rw [if_pos (by exact sg_is _ false 41 rest), next_cons _ _ _ (by simp [sg])]
      have hv : wrap64 (-(((numP false (-v)).tok ((numP false (-v)).at_ ((sg false 45).at_ ((sg sp 40).at_ n + (sg sp 40).raw.length) + (sg false 45).raw.length) : Nat)).f2)) = v := by
        show wrap64 (-(-v)) = v
        rw [w64 _ (by omega) (by omega)]; omega
      rw [hv]
      rfl
  | fld v f =>
    rintro ⟨h1, h2⟩ sp n rest k d hk hd hn
    simp only [Ex.ht] at hk hd
    obtain ⟨k, rfl⟩ : ∃ j, k = j + 5 := ⟨k - 5, by omega⟩
    unfold Ex.pcs
    refine ⟨(nameP false f).at_ ((sg false 46).at_ ((nameP sp v).at_ n + (nameP sp v).raw.length) + (sg false 46).raw.length) + (nameP false f).raw.length, ?_⟩
    show oneF (k + 5) d (toks n (nameP sp v :: sg false 46 :: nameP false f :: rest)) 0 = _
    rw [oneF, if_neg (by omega), next_cons _ _ _ (by simp [nameP]), peek_cons]
    have k1 : ∀ b s a, ((nameP b s).tok a).f0 = 1 := fun _ _ _ => rfl
    have s1 : ∀ b s a, ((nameP b s).tok a).f1 = ofL s := fun _ _ _ => rfl
    rw [k1, s1, if_neg (by decide), if_neg (by decide), if_neg (by decide), if_neg (by decide), if_pos (by first | trivial | rfl)]
    rw [if_pos (by exact sg_is _ false 46 _), next_cons _ _ _ (by simp [sg]), peek_cons, k1, if_pos (by first | trivial | rfl), next_cons _ _ _ (by simp [nameP])]
    rfl
  | str s =>
    intro h sp n rest k d hk hd hn
    simp only [Ex.ht] at hk hd
    obtain ⟨k, rfl⟩ : ∃ j, k = j + 5 := ⟨k - 5, by omega⟩
    refine ⟨(strP sp s).at_ n + (strP sp s).raw.length, ?_⟩
    show oneF (k + 5) d (toks n (strP sp s :: rest)) 0 = _
    rw [oneF, if_neg (by omega), next_cons _ _ _ (by simp [strP]), peek_cons]
    have k1 : ∀ a, ((strP sp s).tok a).f0 = 4 := fun _ => rfl
    rw [k1, if_neg (by decide), if_pos (by first | trivial | rfl)]
    rfl
  | tru b =>
    intro h sp n rest k d hk hd hn
    simp only [Ex.ht] at hk hd
    obtain ⟨k, rfl⟩ : ∃ j, k = j + 5 := ⟨k - 5, by omega⟩
    refine ⟨(wordP sp (if b then [116, 114, 117, 101] else [102, 97, 108, 115, 101])).at_ n + (wordP sp (if b then [116, 114, 117, 101] else [102, 97, 108, 115, 101])).raw.length, ?_⟩
    show oneF (k + 5) d (toks n (wordP sp (if b then [116, 114, 117, 101] else [102, 97, 108, 115, 101]) :: rest)) 0 = _
    rw [oneF, if_neg (by omega), next_cons _ _ _ (by simp [wordP]), peek_cons]
    have k1 : ∀ s a, ((wordP sp s).tok a).f0 = 2 := fun _ _ => rfl
    have s1 : ∀ s a, ((wordP sp s).tok a).f1 = ofL s := fun _ _ => rfl
    rw [k1, s1, if_neg (by decide), if_neg (by decide), if_pos (by first | trivial | rfl)]
    cases b
    · rw [if_neg (by decide +kernel), if_pos (by decide +kernel)]; rfl
    · rw [if_pos (by decide +kernel)]; rfl
  | neg a ih =>
    intro h sp n rest k d hk hd hn
    have iha := ih h
    have hp := ht_pos a
    simp only [Ex.ht] at hk hd
    simp only [Ex.nodes, List.length_append, List.length_cons, List.length_nil] at hn
    obtain ⟨k, rfl⟩ : ∃ j, k = j + 5 := ⟨k - 5, by omega⟩
    have main : ∀ (tl : List Pc), (∀ x, ∃ m, oneF (k + 1) (d + 1 + 1) (toks x (tl ++ (sg false 41 :: rest))) 0 = some (a.nodes, toks m (sg false 41 :: rest), 0)) → (∀ x, (peekT (toks x (tl ++ (sg false 41 :: rest)))).f0 ≠ 3) →
        ∃ m, oneF (k + 5) d (toks n ([sg sp 40, sg false 45] ++ tl ++ [sg false 41] ++ rest)) 0 = some ((Ex.neg a).nodes, toks m rest, 0) := by
      intro tl ht h3
      have e0 : [sg sp 40, sg false 45] ++ tl ++ [sg false 41] ++ rest = sg sp 40 :: (sg false 45 :: (tl ++ (sg false 41 :: rest))) := by simp
      rw [e0, oneF, if_neg (by omega), next_cons _ _ _ (by simp [sg]), peek_cons]
      have k5 : ∀ b x a, ((sg b x).tok a).f0 = 5 := fun _ _ _ => rfl
      have s5 : ∀ b x a, ((sg b x).tok a).f1 = ⟨#[x]⟩ := fun _ _ _ => rfl
      rw [k5, s5, if_neg (by decide), if_neg (by decide), if_neg (by decide), if_pos (by first | trivial | rfl), if_neg (by decide +kernel), if_pos (by first | trivial | rfl)]
      rw [levelF, if_neg (by omega), oneF, if_neg (by omega), next_cons _ _ _ (by simp [sg]), peek_cons]
      rw [k5, s5, if_neg (by decide), if_neg (by decide), if_neg (by decide), if_pos (by first | trivial | rfl), if_pos (by first | trivial | rfl)]
      rw [minusF, if_neg (h3 _)]
      obtain ⟨m, hm⟩ := ht ((sg false 45).at_ ((sg sp 40).at_ n + (sg sp 40).raw.length) + (sg false 45).raw.length)
      rw [hm]
      simp only [Option.bind_some]
      rw [loopF, if_pos (by first | trivial | rfl), if_pos (by rw [ends_bin _ (sg false 41 :: rest) ⟨false, rfl⟩])]
      simp only [Option.bind_some]
      refine ⟨(sg false 41).at_ m + (sg false 41).raw.length, ?_⟩
      rw [if_pos (by exact sg_is _ false 41 rest), next_cons _ _ _ (by simp [sg])]
      rfl
    unfold Ex.pcs
    split
    · rename_i hdg
      have e1 : ∀ tl, [sg true 40] ++ a.pcs false ++ [sg false 41] ++ tl = sg true 40 :: (a.pcs false ++ (sg false 41 :: tl)) := by intro tl; simp
      refine main _ (fun x => ?_) (fun x => ?_)
      · rw [e1]
        exact paren_of a iha true false x _ (k + 1) _ (by omega) (by omega) (by omega)
      · rw [e1]; show (5 : Int) ≠ 3; decide
    · rename_i hdg
      refine main _ (fun x => iha true x _ (k + 1) _ (by omega) (by omega) (by omega)) (fun x => ?_)
      cases a with
      | num v =>
        have hv : ¬ 0 ≤ v := by simpa [Ex.digit] using hdg
        unfold Ex.pcs; rw [if_neg hv]; show (5 : Int) ≠ 3; decide
      | fld v f => show (1 : Int) ≠ 3; decide
      | str s => show (4 : Int) ≠ 3; decide
      | tru b => show (2 : Int) ≠ 3; decide
      | neg a => show (5 : Int) ≠ 3; decide
      | not a => show (5 : Int) ≠ 3; decide
      | bin op a b => show (5 : Int) ≠ 3; decide
  | not a ih =>
    intro h sp n rest k d hk hd hn
    have iha := ih h
    simp only [Ex.ht] at hk hd
    simp only [Ex.nodes, List.length_append, List.length_cons, List.length_nil] at hn
    obtain ⟨k, rfl⟩ : ∃ j, k = j + 5 := ⟨k - 5, by omega⟩
    have e0 : (Ex.not a).pcs sp ++ rest = sg sp 40 :: (wordP false [110, 111, 116] :: (a.pcs true ++ (sg false 41 :: rest))) := by simp [Ex.pcs]
    rw [e0, oneF, if_neg (by omega), next_cons _ _ _ (by simp [sg]), peek_cons]
    have k5 : ∀ b x a, ((sg b x).tok a).f0 = 5 := fun _ _ _ => rfl
    have s5 : ∀ b x a, ((sg b x).tok a).f1 = ⟨#[x]⟩ := fun _ _ _ => rfl
    rw [k5, s5, if_neg (by decide), if_neg (by decide), if_neg (by decide), if_pos (by first | trivial | rfl), if_neg (by decide +kernel), if_pos (by first | trivial | rfl)]
    rw [levelF, if_neg (by omega), oneF, if_neg (by omega), next_cons _ _ _ (by simp [wordP]), peek_cons]
    have k1 : ∀ s a, ((wordP false s).tok a).f0 = 2 := fun _ _ => rfl
    have s1 : ∀ s a, ((wordP false s).tok a).f1 = ofL s := fun _ _ => rfl
    rw [k1, s1, if_neg (by decide), if_neg (by decide), if_pos (by first | trivial | rfl), if_neg (by decide +kernel), if_neg (by decide +kernel), if_pos (by decide +kernel)]
    obtain ⟨m, hm⟩ := level_of a iha true ((wordP false [110, 111, 116]).at_ ((sg sp 40).at_ n + (sg sp 40).raw.length) + (wordP false [110, 111, 116]).raw.length) (sg false 41 :: rest) (k + 2) (d + 1 + 1) 3 (by omega) (by omega) (by omega) ⟨false, rfl⟩
    rw [hm]
    simp only [Option.bind_some]
    rw [loopF, if_pos (by first | trivial | rfl), if_pos (by rw [ends_bin _ (sg false 41 :: rest) ⟨false, rfl⟩])]
    simp only [Option.bind_some]
    refine ⟨(sg false 41).at_ m + (sg false 41).raw.length, ?_⟩
    rw [if_pos (by exact sg_is _ false 41 rest), next_cons _ _ _ (by simp [sg])]
    rfl
  | bin op a b iha ihb =>
    rintro ⟨h1, h2, h3, ha, hb⟩ sp n rest k d hk hd hn
    have ia := iha ha
    have ib := ihb hb
    have hma : a.ht ≤ max a.ht b.ht := Nat.le_max_left ..
    have hmb : b.ht ≤ max a.ht b.ht := Nat.le_max_right ..
    simp only [Ex.ht] at hk hd
    simp only [Ex.nodes, List.length_append, List.length_cons, List.length_nil] at hn
    obtain ⟨k, rfl⟩ : ∃ j, k = j + 5 := ⟨k - 5, by omega⟩
    have hd2 : d + 6 * (a.ht : Int) + 6 ≤ 140 := by omega
    have hd3 : d + 6 * (b.ht : Int) + 6 ≤ 140 := by omega
    have e0 : (Ex.bin op a b).pcs sp ++ rest = sg sp 40 :: (a.pcs false ++ (opP op :: (b.pcs true ++ (sg false 41 :: rest)))) := by simp [Ex.pcs]
    rw [e0, oneF, if_neg (by omega), next_cons _ _ _ (by simp [sg]), peek_cons]
    have k5 : ∀ b x a, ((sg b x).tok a).f0 = 5 := fun _ _ _ => rfl
    have s5 : ∀ b x a, ((sg b x).tok a).f1 = ⟨#[x]⟩ := fun _ _ _ => rfl
    rw [k5, s5, if_neg (by decide), if_neg (by decide), if_neg (by decide), if_pos (by first | trivial | rfl), if_neg (by decide +kernel), if_pos (by first | trivial | rfl)]
    obtain ⟨m, hm⟩ := ia false ((sg sp 40).at_ n + (sg sp 40).raw.length) (opP op :: (b.pcs true ++ (sg false 41 :: rest))) (k + 3) (d + 1) (by omega) (by omega) (by omega)
    obtain ⟨m2, hm2⟩ := level_of b ib true ((opP op).at_ m + (opP op).raw.length) (sg false 41 :: rest) (k + 2) (d + 1 + 1) (prec op + 1) (by omega) (by omega) (by omega) ⟨false, rfl⟩
    have hpr := prec_range op
    rw [levelF, if_neg (by omega), hm]
    simp only [Option.bind_some]
    rw [loopF, if_pos (by first | trivial | rfl), op_bin m op _ h1 h2 h3]
    simp only
    rw [if_neg (by omega), if_neg (by omega), next_cons _ _ _ (op_kind op), hm2]
    simp only [Option.bind_some]
    rw [ends_bin _ (sg false 41 :: rest) ⟨false, rfl⟩, if_neg (by simp only [List.length_append, List.length_cons, List.length_nil]; omega), if_neg (by simp)]
    rw [loopF, if_pos (by first | trivial | rfl), if_pos (by rw [ends_bin _ (sg false 41 :: rest) ⟨false, rfl⟩])]
    simp only [Option.bind_some]
    refine ⟨(sg false 41).at_ m2 + (sg false 41).raw.length, ?_⟩
    rw [if_pos (by exact sg_is _ false 41 rest), next_cons _ _ _ (by simp [sg])]
    rfl

theorem pcs_len (e : Ex) : ∀ sp, (e.pcs sp).length ≤ 6 * e.nodes.length := by
  induction e with
  | num v => intro sp; unfold Ex.pcs; split <;> simp [Ex.nodes]
  | fld v f => intro sp; simp [Ex.pcs, Ex.nodes]
  | str s => intro sp; simp [Ex.pcs, Ex.nodes]
  | tru b => intro sp; simp [Ex.pcs, Ex.nodes]
  | neg a ih =>
    intro sp
    have h1 := ih true; have h2 := ih false
    unfold Ex.pcs; split <;> simp only [Ex.nodes, List.length_append, List.length_cons, List.length_nil] <;> omega
  | not a ih =>
    intro sp
    have h1 := ih true
    simp only [Ex.pcs, Ex.nodes, List.length_append, List.length_cons, List.length_nil]; omega
  | bin op a b iha ihb =>
    intro sp
    have h1 := iha false; have h2 := ihb true
    simp only [Ex.pcs, Ex.nodes, List.length_append, List.length_cons, List.length_nil]; omega

theorem sgnB_len (op : Int) : (sgnB op).length ≤ 3 := by unfold sgnB; (repeat' split) <;> simp
theorem dig_len (v : Int) : (dig v).length ≤ 2 := by unfold dig; split <;> simp
theorem sp_len (sp : Bool) : (if sp then [(32 : UInt8)] else []).length ≤ 1 := by split <;> simp

theorem flat_cons (c : Pc) (cs : List Pc) : (flat (c :: cs)).length ≤ 1 + c.raw.length + (flat cs).length := by
  have := sp_len c.sp
  simp only [flat, List.length_append]; omega

theorem text_len (e : Ex) : e.wf → ∀ sp, (flat (e.pcs sp)).length ≤ 24 * e.nodes.length := by
  have s1 : ∀ b x, (sg b x).raw.length = 1 := fun _ _ => rfl
  induction e with
  | num v =>
    intro h sp; unfold Ex.pcs
    have := dig_len v; have := dig_len (-v)
    split
    · have := flat_cons (numP sp v) []
      simp only [Ex.nodes, List.length_cons, List.length_nil, flat, numP] at *; omega
    · have h1 := flat_cons (sg sp 40) [sg false 45, numP false (-v), sg false 41]
      have h2 := flat_cons (sg false 45) [numP false (-v), sg false 41]
      have h3 := flat_cons (numP false (-v)) [sg false 41]
      have h4 := flat_cons (sg false 41) []
      have h5 : (numP false (-v)).raw.length = (dig (-v)).length := rfl
      simp only [s1] at *
      simp only [Ex.nodes, List.length_cons, List.length_nil, flat] at *; omega
  | fld v f =>
    rintro ⟨h1, h2⟩ sp
    rcases h1 with rfl | rfl | rfl <;> rcases h2 with rfl | rfl <;> cases sp <;> decide
  | str s =>
    rintro h sp
    rcases h with rfl | rfl | rfl <;> cases sp <;> decide
  | tru b => intro h sp; cases b <;> cases sp <;> decide
  | neg a ih =>
    intro h sp
    have i1 := ih h true; have i2 := ih h false
    have hsp := sp_len sp
    unfold Ex.pcs; split <;> simp only [flat_append, flat, sg, Ex.nodes, List.length_append, List.length_cons, List.length_nil, Bool.false_eq_true, ↓reduceIte] at * <;> omega
  | not a ih =>
    intro h sp
    have i1 := ih h true
    have hsp := sp_len sp
    simp only [Ex.pcs, flat_append, flat, sg, wordP, Ex.nodes, List.length_append, List.length_cons, List.length_nil, Bool.false_eq_true, ↓reduceIte] at *; omega
  | bin op a b iha ihb =>
    rintro ⟨_, _, _, ha, hb⟩ sp
    have i1 := iha ha false; have i2 := ihb hb true
    have hsp := sp_len sp; have hs := sgnB_len op
    simp only [Ex.pcs, flat_append, flat, sg, opP, Ex.nodes, List.length_append, List.length_cons, List.length_nil, Bool.false_eq_true, ↓reduceIte] at *; omega

/-- The text of a tree is read as it. -/
theorem parse_eq (e : Ex) (h : e.wf) (hn : e.nodes.length ≤ 60) (hh : e.ht ≤ 20) : ppred_Parse.f (ofL (flat (e.pcs false))) = some (e.nodes, 0) := by
  have hg := pcs_good e h false [] trivial (.inl rfl)
  rw [List.append_nil] at hg
  have hl := pcs_len e false
  have ht := text_len e h false
  have hF : parseFuel = 20000 := by unfold parseFuel; rfl
  unfold ppred_Parse.f
  rw [text_eq _ _ hg (by omega) (by omega) (by omega)]
  simp only [Option.bind_some]
  obtain ⟨m, hm⟩ := level_of e (one_ok e h) false 0 [] parseFuel 0 1 (by omega) (by omega) hn trivial
  rw [List.append_nil] at hm
  rw [if_pos (by first | trivial | rfl), if_neg (by rw [toks_length]; omega)]
  unfold takeF
  rw [hm]
  simp only [Option.bind_some]
  rw [if_pos (by first | trivial | rfl), if_neg (by omega)]
  simp [toks]

end Go.Proofs.YtpijgeijflbmhaaDoor.P

/- Go functions of the given program come to what plain Lean functions say: walks, printed by a program of this session's (after the kit's print); no conditions beyond each theorem's own. -/
namespace Go.Proofs.YtpijgeijflbmhaaDoor.P
open Go.RowKit Go.Proofs.YtpijgeijflbmhaaDoorW.PrintWords Go.Proofs.YtpijgeijflbmhaaDoorW.PrintLast Go.Proofs.YtpijgeijflbmhaaDoorW.PrintMore
attribute [local go_sem] max2_int min2_int max_two min_two max_three min_three max_four min_four   -- for this text's walks alone
set_option linter.unusedVariables false
set_option linter.unusedSimpArgs false

/-! ### lamplighterref11_Parts: function 25 -/
mutual
def lamplighterref11_Parts.j0 : Nat → Int → Int → Bool → Option (Int)
 | 0, _, _, _ => none
 | k + 1, x0, x3, x4 => if x4 = true then (some 0) else (if x3 = 3 then (lamplighterref11_Parts.j1 k x0 (x3 == 3)) else (lamplighterref11_Parts.j1 k x0 (x3 == 13)))
def lamplighterref11_Parts.j1 : Nat → Int → Bool → Option (Int)
 | 0, _, _ => none
 | k + 1, x0, x7 => if x7 = true then (some 1) else (if x0 ≥ 4 then (if x0 ≤ 15 then (some 2) else (some (-1))) else (some (-1)))
end
def lamplighterref11_Parts.f (k : Nat) (a0 : Int) : Option (Int) := if a0 = 1 then (lamplighterref11_Parts.j0 k a0 a0 (a0 == 1)) else (lamplighterref11_Parts.j0 k a0 a0 (a0 == 2))
theorem lamplighterref11_Parts.mono_l : ∀ k, (∀ y0 y1 y2, LeO (lamplighterref11_Parts.j0 k y0 y1 y2) (lamplighterref11_Parts.j0 (k + 1) y0 y1 y2)) ∧ (∀ y0 y1, LeO (lamplighterref11_Parts.j1 k y0 y1) (lamplighterref11_Parts.j1 (k + 1) y0 y1))
 | 0 => ⟨fun _ _ _ r h => by simp [lamplighterref11_Parts.j0] at h, fun _ _ r h => by simp [lamplighterref11_Parts.j1] at h⟩
 | k + 1 => by
  obtain ⟨ih0, ih1⟩ := lamplighterref11_Parts.mono_l k
  refine ⟨?_, ?_⟩
  ·
   intro y0 y1 y2
   unfold lamplighterref11_Parts.j0
   repeat' first
   | (with_reducible exact ih0 _ _ _)
   | (with_reducible exact ih1 _ _)
   | (with_reducible exact LeO.refl _)
   | (with_reducible exact LeO.none _)
   | (with_reducible refine LeO.ite ?_ ?_)
   | (with_reducible refine LeO.bind ?_ (fun _ => ?_))
   | exact ih0 _ _ _
   | exact ih1 _ _
   | exact LeO.none _
   | refine LeO.ite ?_ ?_
   | refine LeO.bind ?_ (fun _ => ?_)
  ·
   intro y0 y1
   unfold lamplighterref11_Parts.j1
   repeat' first
   | (with_reducible exact ih0 _ _ _)
   | (with_reducible exact ih1 _ _)
   | (with_reducible exact LeO.refl _)
   | (with_reducible exact LeO.none _)
   | (with_reducible refine LeO.ite ?_ ?_)
   | (with_reducible refine LeO.bind ?_ (fun _ => ?_))
   | exact ih0 _ _ _
   | exact ih1 _ _
   | exact LeO.none _
   | refine LeO.ite ?_ ?_
   | refine LeO.bind ?_ (fun _ => ?_)
theorem lamplighterref11_Parts.mono : ∀ a0 k, LeO (lamplighterref11_Parts.f k a0) (lamplighterref11_Parts.f (k + 1) a0) := by
 intro a0 k
 obtain ⟨ih0, ih1⟩ := lamplighterref11_Parts.mono_l k
 unfold lamplighterref11_Parts.f
 repeat' first
   | (with_reducible exact ih0 _ _ _)
   | (with_reducible exact ih1 _ _)
   | (with_reducible exact LeO.refl _)
   | (with_reducible exact LeO.none _)
   | (with_reducible refine LeO.ite ?_ ?_)
   | (with_reducible refine LeO.bind ?_ (fun _ => ?_))
   | exact ih0 _ _ _
   | exact ih1 _ _
   | exact LeO.none _
   | refine LeO.ite ?_ ?_
   | refine LeO.bind ?_ (fun _ => ?_)
set_option maxHeartbeats 8000000 in
set_option maxRecDepth 100000 in
theorem lamplighterref11_Parts.calls (k : Nat) (a0 : Int) (r : Int) (w : World) (h : lamplighterref11_Parts.f k a0 = some r) :
  Calls Tryd.prog 25 #[.int .i64 a0] w fun e w' => e = .returned (.int .i64 r) ∧ Drawn0 w w' := by
 have H : (if a0 = 1 then (lamplighterref11_Parts.j0 k a0 a0 (a0 == 1)) else (lamplighterref11_Parts.j0 k a0 a0 (a0 == 2))) = some r := h
 clear h
 have HC2 := As.mk H
 clear H
 go_enter Tryd.func25, Tryd.ntmps25
 go_upto_if 4 with (fail)
 go_cut [4] (fun v4 wc => ∃ (kq : Nat) (x4_1 : Bool), v4 = .bool x4_1 ∧ As (lamplighterref11_Parts.j0 kq a0 a0 x4_1 = some r) ∧ As (kq ≤ k) ∧ Drawn0 w wc)
 case first =>
  have H := HC2.out
  clear HC2
  by_cases c3 : a0 = 1
  ·
   rw [if_pos c3] at H
   have c3b0 : (a0 == 1) = true := beq_iff_eq.mpr c3
   have c3b1 : (a0 != 1) = false := bne_eq_false_iff_eq.mpr c3
   clear c3
   (first | rw [c3b0] | (simp only [i64_w, i32_w]; rw [c3b0]) | skip)
   have H' := As.mk H
   clear H
   go_wp2
   go_meet
   case rel => exact ⟨_, ((a0 == 1)), (by first | rfl | (simp; done) | (simp [*]; done)), H', ⟨by first | omega | exact Nat.le_refl _⟩, by repeat (first | exact Drawn0.refl _ | apply Drawn0.step)⟩
  ·
   rw [if_neg c3] at H
   have c3b0 : (a0 == 1) = false := beq_eq_false_iff_ne.mpr c3
   have c3b1 : (a0 != 1) = true := bne_iff_ne.mpr c3
   (first | rw [c3b0] | (simp only [i64_w, i32_w]; rw [c3b0]) | skip)
   have H' := As.mk H
   clear H
   go_wp2
   go_meet
   case rel => exact ⟨_, ((a0 == 2)), (by first | rfl | (simp; done) | (simp [*]; done)), H', ⟨by first | omega | exact Nat.le_refl _⟩, by repeat (first | exact Drawn0.refl _ | apply Drawn0.step)⟩
 case rest =>
  clear HC2
  try clear c2
  try clear p2
  try clear c3
  try clear c3b0
  try clear c3b1
  obtain ⟨kq, x4_1, rfl, HA, HJ1, ⟨mc1, rfl⟩⟩ := hcut
  cases kq with
  | zero => exact absurd HA.out (by simp [lamplighterref11_Parts.j0])
  | succ kj1 =>
   have H := HA.out
   clear HA
   simp only [lamplighterref11_Parts.j0] at H
   by_cases c4 : x4_1 = true
   ·
    subst c4
    have H1 : (some 0) = some r := by rw [if_pos rfl] at H; exact H
    clear H
    have H := H1
    clear H1
    obtain rfl := Option.some.inj H
    go_wp2
    go_ret
    exact ⟨by first | rfl | (simp; done) | (simp [*]; done), by repeat (first | exact Drawn0.refl _ | apply Drawn0.step)⟩
   ·
    replace c4 := Bool.eq_false_iff.mpr c4
    subst c4
    have H1 : (if a0 = 3 then (lamplighterref11_Parts.j1 kj1 a0 (a0 == 3)) else (lamplighterref11_Parts.j1 kj1 a0 (a0 == 13))) = some r := by rw [if_neg (show ¬ (false = true) by decide)] at H; exact H
    clear H
    have H := H1
    clear H1
    have HC5 := As.mk H
    clear H
    go_upto_if 7 with (fail)
    go_cut [7] (fun v7 wc => ∃ (kq : Nat) (x7_4 : Bool), v7 = .bool x7_4 ∧ As (lamplighterref11_Parts.j1 kq a0 x7_4 = some r) ∧ As (kq ≤ kj1) ∧ Drawn0 w wc)
    case first =>
     have H := HC5.out
     clear HC5
     by_cases c6 : a0 = 3
     ·
      rw [if_pos c6] at H
      have c6b0 : (a0 == 3) = true := beq_iff_eq.mpr c6
      have c6b1 : (a0 != 3) = false := bne_eq_false_iff_eq.mpr c6
      clear c6
      (first | rw [c6b0] | (simp only [i64_w, i32_w]; rw [c6b0]) | skip)
      have H' := As.mk H
      clear H
      go_wp2
      go_meet
      case rel => exact ⟨_, ((a0 == 3)), (by first | rfl | (simp; done) | (simp [*]; done)), H', ⟨by have := HJ1.out; first | omega | exact Nat.le_refl _⟩, by repeat (first | exact Drawn0.refl _ | apply Drawn0.step)⟩
     ·
      rw [if_neg c6] at H
      have c6b0 : (a0 == 3) = false := beq_eq_false_iff_ne.mpr c6
      have c6b1 : (a0 != 3) = true := bne_iff_ne.mpr c6
      (first | rw [c6b0] | (simp only [i64_w, i32_w]; rw [c6b0]) | skip)
      have H' := As.mk H
      clear H
      go_wp2
      go_meet
      case rel => exact ⟨_, ((a0 == 13)), (by first | rfl | (simp; done) | (simp [*]; done)), H', ⟨by have := HJ1.out; first | omega | exact Nat.le_refl _⟩, by repeat (first | exact Drawn0.refl _ | apply Drawn0.step)⟩
    case rest =>
     clear HC5
     try clear c1
     try clear c2
     try clear p2
     try clear c3
     try clear c3b0
     try clear c3b1
     try clear c4
     try clear c6
     try clear c6b0
     try clear c6b1
     try clear p2
     obtain ⟨kq, x7_4, rfl, HA, HJ4, ⟨mc4, rfl⟩⟩ := hcut
     cases kq with
     | zero => exact absurd HA.out (by simp [lamplighterref11_Parts.j1])
     | succ kj4 =>
      have H := HA.out
      clear HA
      simp only [lamplighterref11_Parts.j1] at H
      by_cases c7 : x7_4 = true
      ·
       subst c7
       have H1 : (some 1) = some r := by rw [if_pos rfl] at H; exact H
       clear H
       have H := H1
       clear H1
       obtain rfl := Option.some.inj H
       go_wp2
       go_ret
       exact ⟨by first | rfl | (simp; done) | (simp [*]; done), by repeat (first | exact Drawn0.refl _ | apply Drawn0.step)⟩
      ·
       replace c7 := Bool.eq_false_iff.mpr c7
       subst c7
       have H1 : (if a0 ≥ 4 then (if a0 ≤ 15 then (some 2) else (some (-1))) else (some (-1))) = some r := by rw [if_neg (show ¬ (false = true) by decide)] at H; exact H
       clear H
       have H := H1
       clear H1
       by_cases c8 : a0 ≥ 4
       ·
        rw [if_pos c8] at H
        have c8b0 : decide (4 ≤ a0) = true := decide_eq_true c8
        clear c8
        by_cases c9 : a0 ≤ 15
        ·
         rw [if_pos c9] at H
         have c9b0 : decide (a0 ≤ 15) = true := decide_eq_true c9
         clear c9
         obtain rfl := Option.some.inj H
         go_wp2
         go_ret
         exact ⟨by first | rfl | (simp; done) | (simp [*]; done), by repeat (first | exact Drawn0.refl _ | apply Drawn0.step)⟩
        ·
         rw [if_neg c9] at H
         have c9b0 : decide (a0 ≤ 15) = false := decide_eq_false c9
         clear c9
         obtain rfl := Option.some.inj H
         go_wp2
         go_ret
         exact ⟨by first | rfl | (simp; done) | (simp [*]; done), by repeat (first | exact Drawn0.refl _ | apply Drawn0.step)⟩
       ·
        rw [if_neg c8] at H
        have c8b0 : decide (4 ≤ a0) = false := decide_eq_false c8
        clear c8
        obtain rfl := Option.some.inj H
        go_wp2
        go_ret
        exact ⟨by first | rfl | (simp; done) | (simp [*]; done), by repeat (first | exact Drawn0.refl _ | apply Drawn0.step)⟩

/-! ### lamplighterref01_Digits: function 36 -/
def lamplighterref01_Digits.f : Nat → Int → Option (ByteArray)
 | 0, _ => none
 | k + 1, a0 => if a0 = (-9223372036854775808) then (some (⟨#[45, 57, 50, 50, 51, 51, 55, 50, 48, 51, 54, 56, 53, 52, 55, 55, 53, 56, 48, 56]⟩ : ByteArray)) else (if a0 < 0 then ((lamplighterref01_Digits.f k (wrap64 (-a0))).bind fun t304 => (if 1 + t304.size ≤ 9223372036854775807 then (some ((⟨#[45]⟩ : ByteArray) ++ t304)) else (none))) else (if a0 < 10 then (some (strOfNums (([(wrap64 (48 + a0)) % 256] : List Int)))) else ((lamplighterref01_Digits.f k (wrap64 (Int.tdiv a0 10))).bind fun t308 => ((some (([(wrap64 (48 + (Int.tmod a0 10))) % 256] : List Int) : List Int)).bind fun y309 => (if t308.size + (strOfNums y309).size ≤ 9223372036854775807 then (some (t308 ++ (strOfNums y309))) else (none))))))
theorem lamplighterref01_Digits.mono_l : ∀ k, (∀ y0, LeO (lamplighterref01_Digits.f k y0) (lamplighterref01_Digits.f (k + 1) y0))
 | 0 => fun _ r h => by simp [lamplighterref01_Digits.f] at h
 | k + 1 => by
  have ih0 := lamplighterref01_Digits.mono_l k
  ·
   intro y0
   unfold lamplighterref01_Digits.f
   repeat' first
   | (with_reducible exact ih0 _)
   | (with_reducible exact LeO.refl _)
   | (with_reducible exact LeO.none _)
   | (with_reducible refine LeO.ite ?_ ?_)
   | (with_reducible refine LeO.bind ?_ (fun _ => ?_))
   | exact ih0 _
   | exact LeO.none _
   | refine LeO.ite ?_ ?_
   | refine LeO.bind ?_ (fun _ => ?_)
theorem lamplighterref01_Digits.mono : ∀ a0 k, LeO (lamplighterref01_Digits.f k a0) (lamplighterref01_Digits.f (k + 1) a0) := by
 intro a0 k
 have ih0 := lamplighterref01_Digits.mono_l k
 exact ih0 a0
def lamplighterref01_Digits.T7 : Bool × List (List Nat × List Nat) := (true, [([], []), ([0], [0]), ([1], [1]), ([], []), ([3], [3]), ([4], [4]), ([5], [5]), ([6], [6]), ([7], [7]), ([2, 8], [2, 8]), ([9, 2, 0, 1, 2, 3, 4, 5, 6, 7, 8, 9], [9])])
def lamplighterref01_Digits.B7 : List Nat := [0, 1, 3, 0, 8, 24, 56, 120, 248, 511, 1023]
theorem lamplighterref01_Digits.tab7 : rtab .any (opsOf Tryd.f36 7) = lamplighterref01_Digits.T7 := by kernel_rfl
theorem lamplighterref01_Digits.bits7 : waitsOk lamplighterref01_Digits.T7.2 lamplighterref01_Digits.B7 = true := by kernel_rfl
set_option maxHeartbeats 8000000 in
set_option maxRecDepth 100000 in
theorem lamplighterref01_Digits.calls (k : Nat) : ∀ (a0 : Int) (r : ByteArray) (w : World) (h : lamplighterref01_Digits.f k a0 = some r),
  Calls Tryd.prog 36 #[.int .i64 a0] w fun e w' => e = .returned (.string r) ∧ Below w.heap.size w w' := by
 induction k using Nat.strongRecOn with
 | _ k ih =>
 intro a0 r w h
 cases k with
 | zero => exact absurd h (by simp [lamplighterref01_Digits.f])
 | succ k =>
 simp only [lamplighterref01_Digits.f] at h
 have HB := As.mk (Below.refl w.heap.size w)
 have H : (if a0 = (-9223372036854775808) then (some (⟨#[45, 57, 50, 50, 51, 51, 55, 50, 48, 51, 54, 56, 53, 52, 55, 55, 53, 56, 48, 56]⟩ : ByteArray)) else (if a0 < 0 then ((lamplighterref01_Digits.f k (wrap64 (-a0))).bind fun t304 => (if 1 + t304.size ≤ 9223372036854775807 then (some ((⟨#[45]⟩ : ByteArray) ++ t304)) else (none))) else (if a0 < 10 then (some (strOfNums (([(wrap64 (48 + a0)) % 256] : List Int)))) else ((lamplighterref01_Digits.f k (wrap64 (Int.tdiv a0 10))).bind fun t308 => ((some (([(wrap64 (48 + (Int.tmod a0 10))) % 256] : List Int) : List Int)).bind fun y309 => (if t308.size + (strOfNums y309).size ≤ 9223372036854775807 then (some (t308 ++ (strOfNums y309))) else (none))))))) = some r := h
 clear h
 by_cases c2 : a0 = (-9223372036854775808)
 ·
  rw [if_pos c2] at H
  have c2b0 : (a0 == (-9223372036854775808)) = true := beq_iff_eq.mpr c2
  have c2b1 : (a0 != (-9223372036854775808)) = false := bne_eq_false_iff_eq.mpr c2
  clear c2
  obtain rfl := Option.some.inj H
  go_enter Tryd.func36, Tryd.ntmps36
  go_wp2
  go_ret
  exact ⟨by first | rfl | (simp [errW_none, errW_some] <;> rfl) | (simp [*, errW_none, errW_some] <;> rfl), by repeat (first | (with_reducible first | exact HB.out | apply bwA | apply bwN | apply bwD) | exact HB.out)⟩
 ·
  rw [if_neg c2] at H
  have c2b0 : (a0 == (-9223372036854775808)) = false := beq_eq_false_iff_ne.mpr c2
  have c2b1 : (a0 != (-9223372036854775808)) = true := bne_iff_ne.mpr c2
  by_cases c3 : a0 < 0
  ·
   rw [if_pos c3] at H
   have c3b0 : decide (a0 < 0) = true := decide_eq_true c3
   clear c3
   replace H := Option.bind_eq_some_iff.mp H
   obtain ⟨t304, A40, H⟩ := H
   replace H : (if 1 + t304.size ≤ 9223372036854775807 then (some ((⟨#[45]⟩ : ByteArray) ++ t304)) else (none)) = some r := H
   have A4 := As.mk A40
   clear A40
   replace H := ite_some H
   obtain ⟨c5, H⟩ := H
   have c5b0 := eq_true c5
   have c5b1 : decide (1 + t304.size ≤ 9223372036854775807) = true := decide_eq_true c5
   try have c5b2 : (9223372036854775807 < 1 + t304.size) = False := eq_false (Nat.not_lt.2 c5)
   obtain rfl := Option.some.inj H
   go_enter Tryd.func36, Tryd.ntmps36
   go_wp2_with (first | ((with_reducible refine gaC (f := 36) rfl ?_); refine goesL_ (some 9) rfl rfl Tryd.func36 (by kernel_rfl) rfl #[.int .i64 (wrap64 (-a0))] rfl (by simp only [List.map_toArray, List.map_cons, List.map_nil]; try rfl) ?_; (with_reducible refine (ih k (by omega) (wrap64 (-a0)) t304 _ A4.out).mono ?_); rintro e w6 ⟨rfl, hb⟩; refine ⟨_, rfl, ?_⟩; have n0_ := As.mk (bwS (by repeat (first | (with_reducible first | exact HB.out | apply bwA | apply bwN | apply bwD) | exact HB.out)) hb); clear HB; have HB := n0_; clear n0_; (try clear hb); (try clear hb2); (try clear hk); (try clear hi)))
   go_ret
   exact ⟨by first | rfl | (simp [errW_none, errW_some] <;> rfl) | (simp [*, errW_none, errW_some] <;> rfl), by repeat (first | (with_reducible first | exact HB.out | apply bwA | apply bwN | apply bwD) | exact HB.out)⟩
  ·
   rw [if_neg c3] at H
   have c3b0 : decide (a0 < 0) = false := decide_eq_false c3
   clear c3
   by_cases c7 : a0 < 10
   ·
    rw [if_pos c7] at H
    have c7b0 : decide (a0 < 10) = true := decide_eq_true c7
    clear c7
    obtain ⟨y305, hy305⟩ : ∃ y_ : List Int, y_ = (([(wrap64 (48 + a0)) % 256] : List Int)) := ⟨_, rfl⟩
    replace H : (some (strOfNums y305)) = some r := by first | (rw [hy305]; with_reducible exact H) | (have H2_ := (Option.bind_some _ _).symm.trans H; rw [hy305]; with_reducible exact H2_) | (have H2_ := (Option.bind_some _ _).symm.trans H; with_reducible exact H2_) | with_reducible exact H | (rw [hy305]; exact H) | exact H
    have Ny305 := As.mk hy305
    clear hy305
    obtain rfl := Option.some.inj H
    go_enter Tryd.func36, Tryd.ntmps36
    go_wp2_with (first | ((with_reducible refine gate_dst (N := 16) rfl ?_); refine Kd.R_lit (Kd.int .u8) _ 5 ?hg (N := 16) ?hd (xs := ([(wrap64 (48 + a0)) % 256] : List Int)) (inner := [.int .u8 ((wrap64 (48 + a0)) % 256)]) (ok := fun _ => True) (okp := fun _ => True) ?hr ?hp (fun _ hk => hk) trivial (Below.refl _ _) (Nat.le_refl _) (by simp) ?_; (case hd => rfl); (case hg => rfl); (case hr => first | (go_simp; done) | (go_simp; rfl)); (case hp => exact (Reps.one (show Kd.M (Kd.int .u8) _ _ _ ((wrap64 (48 + a0)) % 256) [.int .u8 ((wrap64 (48 + a0)) % 256)] from rfl) (Reps.none _ _))); intro v306 w8 ho9 hb hg_ hnew_; clear hg_ hnew_; (first | rw [← Ny305.out] at ho9 | (simp only [Int.reduceToNat] at ho9; rw [← Ny305.out] at ho9)); have n0_ := As.mk (Kd.R_lower ho9 (bwZ (by repeat (first | (with_reducible first | exact HB.out | apply bwA | apply bwN | apply bwD) | exact HB.out)))); have n1_ := As.mk (bwS (by repeat (first | (with_reducible first | exact HB.out | apply bwA | apply bwN | apply bwD) | exact HB.out)) hb); clear HB; have HO307 := n0_; have HB := n1_; clear n0_ n1_; clear hb ho9; have hcv10 := own_string (P := Tryd.prog) Tryd.underlying103 Tryd.underlying5 Tryd.underlying9 (Kd.own_of_R HO307.out)))
    go_ret
    exact ⟨by first | rfl | (simp [errW_none, errW_some] <;> rfl) | (simp [*, errW_none, errW_some] <;> rfl), by repeat (first | (with_reducible first | exact HB.out | apply bwA | apply bwN | apply bwD) | exact HB.out)⟩
   ·
    rw [if_neg c7] at H
    have c7b0 : decide (a0 < 10) = false := decide_eq_false c7
    clear c7
    replace H := Option.bind_eq_some_iff.mp H
    obtain ⟨t308, A110, H⟩ := H
    replace H : ((some (([(wrap64 (48 + (Int.tmod a0 10))) % 256] : List Int) : List Int)).bind fun y309 => (if t308.size + (strOfNums y309).size ≤ 9223372036854775807 then (some (t308 ++ (strOfNums y309))) else (none))) = some r := H
    have A11 := As.mk A110
    clear A110
    obtain ⟨y309, hy309⟩ : ∃ y_ : List Int, y_ = (([(wrap64 (48 + (Int.tmod a0 10))) % 256] : List Int)) := ⟨_, rfl⟩
    replace H : (if t308.size + (strOfNums y309).size ≤ 9223372036854775807 then (some (t308 ++ (strOfNums y309))) else (none)) = some r := by first | (rw [hy309]; with_reducible exact H) | (have H2_ := (Option.bind_some _ _).symm.trans H; rw [hy309]; with_reducible exact H2_) | (have H2_ := (Option.bind_some _ _).symm.trans H; with_reducible exact H2_) | with_reducible exact H | (rw [hy309]; exact H) | exact H
    have Ny309 := As.mk hy309
    clear hy309
    replace H := ite_some H
    obtain ⟨c12, H⟩ := H
    have c12b0 := eq_true c12
    have c12b1 : decide (t308.size + (strOfNums y309).size ≤ 9223372036854775807) = true := decide_eq_true c12
    try have c12b2 : (9223372036854775807 < t308.size + (strOfNums y309).size) = False := eq_false (Nat.not_lt.2 c12)
    obtain rfl := Option.some.inj H
    go_enter Tryd.func36, Tryd.ntmps36
    try go_wp2
    have n0_ := As.mk (bwD HB.out)
    clear HB
    have HB := n0_
    clear n0_
    refine start_ (n := 11) (S := fun w' => True) (ds := []) #[false, false, false, false, false, false, false, false, false, false, false] (by kernel_rfl) rfl rfl trivial (fun hHeld => ?_); refine with_tabW lamplighterref01_Digits.tab7 lamplighterref01_Digits.bits7 (fun HT_ HW_ => ?_)
    generalize w.drew = w13 at HB hHeld ⊢
    refine pure_ (i := 0) (N := some 18) (v := ?_) (a' := ?_) #[true, false, false, false, false, false, false, false, false, false, false] rfl rfl (any_of HT_.out (by kernel_rfl)) (fun _ _ _ h => h) (Or.inl ⟨by rfl, ?_⟩) ?_ ?_
    rotate_left
    ·
     intro w'
     go_simp
     with_reducible rfl
    rotate_left
    ·
     simp only [Act.put, List.setIfInBounds_toArray, List.set_cons_zero, List.set_cons_succ, i64_w, i32_w]
     rfl
    refine pure_ (i := 1) (N := some 19) (v := ?_) (a' := ?_) #[true, true, false, false, false, false, false, false, false, false, false] rfl rfl (any_of HT_.out (by kernel_rfl)) (fun _ _ _ h => h) (Or.inl ⟨by rfl, ?_⟩) ?_ ?_
    rotate_left
    ·
     intro w'
     go_simp
     with_reducible rfl
    rotate_left
    ·
     simp only [Act.put, List.setIfInBounds_toArray, List.set_cons_zero, List.set_cons_succ, i64_w, i32_w]
     rfl
    refine pure_ (i := 3) (N := some 21) (v := ?_) (a' := ?_) #[true, true, false, true, false, false, false, false, false, false, false] rfl rfl (any_of HT_.out (by kernel_rfl)) (fun _ _ _ h => h) (Or.inl ⟨by rfl, ?_⟩) ?_ ?_
    rotate_left
    ·
     intro w'
     go_simp
     with_reducible rfl
    rotate_left
    ·
     simp only [Act.put, List.setIfInBounds_toArray, List.set_cons_zero, List.set_cons_succ, i64_w, i32_w]
     rfl
    refine pure_ (i := 4) (N := some 22) (v := ?_) (a' := ?_) #[true, true, false, true, true, false, false, false, false, false, false] rfl rfl (any_of HT_.out (by kernel_rfl)) (fun _ _ _ h => h) (Or.inl ⟨by rfl, ?_⟩) ?_ ?_
    rotate_left
    ·
     intro w'
     go_simp
     with_reducible rfl
    rotate_left
    ·
     simp only [Act.put, List.setIfInBounds_toArray, List.set_cons_zero, List.set_cons_succ, i64_w, i32_w]
     rfl
    refine pure_ (i := 5) (N := some 23) (v := ?_) (a' := ?_) #[true, true, false, true, true, true, false, false, false, false, false] rfl rfl (any_of HT_.out (by kernel_rfl)) (fun _ _ _ h => h) (Or.inl ⟨by rfl, ?_⟩) ?_ ?_
    rotate_left
    ·
     intro w'
     go_simp
     with_reducible rfl
    rotate_left
    ·
     simp only [Act.put, List.setIfInBounds_toArray, List.set_cons_zero, List.set_cons_succ, i64_w, i32_w]
     rfl
    refine pure_ (i := 6) (N := some 24) (v := ?_) (a' := ?_) #[true, true, false, true, true, true, true, false, false, false, false] rfl rfl (any_of HT_.out (by kernel_rfl)) (fun _ _ _ h => h) (Or.inl ⟨by rfl, ?_⟩) ?_ ?_
    rotate_left
    ·
     intro w'
     go_simp
     with_reducible rfl
    rotate_left
    ·
     simp only [Act.put, List.setIfInBounds_toArray, List.set_cons_zero, List.set_cons_succ, i64_w, i32_w]
     rfl
    refine join_ (σ := Value) 2 #[true, true, true, true, true, true, true, true, true, false, false] (fun s_ => [(20, .string t308), (25, s_), (26, .string (strOfNums y309))]) (fun s_ w' => (Kd.R (Kd.int .u8) 5 w' w.heap.size (fun _ => True) s_ y309) ∧ (Below w.heap.size w w')) ?_ ?_
    rotate_left
    ·
     intro hCont
     refine two_ (i := 2) (j := 7) (Ni := some 20) (Nj := some 25) #[true, true, true, true, true, true, true, false, false, false, false] #[true, true, false, true, true, true, true, true, false, false, false] rfl rfl rfl rfl (two_of HT_.out (by kernel_rfl)) (by decide) (by decide) (fun K hK => ?_) (fun K hK => ?_)
     ·
      skip
      refine goes_ Tryd.func36 (by kernel_rfl) rfl #[.int .i64 (wrap64 (Int.tdiv a0 10))] (by rfl) rfl rfl (by simp only [List.map_toArray, List.map_cons, List.map_nil]; try rfl) ?_
      with_reducible refine (ih k (by omega) (wrap64 (Int.tdiv a0 10)) t308 _ A11.out).mono ?_
      rintro e w14 ⟨rfl, hb⟩
      refine ⟨_, rfl, ?_⟩
      have n0_ := As.mk (bwS (by repeat (first | (with_reducible first | exact HB.out | apply bwA | apply bwN | apply bwD) | exact HB.out)) hb)
      clear HB
      have HB := n0_
      clear n0_
      (try clear hb)
      (try clear hb2)
      (try clear hk)
      (try clear hi)
      refine hK.out _ _ trivial (fun hHeld => ?_)
      clear hK K
      refine norm_ (a' := ?_) ?_ ?_
      rotate_left
      ·
       show Act.put _ (some 20) _ = _
       simp only [Act.put, List.setIfInBounds_toArray, List.set_cons_zero, List.set_cons_succ, i64_w, i32_w]
       rfl
      refine one_ (i := 7) (N := some 25) #[true, true, true, true, true, true, true, true, false, false, false] rfl rfl (one_of HT_.out (by kernel_rfl)) (by decide) (fun K hK => ?_)
      refine Kd.R_lit_step (Kd.int .u8) _ 5 ?hg (N := 25) ?hd (xs := ([(wrap64 (48 + (Int.tmod a0 10))) % 256] : List Int)) (inner := [.int .u8 ((wrap64 (48 + (Int.tmod a0 10))) % 256)]) (ok := fun _ => True) (okp := fun _ => True) ?hr ?hp (fun _ hk => hk) trivial (Below.refl _ _) (Nat.le_refl _) (by simp) ?_; (case hd => rfl); (case hg => rfl); (case hr => first | (go_simp; done) | (go_simp; rfl)); (case hp => exact (Reps.one (show Kd.M (Kd.int .u8) _ _ _ ((wrap64 (48 + (Int.tmod a0 10))) % 256) [.int .u8 ((wrap64 (48 + (Int.tmod a0 10))) % 256)] from rfl) (Reps.none _ _)))
      intro v310 w15 ho16 hb hg_ hnew_
      clear hg_ hnew_
      (first | rw [← Ny309.out] at ho16 | (simp only [Int.reduceToNat] at ho16; rw [← Ny309.out] at ho16))
      have n0_ := As.mk (Kd.R_lower ho16 (bwZ (by repeat (first | (with_reducible first | exact HB.out | apply bwA | apply bwN | apply bwD) | exact HB.out))))
      have n1_ := As.mk (bwS (by repeat (first | (with_reducible first | exact HB.out | apply bwA | apply bwN | apply bwD) | exact HB.out)) hb)
      clear HB
      have HO311 := n0_
      have HB := n1_
      clear n0_ n1_
      clear hb ho16
      refine hK.out _ _ trivial (fun hHeld => ?_)
      clear hK K
      refine norm_ (a' := ?_) ?_ ?_
      rotate_left
      ·
       show Act.put _ (some 25) _ = _
       simp only [Act.put, List.setIfInBounds_toArray, List.set_cons_zero, List.set_cons_succ, i64_w, i32_w]
       rfl
      refine one_ (i := 8) (N := some 26) #[true, true, true, true, true, true, true, true, true, false, false] rfl rfl (one_of HT_.out (by kernel_rfl)) (by decide) (fun K hK => ?_)
      have hcv17 := own_string (P := Tryd.prog) Tryd.underlying103 Tryd.underlying5 Tryd.underlying9 (Kd.own_of_R HO311.out)
      refine value_ (w1 := ?_) (v := ?_) (by rfl) rfl ?_ ?_
      rotate_left 2
      ·
       go_simp
       constructor
       ·
        rfl
       ·
        rfl
      clear hcv17
      refine hK.out _ _ trivial (fun hHeld => ?_)
      clear hK K
      refine norm_ (a' := ?_) ?_ ?_
      rotate_left
      ·
       show Act.put _ (some 26) _ = _
       simp only [Act.put, List.setIfInBounds_toArray, List.set_cons_zero, List.set_cons_succ, i64_w, i32_w]
       rfl
      exact norm_ (by simp only [putAll, Act.put, List.setIfInBounds_toArray, List.set_cons_zero, List.set_cons_succ]) (hCont (v310) _ ⟨(by (with_reducible repeat (first | apply Kd.rA | apply Kd.rN | apply Kd.rD)); exact HO311.out), (by repeat (first | (with_reducible first | exact HB.out | apply bwA | apply bwN | apply bwD) | exact HB.out))⟩)
     ·
      skip
      refine Kd.R_lit_step (Kd.int .u8) _ 5 ?hg (N := 25) ?hd (xs := ([(wrap64 (48 + (Int.tmod a0 10))) % 256] : List Int)) (inner := [.int .u8 ((wrap64 (48 + (Int.tmod a0 10))) % 256)]) (ok := fun _ => True) (okp := fun _ => True) ?hr ?hp (fun _ hk => hk) trivial (Below.refl _ _) (Nat.le_refl _) (by simp) ?_; (case hd => rfl); (case hg => rfl); (case hr => first | (go_simp; done) | (go_simp; rfl)); (case hp => exact (Reps.one (show Kd.M (Kd.int .u8) _ _ _ ((wrap64 (48 + (Int.tmod a0 10))) % 256) [.int .u8 ((wrap64 (48 + (Int.tmod a0 10))) % 256)] from rfl) (Reps.none _ _)))
      intro v310 w14 ho15 hb hg_ hnew_
      clear hg_ hnew_
      (first | rw [← Ny309.out] at ho15 | (simp only [Int.reduceToNat] at ho15; rw [← Ny309.out] at ho15))
      have n0_ := As.mk (Kd.R_lower ho15 (bwZ (by repeat (first | (with_reducible first | exact HB.out | apply bwA | apply bwN | apply bwD) | exact HB.out))))
      have n1_ := As.mk (bwS (by repeat (first | (with_reducible first | exact HB.out | apply bwA | apply bwN | apply bwD) | exact HB.out)) hb)
      clear HB
      have HO311 := n0_
      have HB := n1_
      clear n0_ n1_
      clear hb ho15
      refine hK.out _ _ trivial (fun hHeld => ?_)
      clear hK K
      refine norm_ (a' := ?_) ?_ ?_
      rotate_left
      ·
       show Act.put _ (some 25) _ = _
       simp only [Act.put, List.setIfInBounds_toArray, List.set_cons_zero, List.set_cons_succ, i64_w, i32_w]
       rfl
      refine two_ (i := 2) (j := 8) (Ni := some 20) (Nj := some 26) #[true, true, true, true, true, true, true, true, false, false, false] #[true, true, false, true, true, true, true, true, true, false, false] rfl rfl rfl rfl (two_of HT_.out (by kernel_rfl)) (by decide) (by decide) (fun K hK => ?_) (fun K hK => ?_)
      ·
       skip
       refine goes_ Tryd.func36 (by kernel_rfl) rfl #[.int .i64 (wrap64 (Int.tdiv a0 10))] (by rfl) rfl rfl (by simp only [List.map_toArray, List.map_cons, List.map_nil]; try rfl) ?_
       with_reducible refine (ih k (by omega) (wrap64 (Int.tdiv a0 10)) t308 _ A11.out).mono ?_
       rintro e w16 ⟨rfl, hb⟩
       refine ⟨_, rfl, ?_⟩
       have n0_ := As.mk (Kd.R_below (by (with_reducible repeat (first | apply Kd.rA | apply Kd.rN | apply Kd.rD)); exact HO311.out) hb)
       have n1_ := As.mk (bwS (by repeat (first | (with_reducible first | exact HB.out | apply bwA | apply bwN | apply bwD) | exact HB.out)) hb)
       clear HO311
       clear HB
       have HO311 := n0_
       have HB := n1_
       clear n0_ n1_
       (try clear hb)
       (try clear hb2)
       (try clear hk)
       (try clear hi)
       refine hK.out _ _ trivial (fun hHeld => ?_)
       clear hK K
       refine norm_ (a' := ?_) ?_ ?_
       rotate_left
       ·
        show Act.put _ (some 20) _ = _
        simp only [Act.put, List.setIfInBounds_toArray, List.set_cons_zero, List.set_cons_succ, i64_w, i32_w]
        rfl
       refine one_ (i := 8) (N := some 26) #[true, true, true, true, true, true, true, true, true, false, false] rfl rfl (one_of HT_.out (by kernel_rfl)) (by decide) (fun K hK => ?_)
       have hcv17 := own_string (P := Tryd.prog) Tryd.underlying103 Tryd.underlying5 Tryd.underlying9 (Kd.own_of_R HO311.out)
       refine value_ (w1 := ?_) (v := ?_) (by rfl) rfl ?_ ?_
       rotate_left 2
       ·
        go_simp
        constructor
        ·
         rfl
        ·
         rfl
       clear hcv17
       refine hK.out _ _ trivial (fun hHeld => ?_)
       clear hK K
       refine norm_ (a' := ?_) ?_ ?_
       rotate_left
       ·
        show Act.put _ (some 26) _ = _
        simp only [Act.put, List.setIfInBounds_toArray, List.set_cons_zero, List.set_cons_succ, i64_w, i32_w]
        rfl
       exact norm_ (by simp only [putAll, Act.put, List.setIfInBounds_toArray, List.set_cons_zero, List.set_cons_succ]) (hCont (v310) _ ⟨(by (with_reducible repeat (first | apply Kd.rA | apply Kd.rN | apply Kd.rD)); exact HO311.out), (by repeat (first | (with_reducible first | exact HB.out | apply bwA | apply bwN | apply bwD) | exact HB.out))⟩)
      ·
       skip
       have hcv16 := own_string (P := Tryd.prog) Tryd.underlying103 Tryd.underlying5 Tryd.underlying9 (Kd.own_of_R HO311.out)
       refine value_ (w1 := ?_) (v := ?_) (by rfl) rfl ?_ ?_
       rotate_left 2
       ·
        go_simp
        constructor
        ·
         rfl
        ·
         rfl
       clear hcv16
       refine hK.out _ _ trivial (fun hHeld => ?_)
       clear hK K
       refine norm_ (a' := ?_) ?_ ?_
       rotate_left
       ·
        show Act.put _ (some 26) _ = _
        simp only [Act.put, List.setIfInBounds_toArray, List.set_cons_zero, List.set_cons_succ, i64_w, i32_w]
        rfl
       refine one_ (i := 2) (N := some 20) #[true, true, true, true, true, true, true, true, true, false, false] rfl rfl (one_of HT_.out (by kernel_rfl)) (by decide) (fun K hK => ?_)
       refine goes_ Tryd.func36 (by kernel_rfl) rfl #[.int .i64 (wrap64 (Int.tdiv a0 10))] (by rfl) rfl rfl (by simp only [List.map_toArray, List.map_cons, List.map_nil]; try rfl) ?_
       with_reducible refine (ih k (by omega) (wrap64 (Int.tdiv a0 10)) t308 _ A11.out).mono ?_
       rintro e w17 ⟨rfl, hb⟩
       refine ⟨_, rfl, ?_⟩
       have n0_ := As.mk (Kd.R_below (by (with_reducible repeat (first | apply Kd.rA | apply Kd.rN | apply Kd.rD)); exact HO311.out) hb)
       have n1_ := As.mk (bwS (by repeat (first | (with_reducible first | exact HB.out | apply bwA | apply bwN | apply bwD) | exact HB.out)) hb)
       clear HO311
       clear HB
       have HO311 := n0_
       have HB := n1_
       clear n0_ n1_
       (try clear hb)
       (try clear hb2)
       (try clear hk)
       (try clear hi)
       refine hK.out _ _ trivial (fun hHeld => ?_)
       clear hK K
       refine norm_ (a' := ?_) ?_ ?_
       rotate_left
       ·
        show Act.put _ (some 20) _ = _
        simp only [Act.put, List.setIfInBounds_toArray, List.set_cons_zero, List.set_cons_succ, i64_w, i32_w]
        rfl
       exact norm_ (by simp only [putAll, Act.put, List.setIfInBounds_toArray, List.set_cons_zero, List.set_cons_succ]) (hCont (v310) _ ⟨(by (with_reducible repeat (first | apply Kd.rA | apply Kd.rN | apply Kd.rD)); exact HO311.out), (by repeat (first | (with_reducible first | exact HB.out | apply bwA | apply bwN | apply bwD) | exact HB.out))⟩)
    rintro v310 w18 ⟨h0_, h1_⟩
    have n0_ : As (Kd.R (Kd.int .u8) 5 w18 w.heap.size (fun _ => True) v310 y309) := ⟨h0_⟩
    have n1_ : As (Below w.heap.size w w18) := ⟨h1_⟩
    clear HB
    clear h0_ h1_
    have HO311 := n0_
    have HB := n1_
    clear n0_ n1_
    have hHeld := trivial
    refine norm_ (a' := ?_) ?_ ?_
    rotate_left
    ·
     simp only [putAll, Act.put, List.setIfInBounds_toArray, List.set_cons_zero, List.set_cons_succ]
     rfl
    refine pure_ (i := 9) (N := some 27) (v := ?_) (a' := ?_) #[true, true, true, true, true, true, true, true, true, true, false] rfl rfl (any_of HT_.out (by kernel_rfl)) (fun _ _ _ h => h) (Or.inl ⟨by rfl, ?_⟩) ?_ ?_
    rotate_left
    ·
     intro w'
     go_simp
     with_reducible rfl
    rotate_left
    ·
     simp only [Act.put, List.setIfInBounds_toArray, List.set_cons_zero, List.set_cons_succ, i64_w, i32_w]
     rfl
    refine pure_ (i := 10) (N := some 2) (v := ?_) (a' := ?_) #[true, true, true, true, true, true, true, true, true, true, true] rfl rfl (any_of HT_.out (by kernel_rfl)) (fun _ _ _ h => h) (Or.inl ⟨by rfl, ?_⟩) ?_ ?_
    rotate_left
    ·
     intro w'
     go_simp
     with_reducible rfl
    rotate_left
    ·
     simp only [Act.put, List.setIfInBounds_toArray, List.set_cons_zero, List.set_cons_succ, i64_w, i32_w]
     rfl
    refine done_ (done_of HT_.out (by kernel_rfl)) ?_
    try go_wp2
    go_ret
    exact ⟨by first | rfl | (simp [errW_none, errW_some] <;> rfl) | (simp [*, errW_none, errW_some] <;> rfl), by repeat (first | (with_reducible first | exact HB.out | apply bwA | apply bwN | apply bwD) | exact HB.out)⟩
/-! ### lamplighterref11_value: function 26 -/
def lamplighterref11_value.l0 : Nat → ByteArray → Int → Int → Int → ByteArray → Bool → Option (ByteArray)
 | 0, _, _, _, _, _, _ => none
 | k + 1, x3, x4, x313000, x313001, x313002, x313003 => if x4 < (x313002.size : Int) then (if 0 ≤ x4 then (if (bt x313002 x4) = 39 then (if x3.size + 1 ≤ 9223372036854775807 then (if x4 ≤ (wrap64 (x4 + 1)) then (if (wrap64 (x4 + 1)) ≤ (x313002.size : Int) then (if (x3 ++ (⟨#[39]⟩ : ByteArray)).size + (x313002.extract (x4 : Int).toNat ((wrap64 (x4 + 1)) : Int).toNat).size ≤ 9223372036854775807 then (lamplighterref11_value.l0 k ((x3 ++ (⟨#[39]⟩ : ByteArray)) ++ (x313002.extract (x4 : Int).toNat ((wrap64 (x4 + 1)) : Int).toNat)) (wrap64 (x4 + 1)) x313000 x313001 x313002 x313003) else (none)) else (none)) else (none)) else (none)) else (if x4 ≤ (wrap64 (x4 + 1)) then (if (wrap64 (x4 + 1)) ≤ (x313002.size : Int) then (if x3.size + (x313002.extract (x4 : Int).toNat ((wrap64 (x4 + 1)) : Int).toNat).size ≤ 9223372036854775807 then (lamplighterref11_value.l0 k (x3 ++ (x313002.extract (x4 : Int).toNat ((wrap64 (x4 + 1)) : Int).toNat)) (wrap64 (x4 + 1)) x313000 x313001 x313002 x313003) else (none)) else (none)) else (none))) else (none)) else (if x3.size + 1 ≤ 9223372036854775807 then (some (x3 ++ (⟨#[39]⟩ : ByteArray))) else (none))
def lamplighterref11_value.f (k : Nat) (a0_0 : Int) (a0_1 : Int) (a0_2 : ByteArray) (a0_3 : Bool) : Option (ByteArray) := if a0_0 = 1 then (if a0_1 < 0 then ((lamplighterref01_Digits.f k a0_1).bind fun t313 => (if 1 + t313.size ≤ 9223372036854775807 then (if ((⟨#[40]⟩ : ByteArray) ++ t313).size + 1 ≤ 9223372036854775807 then (some (((⟨#[40]⟩ : ByteArray) ++ t313) ++ (⟨#[41]⟩ : ByteArray))) else (none)) else (none))) else ((lamplighterref01_Digits.f k a0_1).bind fun t314 => (some t314))) else (if a0_0 = 2 then (lamplighterref11_value.l0 k (⟨#[39]⟩ : ByteArray) 0 a0_0 a0_1 a0_2 a0_3) else (if a0_3 = true then (some (⟨#[116, 114, 117, 101]⟩ : ByteArray)) else (some (⟨#[102, 97, 108, 115, 101]⟩ : ByteArray))))
theorem lamplighterref11_value.mono_l : ∀ k, (∀ y0 y1 y2 y3 y4 y5, LeO (lamplighterref11_value.l0 k y0 y1 y2 y3 y4 y5) (lamplighterref11_value.l0 (k + 1) y0 y1 y2 y3 y4 y5))
 | 0 => fun _ _ _ _ _ _ r h => by simp [lamplighterref11_value.l0] at h
 | k + 1 => by
  have ih0 := lamplighterref11_value.mono_l k
  ·
   intro y0 y1 y2 y3 y4 y5
   unfold lamplighterref11_value.l0
   repeat' first
   | (with_reducible exact ih0 _ _ _ _ _ _)
   | (with_reducible exact lamplighterref01_Digits.mono _ _)
   | (with_reducible exact LeO.refl _)
   | (with_reducible exact LeO.none _)
   | (with_reducible refine LeO.ite ?_ ?_)
   | (with_reducible refine LeO.bind ?_ (fun _ => ?_))
   | exact ih0 _ _ _ _ _ _
   | exact lamplighterref01_Digits.mono _ _
   | exact LeO.none _
   | refine LeO.ite ?_ ?_
   | refine LeO.bind ?_ (fun _ => ?_)
theorem lamplighterref11_value.mono : ∀ a0 a1 a2 a3 k, LeO (lamplighterref11_value.f k a0 a1 a2 a3) (lamplighterref11_value.f (k + 1) a0 a1 a2 a3) := by
 intro a0 a1 a2 a3 k
 have ih0 := lamplighterref11_value.mono_l k
 unfold lamplighterref11_value.f
 repeat' first
   | (with_reducible exact ih0 _ _ _ _ _ _)
   | (with_reducible exact lamplighterref01_Digits.mono _ _)
   | (with_reducible exact LeO.refl _)
   | (with_reducible exact LeO.none _)
   | (with_reducible refine LeO.ite ?_ ?_)
   | (with_reducible refine LeO.bind ?_ (fun _ => ?_))
   | exact ih0 _ _ _ _ _ _
   | exact lamplighterref01_Digits.mono _ _
   | exact LeO.none _
   | refine LeO.ite ?_ ?_
   | refine LeO.bind ?_ (fun _ => ?_)
set_option maxHeartbeats 8000000 in
set_option maxRecDepth 100000 in
theorem lamplighterref11_value.calls (k : Nat) (a0_0 : Int) (a0_1 : Int) (a0_2 : ByteArray) (a0_3 : Bool) (r : ByteArray) (w : World) (h : lamplighterref11_value.f k a0_0 a0_1 a0_2 a0_3 = some r) :
  Calls Tryd.prog 26 #[.agg #[.int .i64 a0_0, .int .i64 a0_1, .string a0_2, .bool a0_3]] w fun e w' => e = .returned (.string r) ∧ Below w.heap.size w w' := by
 have hu51 := Tryd.underlying51
 have HB := As.mk (Below.refl w.heap.size w)
 have H : (if a0_0 = 1 then (if a0_1 < 0 then ((lamplighterref01_Digits.f k a0_1).bind fun t313 => (if 1 + t313.size ≤ 9223372036854775807 then (if ((⟨#[40]⟩ : ByteArray) ++ t313).size + 1 ≤ 9223372036854775807 then (some (((⟨#[40]⟩ : ByteArray) ++ t313) ++ (⟨#[41]⟩ : ByteArray))) else (none)) else (none))) else ((lamplighterref01_Digits.f k a0_1).bind fun t314 => (some t314))) else (if a0_0 = 2 then (lamplighterref11_value.l0 k (⟨#[39]⟩ : ByteArray) 0 a0_0 a0_1 a0_2 a0_3) else (if a0_3 = true then (some (⟨#[116, 114, 117, 101]⟩ : ByteArray)) else (some (⟨#[102, 97, 108, 115, 101]⟩ : ByteArray))))) = some r := h
 clear h
 by_cases c2 : a0_0 = 1
 ·
  rw [if_pos c2] at H
  have c2b0 : (a0_0 == 1) = true := beq_iff_eq.mpr c2
  have c2b1 : (a0_0 != 1) = false := bne_eq_false_iff_eq.mpr c2
  clear c2
  by_cases c3 : a0_1 < 0
  ·
   rw [if_pos c3] at H
   have c3b0 : decide (a0_1 < 0) = true := decide_eq_true c3
   clear c3
   replace H := Option.bind_eq_some_iff.mp H
   obtain ⟨t313, A40, H⟩ := H
   replace H : (if 1 + t313.size ≤ 9223372036854775807 then (if ((⟨#[40]⟩ : ByteArray) ++ t313).size + 1 ≤ 9223372036854775807 then (some (((⟨#[40]⟩ : ByteArray) ++ t313) ++ (⟨#[41]⟩ : ByteArray))) else (none)) else (none)) = some r := H
   have A4 := As.mk A40
   clear A40
   replace H := ite_some H
   obtain ⟨c5, H⟩ := H
   have c5b0 := eq_true c5
   have c5b1 : decide (1 + t313.size ≤ 9223372036854775807) = true := decide_eq_true c5
   try have c5b2 : (9223372036854775807 < 1 + t313.size) = False := eq_false (Nat.not_lt.2 c5)
   replace H := ite_some H
   obtain ⟨c6, H⟩ := H
   have c6b0 := eq_true c6
   have c6b1 : decide (((⟨#[40]⟩ : ByteArray) ++ t313).size + 1 ≤ 9223372036854775807) = true := decide_eq_true c6
   try have c6b2 : (9223372036854775807 < ((⟨#[40]⟩ : ByteArray) ++ t313).size + 1) = False := eq_false (Nat.not_lt.2 c6)
   try have c6b3 : 1 + t313.size + 1 ≤ 9223372036854775807 := by (have h_ := c6; simp only [ByteArray.size_append] at h_; exact h_)
   try have c6b4 : (9223372036854775807 < 1 + t313.size + 1) = False := eq_false (Nat.not_lt.2 c6b3)
   obtain rfl := Option.some.inj H
   go_enter Tryd.func26, Tryd.ntmps26
   go_wp2_with (first | ((with_reducible refine gate_dst (N := 1) rfl ?_); refine box_event ?hg (N := 1) ?hd (cs := #[.int .i64 a0_0, .int .i64 a0_1, .string a0_2, .bool a0_3]) (t := 51) ?hr ?_; (case hd => rfl); (case hg => rfl); (case hr => first | (go_simp; done) | (go_simp; rfl)); intro gb312 hg w7 hbox hb; have n0_ := As.mk (bwS (by repeat (first | (with_reducible first | exact HB.out | apply bwA | apply bwN | apply bwD) | exact HB.out)) hb); have n1_ := As.mk (hbox); have n2_ := As.mk ((by rw [hg]; exact (bwZ (by repeat (first | (with_reducible first | exact HB.out | apply bwA | apply bwN | apply bwD) | exact HB.out))) : w.heap.size ≤ gb312)); have n3_ := As.mk ((by rw [hg]; exact (bwZ (by repeat (first | (with_reducible first | exact HB.out | apply bwA | apply bwN | apply bwD) | exact HB.out))) : w.heap.size ≤ gb312)); clear HB; have HB := n0_; have BK312 := n1_; have GW312 := n2_; have GE312 := n3_; clear n0_ n1_ n2_ n3_; clear hb hbox hg; have hcz8_0 : w7.cell? ⟨gb312, 0, none⟩ = some (.int .i64 a0_0) := (blk_cell BK312.out 0).trans rfl; have hcz8_1 : w7.cell? ⟨gb312, 1, none⟩ = some (.int .i64 a0_1) := (blk_cell BK312.out 1).trans rfl; have hcz8_2 : w7.cell? ⟨gb312, 2, none⟩ = some (.string a0_2) := (blk_cell BK312.out 2).trans rfl; have hcz8_3 : w7.cell? ⟨gb312, 3, none⟩ = some (.bool a0_3) := (blk_cell BK312.out 3).trans rfl; have hfz8_0 := blk_frozen BK312.out 0; have hfz8_1 := blk_frozen BK312.out 1; have hfz8_2 := blk_frozen BK312.out 2; have hfz8_3 := blk_frozen BK312.out 3) | ((with_reducible refine gaC (f := 36) rfl ?_); refine goesL_ (some 14) rfl rfl Tryd.func36 (by kernel_rfl) rfl #[.int .i64 a0_1] rfl (by simp only [List.map_toArray, List.map_cons, List.map_nil]; try rfl) ?_; (with_reducible refine (lamplighterref01_Digits.calls k a0_1 t313 _ A4.out).mono ?_); rintro e w9 ⟨rfl, hb⟩; refine ⟨_, rfl, ?_⟩; have n0_ := As.mk (blk_below (g := gb312) (o := .cells #[.int .i64 a0_0, .int .i64 a0_1, .string a0_2, .bool a0_3] 51 (0, 0)) (by (with_reducible repeat (first | refine bkN ?_ _ | refine bkD ?_ | refine bkA ?_ _)); exact BK312.out) hb); have n1_ := As.mk (bwS (by repeat (first | (with_reducible first | exact HB.out | apply bwA | apply bwN | apply bwD | refine bwC ?_ GE312.out) | exact HB.out)) hb); clear BK312; clear HB; have BK312 := n0_; have HB := n1_; clear n0_ n1_; (try clear hb); (try clear hb2); (try clear hk); (try clear hi)))
   go_ret
   exact ⟨by first | rfl | (simp [errW_none, errW_some] <;> rfl) | (simp [*, errW_none, errW_some] <;> rfl), by repeat (first | (with_reducible first | exact HB.out | apply bwA | apply bwN | apply bwD | refine bwC ?_ GE312.out) | exact HB.out)⟩
  ·
   rw [if_neg c3] at H
   have c3b0 : decide (a0_1 < 0) = false := decide_eq_false c3
   clear c3
   replace H := Option.bind_eq_some_iff.mp H
   obtain ⟨t314, A100, H⟩ := H
   replace H : (some t314) = some r := H
   have A10 := As.mk A100
   clear A100
   obtain rfl := Option.some.inj H
   go_enter Tryd.func26, Tryd.ntmps26
   go_wp2_with (first | ((with_reducible refine gate_dst (N := 1) rfl ?_); refine box_event ?hg (N := 1) ?hd (cs := #[.int .i64 a0_0, .int .i64 a0_1, .string a0_2, .bool a0_3]) (t := 51) ?hr ?_; (case hd => rfl); (case hg => rfl); (case hr => first | (go_simp; done) | (go_simp; rfl)); intro gb312 hg w11 hbox hb; have n0_ := As.mk (bwS (by repeat (first | (with_reducible first | exact HB.out | apply bwA | apply bwN | apply bwD) | exact HB.out)) hb); have n1_ := As.mk (hbox); have n2_ := As.mk ((by rw [hg]; exact (bwZ (by repeat (first | (with_reducible first | exact HB.out | apply bwA | apply bwN | apply bwD) | exact HB.out))) : w.heap.size ≤ gb312)); have n3_ := As.mk ((by rw [hg]; exact (bwZ (by repeat (first | (with_reducible first | exact HB.out | apply bwA | apply bwN | apply bwD) | exact HB.out))) : w.heap.size ≤ gb312)); clear HB; have HB := n0_; have BK312 := n1_; have GW312 := n2_; have GE312 := n3_; clear n0_ n1_ n2_ n3_; clear hb hbox hg; have hcz12_0 : w11.cell? ⟨gb312, 0, none⟩ = some (.int .i64 a0_0) := (blk_cell BK312.out 0).trans rfl; have hcz12_1 : w11.cell? ⟨gb312, 1, none⟩ = some (.int .i64 a0_1) := (blk_cell BK312.out 1).trans rfl; have hcz12_2 : w11.cell? ⟨gb312, 2, none⟩ = some (.string a0_2) := (blk_cell BK312.out 2).trans rfl; have hcz12_3 : w11.cell? ⟨gb312, 3, none⟩ = some (.bool a0_3) := (blk_cell BK312.out 3).trans rfl; have hfz12_0 := blk_frozen BK312.out 0; have hfz12_1 := blk_frozen BK312.out 1; have hfz12_2 := blk_frozen BK312.out 2; have hfz12_3 := blk_frozen BK312.out 3) | ((with_reducible refine gaC (f := 36) rfl ?_); refine goesL_ (some 19) rfl rfl Tryd.func36 (by kernel_rfl) rfl #[.int .i64 a0_1] rfl (by simp only [List.map_toArray, List.map_cons, List.map_nil]; try rfl) ?_; (with_reducible refine (lamplighterref01_Digits.calls k a0_1 t314 _ A10.out).mono ?_); rintro e w13 ⟨rfl, hb⟩; refine ⟨_, rfl, ?_⟩; have n0_ := As.mk (blk_below (g := gb312) (o := .cells #[.int .i64 a0_0, .int .i64 a0_1, .string a0_2, .bool a0_3] 51 (0, 0)) (by (with_reducible repeat (first | refine bkN ?_ _ | refine bkD ?_ | refine bkA ?_ _)); exact BK312.out) hb); have n1_ := As.mk (bwS (by repeat (first | (with_reducible first | exact HB.out | apply bwA | apply bwN | apply bwD | refine bwC ?_ GE312.out) | exact HB.out)) hb); clear BK312; clear HB; have BK312 := n0_; have HB := n1_; clear n0_ n1_; (try clear hb); (try clear hb2); (try clear hk); (try clear hi)))
   go_ret
   exact ⟨by first | rfl | (simp [errW_none, errW_some] <;> rfl) | (simp [*, errW_none, errW_some] <;> rfl), by repeat (first | (with_reducible first | exact HB.out | apply bwA | apply bwN | apply bwD | refine bwC ?_ GE312.out) | exact HB.out)⟩
 ·
  rw [if_neg c2] at H
  have c2b0 : (a0_0 == 1) = false := beq_eq_false_iff_ne.mpr c2
  have c2b1 : (a0_0 != 1) = true := bne_iff_ne.mpr c2
  by_cases c14 : a0_0 = 2
  ·
   rw [if_pos c14] at H
   have c14b0 : (a0_0 == 2) = true := beq_iff_eq.mpr c14
   have c14b1 : (a0_0 != 2) = false := bne_eq_false_iff_eq.mpr c14
   clear c14
   have H' := As.mk H
   clear H
   go_enter Tryd.func26, Tryd.ntmps26
   go_wp2_with (first | ((with_reducible refine gate_dst (N := 1) rfl ?_); refine box_event ?hg (N := 1) ?hd (cs := #[.int .i64 a0_0, .int .i64 a0_1, .string a0_2, .bool a0_3]) (t := 51) ?hr ?_; (case hd => rfl); (case hg => rfl); (case hr => first | (go_simp; done) | (go_simp; rfl)); intro gb312 hg w15 hbox hb; have n0_ := As.mk (bwS (by repeat (first | (with_reducible first | exact HB.out | apply bwA | apply bwN | apply bwD) | exact HB.out)) hb); have n1_ := As.mk (hbox); have n2_ := As.mk ((by rw [hg]; exact (bwZ (by repeat (first | (with_reducible first | exact HB.out | apply bwA | apply bwN | apply bwD) | exact HB.out))) : w.heap.size ≤ gb312)); have n3_ := As.mk ((by rw [hg]; exact (bwZ (by repeat (first | (with_reducible first | exact HB.out | apply bwA | apply bwN | apply bwD) | exact HB.out))) : w.heap.size ≤ gb312)); clear HB; have HB := n0_; have BK312 := n1_; have GW312 := n2_; have GE312 := n3_; clear n0_ n1_ n2_ n3_; clear hb hbox hg; have hcz16_0 : w15.cell? ⟨gb312, 0, none⟩ = some (.int .i64 a0_0) := (blk_cell BK312.out 0).trans rfl; have hcz16_1 : w15.cell? ⟨gb312, 1, none⟩ = some (.int .i64 a0_1) := (blk_cell BK312.out 1).trans rfl; have hcz16_2 : w15.cell? ⟨gb312, 2, none⟩ = some (.string a0_2) := (blk_cell BK312.out 2).trans rfl; have hcz16_3 : w15.cell? ⟨gb312, 3, none⟩ = some (.bool a0_3) := (blk_cell BK312.out 3).trans rfl; have hfz16_0 := blk_frozen BK312.out 0; have hfz16_1 := blk_frozen BK312.out 1; have hfz16_2 := blk_frozen BK312.out 2; have hfz16_3 := blk_frozen BK312.out 3))
   go_loopg [3, 4] k (fun kq v3 v4 w' => ∃ (x3_1 : ByteArray) (x4_1 : Int), v3 = .string x3_1 ∧ v4 = .int .i64 x4_1 ∧ As (lamplighterref11_value.l0 kq x3_1 x4_1 a0_0 a0_1 a0_2 a0_3 = some r) ∧ As (kq ≤ k) ∧ As (w'.heap[gb312]? = some (.cells #[.int .i64 a0_0, .int .i64 a0_1, .string a0_2, .bool a0_3] 51 (0, 0))) ∧ As (Below w.heap.size w w'))
   case atStart => exact ⟨((⟨#[39]⟩ : ByteArray)), (0), (by first | rfl | (simp; done) | (simp [*]; done)), (by first | rfl | (simp; done) | (simp [*]; done)), H', ⟨Nat.le_refl _⟩, ⟨by (with_reducible repeat (first | refine bkN ?_ _ | refine bkD ?_ | refine bkA ?_ _)); exact BK312.out⟩, ⟨by repeat (first | (with_reducible first | exact HB.out | apply bwA | apply bwN | apply bwD | refine bwC ?_ GE312.out) | exact HB.out)⟩⟩
   case round =>
    clear H'
    try clear c1
    try clear c2
    try clear c2b0
    try clear c2b1
    try clear p2
    try clear c3
    try clear c3b0
    try clear c5
    try clear c5b0
    try clear c5b1
    try clear c5b2
    try clear c6
    try clear c6b0
    try clear c6b1
    try clear c6b2
    try clear c14
    try clear c14b0
    try clear c14b1
    try clear hcz12_0
    try clear hcz12_1
    try clear hcz12_2
    try clear hcz12_3
    try clear hcz16_0
    try clear hcz16_1
    try clear hcz16_2
    try clear hcz16_3
    try clear hcz8_0
    try clear hcz8_1
    try clear hcz8_2
    try clear hcz8_3
    try clear hfz12_0
    try clear hfz12_1
    try clear hfz12_2
    try clear hfz12_3
    try clear hfz16_0
    try clear hfz16_1
    try clear hfz16_2
    try clear hfz16_3
    try clear hfz8_0
    try clear hfz8_1
    try clear hfz8_2
    try clear hfz8_3
    obtain ⟨x3_1, x4_1, rfl, rfl, HA, HK1, BK312, HB⟩ := hrel
    cases gk with
    | zero => exact absurd HA.out (by simp [lamplighterref11_value.l0])
    | succ k1 =>
     have H := HA.out
     clear HA
     simp only [lamplighterref11_value.l0] at H
     by_cases c17 : x4_1 < (a0_2.size : Int)
     ·
      rw [if_pos c17] at H
      have c17b0 : decide (x4_1 < (a0_2.size : Int)) = true := decide_eq_true c17
      clear c17
      replace H := ite_some H
      obtain ⟨c18, H⟩ := H
      have c18b0 : decide (0 ≤ x4_1) = true := decide_eq_true c18
      clear c18
      by_cases c20 : (bt a0_2 x4_1) = 39
      ·
       rw [if_pos c20] at H
       have c20b0 : ((bt a0_2 x4_1) == 39) = true := beq_iff_eq.mpr c20
       have c20b1 : ((bt a0_2 x4_1) != 39) = false := bne_eq_false_iff_eq.mpr c20
       clear c20
       replace H := ite_some H
       obtain ⟨c21, H⟩ := H
       have c21b0 := eq_true c21
       have c21b1 : decide (x3_1.size + 1 ≤ 9223372036854775807) = true := decide_eq_true c21
       try have c21b2 : (9223372036854775807 < x3_1.size + 1) = False := eq_false (Nat.not_lt.2 c21)
       have c22b0 := eq_true (of_decide_eq_true (by first | (with_reducible assumption) | assumption) : 0 ≤ x4_1)
       replace H := ite_some H
       obtain ⟨c23, H⟩ := H
       have c23b0 := eq_true c23
       have c23b1 : decide (x4_1 ≤ (wrap64 (x4_1 + 1))) = true := decide_eq_true c23
       replace H := ite_some H
       obtain ⟨c24, H⟩ := H
       have c24b0 := eq_true c24
       have c24b1 : decide ((wrap64 (x4_1 + 1)) ≤ (a0_2.size : Int)) = true := decide_eq_true c24
       replace H := ite_some H
       obtain ⟨c25, H⟩ := H
       have c25b0 := eq_true c25
       have c25b1 : decide ((x3_1 ++ (⟨#[39]⟩ : ByteArray)).size + (a0_2.extract (x4_1 : Int).toNat ((wrap64 (x4_1 + 1)) : Int).toNat).size ≤ 9223372036854775807) = true := decide_eq_true c25
       try have c25b2 : (9223372036854775807 < (x3_1 ++ (⟨#[39]⟩ : ByteArray)).size + (a0_2.extract (x4_1 : Int).toNat ((wrap64 (x4_1 + 1)) : Int).toNat).size) = False := eq_false (Nat.not_lt.2 c25)
       try have c25b3 : x3_1.size + 1 + ((a0_2.extract (x4_1 : Int).toNat ((wrap64 (x4_1 + 1)) : Int).toNat).size) ≤ 9223372036854775807 := by (have h_ := c25; simp only [ByteArray.size_append] at h_; exact h_)
       try have c25b4 : (9223372036854775807 < x3_1.size + 1 + ((a0_2.extract (x4_1 : Int).toNat ((wrap64 (x4_1 + 1)) : Int).toNat).size)) = False := eq_false (Nat.not_lt.2 c25b3)
       have H' := As.mk H
       clear H
       have hcz26_0 : wr.cell? ⟨gb312, 0, none⟩ = some (.int .i64 a0_0) := (blk_cell BK312.out 0).trans rfl
       have hcz26_1 : wr.cell? ⟨gb312, 1, none⟩ = some (.int .i64 a0_1) := (blk_cell BK312.out 1).trans rfl
       have hcz26_2 : wr.cell? ⟨gb312, 2, none⟩ = some (.string a0_2) := (blk_cell BK312.out 2).trans rfl
       have hcz26_3 : wr.cell? ⟨gb312, 3, none⟩ = some (.bool a0_3) := (blk_cell BK312.out 3).trans rfl
       have hfz26_0 := blk_frozen BK312.out 0
       have hfz26_1 := blk_frozen BK312.out 1
       have hfz26_2 := blk_frozen BK312.out 2
       have hfz26_3 := blk_frozen BK312.out 3
       have p19 : 0 ≤ (x4_1 : Int) := of_decide_eq_true (by first | (with_reducible assumption) | assumption)
       have q19 : x4_1 < (a0_2.size : Int) := of_decide_eq_true (by first | (with_reducible assumption) | assumption)
       have hx19 := bt_at a0_2 x4_1
       replace p19 := eq_true p19
       replace q19 := eq_true q19
       go_wp2
       go_roundg k1
       case measure => have := HK1.out; omega
       case rel => exact ⟨((x3_1 ++ (⟨#[39]⟩ : ByteArray)) ++ (a0_2.extract (x4_1 : Int).toNat ((wrap64 (x4_1 + 1)) : Int).toNat)), (wrap64 (x4_1 + 1)), (by first | rfl | (simp; done) | (simp [*]; done)), (by first | rfl | (simp; done) | (simp [*]; done)), H', ⟨by have := HK1.out; omega⟩, ⟨by (with_reducible repeat (first | refine bkN ?_ _ | refine bkD ?_ | refine bkA ?_ _)); exact BK312.out⟩, ⟨by repeat (first | (with_reducible first | exact HB.out | apply bwA | apply bwN | apply bwD | refine bwC ?_ GE312.out) | exact HB.out)⟩⟩
      ·
       rw [if_neg c20] at H
       have c20b0 : ((bt a0_2 x4_1) == 39) = false := beq_eq_false_iff_ne.mpr c20
       have c20b1 : ((bt a0_2 x4_1) != 39) = true := bne_iff_ne.mpr c20
       have c27b0 := eq_true (of_decide_eq_true (by first | (with_reducible assumption) | assumption) : 0 ≤ x4_1)
       replace H := ite_some H
       obtain ⟨c28, H⟩ := H
       have c28b0 := eq_true c28
       have c28b1 : decide (x4_1 ≤ (wrap64 (x4_1 + 1))) = true := decide_eq_true c28
       replace H := ite_some H
       obtain ⟨c29, H⟩ := H
       have c29b0 := eq_true c29
       have c29b1 : decide ((wrap64 (x4_1 + 1)) ≤ (a0_2.size : Int)) = true := decide_eq_true c29
       replace H := ite_some H
       obtain ⟨c30, H⟩ := H
       have c30b0 := eq_true c30
       have c30b1 : decide (x3_1.size + (a0_2.extract (x4_1 : Int).toNat ((wrap64 (x4_1 + 1)) : Int).toNat).size ≤ 9223372036854775807) = true := decide_eq_true c30
       try have c30b2 : (9223372036854775807 < x3_1.size + (a0_2.extract (x4_1 : Int).toNat ((wrap64 (x4_1 + 1)) : Int).toNat).size) = False := eq_false (Nat.not_lt.2 c30)
       have H' := As.mk H
       clear H
       have hcz31_0 : wr.cell? ⟨gb312, 0, none⟩ = some (.int .i64 a0_0) := (blk_cell BK312.out 0).trans rfl
       have hcz31_1 : wr.cell? ⟨gb312, 1, none⟩ = some (.int .i64 a0_1) := (blk_cell BK312.out 1).trans rfl
       have hcz31_2 : wr.cell? ⟨gb312, 2, none⟩ = some (.string a0_2) := (blk_cell BK312.out 2).trans rfl
       have hcz31_3 : wr.cell? ⟨gb312, 3, none⟩ = some (.bool a0_3) := (blk_cell BK312.out 3).trans rfl
       have hfz31_0 := blk_frozen BK312.out 0
       have hfz31_1 := blk_frozen BK312.out 1
       have hfz31_2 := blk_frozen BK312.out 2
       have hfz31_3 := blk_frozen BK312.out 3
       have p19 : 0 ≤ (x4_1 : Int) := of_decide_eq_true (by first | (with_reducible assumption) | assumption)
       have q19 : x4_1 < (a0_2.size : Int) := of_decide_eq_true (by first | (with_reducible assumption) | assumption)
       have hx19 := bt_at a0_2 x4_1
       replace p19 := eq_true p19
       replace q19 := eq_true q19
       go_wp2
       go_roundg k1
       case measure => have := HK1.out; omega
       case rel => exact ⟨(x3_1 ++ (a0_2.extract (x4_1 : Int).toNat ((wrap64 (x4_1 + 1)) : Int).toNat)), (wrap64 (x4_1 + 1)), (by first | rfl | (simp; done) | (simp [*]; done)), (by first | rfl | (simp; done) | (simp [*]; done)), H', ⟨by have := HK1.out; omega⟩, ⟨by (with_reducible repeat (first | refine bkN ?_ _ | refine bkD ?_ | refine bkA ?_ _)); exact BK312.out⟩, ⟨by repeat (first | (with_reducible first | exact HB.out | apply bwA | apply bwN | apply bwD | refine bwC ?_ GE312.out) | exact HB.out)⟩⟩
     ·
      rw [if_neg c17] at H
      have c17b0 : decide (x4_1 < (a0_2.size : Int)) = false := decide_eq_false c17
      clear c17
      replace H := ite_some H
      obtain ⟨c32, H⟩ := H
      have c32b0 := eq_true c32
      have c32b1 : decide (x3_1.size + 1 ≤ 9223372036854775807) = true := decide_eq_true c32
      try have c32b2 : (9223372036854775807 < x3_1.size + 1) = False := eq_false (Nat.not_lt.2 c32)
      obtain rfl := Option.some.inj H
      have hcz33_0 : wr.cell? ⟨gb312, 0, none⟩ = some (.int .i64 a0_0) := (blk_cell BK312.out 0).trans rfl
      have hcz33_1 : wr.cell? ⟨gb312, 1, none⟩ = some (.int .i64 a0_1) := (blk_cell BK312.out 1).trans rfl
      have hcz33_2 : wr.cell? ⟨gb312, 2, none⟩ = some (.string a0_2) := (blk_cell BK312.out 2).trans rfl
      have hcz33_3 : wr.cell? ⟨gb312, 3, none⟩ = some (.bool a0_3) := (blk_cell BK312.out 3).trans rfl
      have hfz33_0 := blk_frozen BK312.out 0
      have hfz33_1 := blk_frozen BK312.out 1
      have hfz33_2 := blk_frozen BK312.out 2
      have hfz33_3 := blk_frozen BK312.out 3
      go_wp2
      go_ret
      exact ⟨by first | rfl | (simp [errW_none, errW_some] <;> rfl) | (simp [*, errW_none, errW_some] <;> rfl), by repeat (first | (with_reducible first | exact HB.out | apply bwA | apply bwN | apply bwD | refine bwC ?_ GE312.out) | exact HB.out)⟩
  ·
   rw [if_neg c14] at H
   have c14b0 : (a0_0 == 2) = false := beq_eq_false_iff_ne.mpr c14
   have c14b1 : (a0_0 != 2) = true := bne_iff_ne.mpr c14
   by_cases c34 : a0_3 = true
   ·
    subst c34
    have H1 : (some (⟨#[116, 114, 117, 101]⟩ : ByteArray)) = some r := by rw [if_pos rfl] at H; exact H
    clear H
    have H := H1
    clear H1
    obtain rfl := Option.some.inj H
    go_enter Tryd.func26, Tryd.ntmps26
    go_wp2_with (first | ((with_reducible refine gate_dst (N := 1) rfl ?_); refine box_event ?hg (N := 1) ?hd (cs := #[.int .i64 a0_0, .int .i64 a0_1, .string a0_2, .bool true]) (t := 51) ?hr ?_; (case hd => rfl); (case hg => rfl); (case hr => first | (go_simp; done) | (go_simp; rfl)); intro gb312 hg w35 hbox hb; have n0_ := As.mk (bwS (by repeat (first | (with_reducible first | exact HB.out | apply bwA | apply bwN | apply bwD) | exact HB.out)) hb); have n1_ := As.mk (hbox); have n2_ := As.mk ((by rw [hg]; exact (bwZ (by repeat (first | (with_reducible first | exact HB.out | apply bwA | apply bwN | apply bwD) | exact HB.out))) : w.heap.size ≤ gb312)); have n3_ := As.mk ((by rw [hg]; exact (bwZ (by repeat (first | (with_reducible first | exact HB.out | apply bwA | apply bwN | apply bwD) | exact HB.out))) : w.heap.size ≤ gb312)); clear HB; have HB := n0_; have BK312 := n1_; have GW312 := n2_; have GE312 := n3_; clear n0_ n1_ n2_ n3_; clear hb hbox hg; have hcz36_0 : w35.cell? ⟨gb312, 0, none⟩ = some (.int .i64 a0_0) := (blk_cell BK312.out 0).trans rfl; have hcz36_1 : w35.cell? ⟨gb312, 1, none⟩ = some (.int .i64 a0_1) := (blk_cell BK312.out 1).trans rfl; have hcz36_2 : w35.cell? ⟨gb312, 2, none⟩ = some (.string a0_2) := (blk_cell BK312.out 2).trans rfl; have hcz36_3 : w35.cell? ⟨gb312, 3, none⟩ = some (.bool true) := (blk_cell BK312.out 3).trans rfl; have hfz36_0 := blk_frozen BK312.out 0; have hfz36_1 := blk_frozen BK312.out 1; have hfz36_2 := blk_frozen BK312.out 2; have hfz36_3 := blk_frozen BK312.out 3))
    go_ret
    exact ⟨by first | rfl | (simp [errW_none, errW_some] <;> rfl) | (simp [*, errW_none, errW_some] <;> rfl), by repeat (first | (with_reducible first | exact HB.out | apply bwA | apply bwN | apply bwD | refine bwC ?_ GE312.out) | exact HB.out)⟩
   ·
    replace c34 := Bool.eq_false_iff.mpr c34
    subst c34
    have H1 : (some (⟨#[102, 97, 108, 115, 101]⟩ : ByteArray)) = some r := by rw [if_neg (show ¬ (false = true) by decide)] at H; exact H
    clear H
    have H := H1
    clear H1
    obtain rfl := Option.some.inj H
    go_enter Tryd.func26, Tryd.ntmps26
    go_wp2_with (first | ((with_reducible refine gate_dst (N := 1) rfl ?_); refine box_event ?hg (N := 1) ?hd (cs := #[.int .i64 a0_0, .int .i64 a0_1, .string a0_2, .bool false]) (t := 51) ?hr ?_; (case hd => rfl); (case hg => rfl); (case hr => first | (go_simp; done) | (go_simp; rfl)); intro gb312 hg w37 hbox hb; have n0_ := As.mk (bwS (by repeat (first | (with_reducible first | exact HB.out | apply bwA | apply bwN | apply bwD) | exact HB.out)) hb); have n1_ := As.mk (hbox); have n2_ := As.mk ((by rw [hg]; exact (bwZ (by repeat (first | (with_reducible first | exact HB.out | apply bwA | apply bwN | apply bwD) | exact HB.out))) : w.heap.size ≤ gb312)); have n3_ := As.mk ((by rw [hg]; exact (bwZ (by repeat (first | (with_reducible first | exact HB.out | apply bwA | apply bwN | apply bwD) | exact HB.out))) : w.heap.size ≤ gb312)); clear HB; have HB := n0_; have BK312 := n1_; have GW312 := n2_; have GE312 := n3_; clear n0_ n1_ n2_ n3_; clear hb hbox hg; have hcz38_0 : w37.cell? ⟨gb312, 0, none⟩ = some (.int .i64 a0_0) := (blk_cell BK312.out 0).trans rfl; have hcz38_1 : w37.cell? ⟨gb312, 1, none⟩ = some (.int .i64 a0_1) := (blk_cell BK312.out 1).trans rfl; have hcz38_2 : w37.cell? ⟨gb312, 2, none⟩ = some (.string a0_2) := (blk_cell BK312.out 2).trans rfl; have hcz38_3 : w37.cell? ⟨gb312, 3, none⟩ = some (.bool false) := (blk_cell BK312.out 3).trans rfl; have hfz38_0 := blk_frozen BK312.out 0; have hfz38_1 := blk_frozen BK312.out 1; have hfz38_2 := blk_frozen BK312.out 2; have hfz38_3 := blk_frozen BK312.out 3))
    go_ret
    exact ⟨by first | rfl | (simp [errW_none, errW_some] <;> rfl) | (simp [*, errW_none, errW_some] <;> rfl), by repeat (first | (with_reducible first | exact HB.out | apply bwA | apply bwN | apply bwD | refine bwC ?_ GE312.out) | exact HB.out)⟩

/-! ### lamplighterref11_Sign: function 27 -/
def lamplighterref11_Sign.f (a0 : Int) : Option (ByteArray) := if a0 < 3 then (some (⟨#[]⟩ : ByteArray)) else (if a0 > 15 then (some (⟨#[]⟩ : ByteArray)) else ((some (([(⟨#[45]⟩ : ByteArray), (⟨#[43]⟩ : ByteArray), (⟨#[45]⟩ : ByteArray), (⟨#[42]⟩ : ByteArray), (⟨#[61]⟩ : ByteArray), (⟨#[33, 61]⟩ : ByteArray), (⟨#[60]⟩ : ByteArray), (⟨#[60, 61]⟩ : ByteArray), (⟨#[62]⟩ : ByteArray), (⟨#[62, 61]⟩ : ByteArray), (⟨#[110, 111, 116]⟩ : ByteArray), (⟨#[97, 110, 100]⟩ : ByteArray), (⟨#[111, 114]⟩ : ByteArray)] : List ByteArray) : List ByteArray)).bind fun y315 => (if 0 ≤ (wrap64 (a0 - 3)) then (if (wrap64 (a0 - 3)) < (y315.length : Int) then (some (rdOf ByteArray.empty y315 (wrap64 (a0 - 3)))) else (none)) else (none))))
set_option maxHeartbeats 8000000 in
set_option maxRecDepth 100000 in
theorem lamplighterref11_Sign.calls (a0 : Int) (r : ByteArray) (w : World) (h : lamplighterref11_Sign.f a0 = some r) :
  Calls Tryd.prog 27 #[.int .i64 a0] w fun e w' => e = .returned (.string r) ∧ Below w.heap.size w w' := by
 have HB := As.mk (Below.refl w.heap.size w)
 have H : (if a0 < 3 then (some (⟨#[]⟩ : ByteArray)) else (if a0 > 15 then (some (⟨#[]⟩ : ByteArray)) else ((some (([(⟨#[45]⟩ : ByteArray), (⟨#[43]⟩ : ByteArray), (⟨#[45]⟩ : ByteArray), (⟨#[42]⟩ : ByteArray), (⟨#[61]⟩ : ByteArray), (⟨#[33, 61]⟩ : ByteArray), (⟨#[60]⟩ : ByteArray), (⟨#[60, 61]⟩ : ByteArray), (⟨#[62]⟩ : ByteArray), (⟨#[62, 61]⟩ : ByteArray), (⟨#[110, 111, 116]⟩ : ByteArray), (⟨#[97, 110, 100]⟩ : ByteArray), (⟨#[111, 114]⟩ : ByteArray)] : List ByteArray) : List ByteArray)).bind fun y315 => (if 0 ≤ (wrap64 (a0 - 3)) then (if (wrap64 (a0 - 3)) < (y315.length : Int) then (some (rdOf ByteArray.empty y315 (wrap64 (a0 - 3)))) else (none)) else (none))))) = some r := h
 clear h
 by_cases c2 : a0 < 3
 ·
  rw [if_pos c2] at H
  have c2b0 : decide (a0 < 3) = true := decide_eq_true c2
  clear c2
  obtain rfl := Option.some.inj H
  go_enter Tryd.func27, Tryd.ntmps27
  go_wp2
  go_ret
  exact ⟨by first | rfl | (simp [errW_none, errW_some] <;> rfl) | (simp [*, errW_none, errW_some] <;> rfl), by repeat (first | (with_reducible first | exact HB.out | apply bwA | apply bwN | apply bwD) | exact HB.out)⟩
 ·
  rw [if_neg c2] at H
  have c2b0 : decide (a0 < 3) = false := decide_eq_false c2
  clear c2
  by_cases c3 : a0 > 15
  ·
   rw [if_pos c3] at H
   have c3b0 : decide (15 < a0) = true := decide_eq_true c3
   clear c3
   obtain rfl := Option.some.inj H
   go_enter Tryd.func27, Tryd.ntmps27
   go_wp2
   go_ret
   exact ⟨by first | rfl | (simp [errW_none, errW_some] <;> rfl) | (simp [*, errW_none, errW_some] <;> rfl), by repeat (first | (with_reducible first | exact HB.out | apply bwA | apply bwN | apply bwD) | exact HB.out)⟩
  ·
   rw [if_neg c3] at H
   have c3b0 : decide (15 < a0) = false := decide_eq_false c3
   clear c3
   obtain ⟨y315, hy315⟩ : ∃ y_ : List ByteArray, y_ = (([(⟨#[45]⟩ : ByteArray), (⟨#[43]⟩ : ByteArray), (⟨#[45]⟩ : ByteArray), (⟨#[42]⟩ : ByteArray), (⟨#[61]⟩ : ByteArray), (⟨#[33, 61]⟩ : ByteArray), (⟨#[60]⟩ : ByteArray), (⟨#[60, 61]⟩ : ByteArray), (⟨#[62]⟩ : ByteArray), (⟨#[62, 61]⟩ : ByteArray), (⟨#[110, 111, 116]⟩ : ByteArray), (⟨#[97, 110, 100]⟩ : ByteArray), (⟨#[111, 114]⟩ : ByteArray)] : List ByteArray)) := ⟨_, rfl⟩
   replace H : (if 0 ≤ (wrap64 (a0 - 3)) then (if (wrap64 (a0 - 3)) < (y315.length : Int) then (some (rdOf ByteArray.empty y315 (wrap64 (a0 - 3)))) else (none)) else (none)) = some r := by first | (rw [hy315]; with_reducible exact H) | (have H2_ := (Option.bind_some _ _).symm.trans H; rw [hy315]; with_reducible exact H2_) | (have H2_ := (Option.bind_some _ _).symm.trans H; with_reducible exact H2_) | with_reducible exact H | (rw [hy315]; exact H) | exact H
   have Ny315 := As.mk hy315
   clear hy315
   obtain ⟨ji4, hji4⟩ : ∃ j_ : Int, (wrap64 (a0 - 3)) = j_ := ⟨_, rfl⟩
   replace H : (if 0 ≤ (ji4) then (if (ji4) < (y315.length : Int) then (some (rdOf ByteArray.empty y315 (ji4))) else (none)) else (none)) = some r := by first | (rw [hji4] at H; exact H) | (simp only [hji4] at H ⊢; exact H)
   have hji4w : (IntKind.i64.wrap (a0 - 3)) = ji4 := (i64_w _).trans hji4
   replace H := ite_some H
   obtain ⟨c5, H⟩ := H
   have c5b0 : decide (0 ≤ (ji4)) = true := decide_eq_true c5
   clear c5
   replace H := ite_some H
   obtain ⟨c6, H⟩ := H
   have c6b0 : decide ((ji4) < (y315.length : Int)) = true := decide_eq_true c6
   clear c6
   obtain rfl := Option.some.inj H
   go_enter Tryd.func27, Tryd.ntmps27
   go_wp2_with (first | ((with_reducible refine gate_dst (N := 9) rfl ?_); refine Kd.R_lit Kd.string _ 9 ?hg (N := 9) ?hd (xs := ([(⟨#[45]⟩ : ByteArray), (⟨#[43]⟩ : ByteArray), (⟨#[45]⟩ : ByteArray), (⟨#[42]⟩ : ByteArray), (⟨#[61]⟩ : ByteArray), (⟨#[33, 61]⟩ : ByteArray), (⟨#[60]⟩ : ByteArray), (⟨#[60, 61]⟩ : ByteArray), (⟨#[62]⟩ : ByteArray), (⟨#[62, 61]⟩ : ByteArray), (⟨#[110, 111, 116]⟩ : ByteArray), (⟨#[97, 110, 100]⟩ : ByteArray), (⟨#[111, 114]⟩ : ByteArray)] : List ByteArray)) (inner := [.string (⟨#[45]⟩ : ByteArray), .string (⟨#[43]⟩ : ByteArray), .string (⟨#[45]⟩ : ByteArray), .string (⟨#[42]⟩ : ByteArray), .string (⟨#[61]⟩ : ByteArray), .string (⟨#[33, 61]⟩ : ByteArray), .string (⟨#[60]⟩ : ByteArray), .string (⟨#[60, 61]⟩ : ByteArray), .string (⟨#[62]⟩ : ByteArray), .string (⟨#[62, 61]⟩ : ByteArray), .string (⟨#[110, 111, 116]⟩ : ByteArray), .string (⟨#[97, 110, 100]⟩ : ByteArray), .string (⟨#[111, 114]⟩ : ByteArray)]) (ok := fun _ => True) (okp := fun _ => True) ?hr ?hp (fun _ hk => hk) trivial (Below.refl _ _) (Nat.le_refl _) (by simp) ?_; (case hd => rfl); (case hg => rfl); (case hr => first | (go_simp; done) | (go_simp; rfl)); (case hp => exact (Reps.one (show Kd.M Kd.string _ _ _ (⟨#[45]⟩ : ByteArray) [.string (⟨#[45]⟩ : ByteArray)] from rfl) (Reps.one (show Kd.M Kd.string _ _ _ (⟨#[43]⟩ : ByteArray) [.string (⟨#[43]⟩ : ByteArray)] from rfl) (Reps.one (show Kd.M Kd.string _ _ _ (⟨#[45]⟩ : ByteArray) [.string (⟨#[45]⟩ : ByteArray)] from rfl) (Reps.one (show Kd.M Kd.string _ _ _ (⟨#[42]⟩ : ByteArray) [.string (⟨#[42]⟩ : ByteArray)] from rfl) (Reps.one (show Kd.M Kd.string _ _ _ (⟨#[61]⟩ : ByteArray) [.string (⟨#[61]⟩ : ByteArray)] from rfl) (Reps.one (show Kd.M Kd.string _ _ _ (⟨#[33, 61]⟩ : ByteArray) [.string (⟨#[33, 61]⟩ : ByteArray)] from rfl) (Reps.one (show Kd.M Kd.string _ _ _ (⟨#[60]⟩ : ByteArray) [.string (⟨#[60]⟩ : ByteArray)] from rfl) (Reps.one (show Kd.M Kd.string _ _ _ (⟨#[60, 61]⟩ : ByteArray) [.string (⟨#[60, 61]⟩ : ByteArray)] from rfl) (Reps.one (show Kd.M Kd.string _ _ _ (⟨#[62]⟩ : ByteArray) [.string (⟨#[62]⟩ : ByteArray)] from rfl) (Reps.one (show Kd.M Kd.string _ _ _ (⟨#[62, 61]⟩ : ByteArray) [.string (⟨#[62, 61]⟩ : ByteArray)] from rfl) (Reps.one (show Kd.M Kd.string _ _ _ (⟨#[110, 111, 116]⟩ : ByteArray) [.string (⟨#[110, 111, 116]⟩ : ByteArray)] from rfl) (Reps.one (show Kd.M Kd.string _ _ _ (⟨#[97, 110, 100]⟩ : ByteArray) [.string (⟨#[97, 110, 100]⟩ : ByteArray)] from rfl) (Reps.one (show Kd.M Kd.string _ _ _ (⟨#[111, 114]⟩ : ByteArray) [.string (⟨#[111, 114]⟩ : ByteArray)] from rfl) (Reps.none _ _))))))))))))))); intro v316 w7 ho8 hb hg_ hnew_; clear hg_ hnew_; (first | rw [← Ny315.out] at ho8 | (simp only [Int.reduceToNat] at ho8; rw [← Ny315.out] at ho8)); have n0_ := As.mk (Kd.R_lower ho8 (bwZ (by repeat (first | (with_reducible first | exact HB.out | apply bwA | apply bwN | apply bwD) | exact HB.out)))); have n1_ := As.mk (bwS (by repeat (first | (with_reducible first | exact HB.out | apply bwA | apply bwN | apply bwD) | exact HB.out)) hb); clear HB; have HO317 := n0_; have HB := n1_; clear n0_ n1_; clear hb ho8; obtain ⟨Ao9, co9, eo9⟩ := Kd.R_slice HO317.out; subst eo9; have p318 : 0 ≤ ((ji4) : Int) := of_decide_eq_true (by first | (with_reducible assumption) | assumption); have q318 : (ji4) < (y315.length : Int) := of_decide_eq_true (by first | (with_reducible assumption) | assumption); obtain ⟨ad318, e318, hx318_0⟩ := Kd.at_string (Kd.R_reads' HO317.out).2.2 (ji4) p318 q318; cases e318; replace p318 := eq_true p318; replace q318 := eq_true q318))
   go_ret
   exact ⟨by first | rfl | (simp [errW_none, errW_some] <;> rfl) | (simp only [← hji4]; first | rfl | (simp [errW_none, errW_some] <;> rfl)) | (simp [*, errW_none, errW_some] <;> rfl), by repeat (first | (with_reducible first | exact HB.out | apply bwA | apply bwN | apply bwD) | exact HB.out)⟩
end Go.Proofs.YtpijgeijflbmhaaDoor.P

