/- The pieces of a text, in plain Lean: classes of bytes, runs, and one piece behind another. -/
import Derived.Test.YtpijgeijflbmhaaDoorC4
import Derived.Test.YtpijgeijflbmhaaDoorC2
import Derived.Test.YtpijgeijflbmhaaDoorC1
namespace Go.Proofs.YtpijgeijflbmhaaDoor.P
open Go.RowKit Go.Proofs.YtpijgeijflbmhaaDoorW.PrintWords Go.Proofs.YtpijgeijflbmhaaDoorW.PrintLast Go.Proofs.YtpijgeijflbmhaaDoorW.PrintMore
set_option linter.unusedVariables false

theorem up {α : Type} (f : Nat → Option α) (mono : ∀ k, LeO (f k) (f (k + 1))) {a k : Nat} {r : α} (h : f a = some r) (hk : a ≤ k) : f k = some r := by
  induction hk with
  | refl => exact h
  | step _ ih => exact mono _ _ ih

abbrev Bs := List UInt8
def ofL (l : Bs) : ByteArray := ⟨l.toArray⟩
theorem ofL_size (l : Bs) : (ofL l).size = l.length := by simp [ofL, ByteArray.size]
theorem ofL_app (a b : Bs) : ofL a ++ ofL b = ofL (a ++ b) := by
  apply ByteArray.ext; simp [ofL, ByteArray.data_append]
theorem bt_ofL (l : Bs) (i : Nat) (h : i < l.length) : bt (ofL l) (i : Int) = (l[i].toNat : Int) := by
  have h2 : ((i : Int)).toNat < (ofL l).size := by rw [ofL_size]; simpa using h
  unfold bt
  rw [dif_pos h2]
  rfl
theorem ofL_extract (l : Bs) (a b : Nat) : (ofL l).extract a b = ofL ((l.take b).drop a) := by
  apply ByteArray.ext
  simp only [ofL, ByteArray.data_extract, List.extract_toArray, List.extract_eq_take_drop, List.drop_take]
theorem toL_ofL (l : Bs) : (ofL l).toList = l := by rw [ByteArray.toList_eq]; rfl
theorem ofL_inj {a b : Bs} (h : ofL a = ofL b) : a = b := by have := congrArg ByteArray.toList h; rwa [toL_ofL, toL_ofL] at this
theorem w64 (x : Int) (h : -1000000000 ≤ x) (h2 : x ≤ 1000000000) : wrap64 x = x := by unfold wrap64; omega

def clsOf (b : UInt8) : Int := (text_Class.f 4 b.toNat).getD 0
theorem cls_all : ∀ n : Nat, n < 256 → (text_Class.f 4 (n : Int)).isSome = true := by decide +kernel
theorem cls_eq (b : UInt8) (k : Nat) (hk : 4 ≤ k) : text_Class.f k (b.toNat : Int) = some (clsOf b) := by
  have h := cls_all b.toNat (by have := b.toNat_lt; omega)
  refine up (fun k => text_Class.f k (b.toNat : Int)) (fun k => text_Class.mono _ k) (a := 4) ?_ hk
  unfold clsOf
  cases h2 : text_Class.f 4 (b.toNat : Int) with
  | none => rw [h2] at h; cases h
  | some r => rfl

theorem left_eq (s : Bs) (a : Nat) (ha : a ≤ s.length) (hs : s.length ≤ 100000) : text_Reader_Left.f (ofL s) a = some ((s.length : Int) - a, ofL s, (a : Int)) := by
  unfold text_Reader_Left.f
  rw [ofL_size, w64 _ (by omega) (by omega)]

theorem class_end (s : Bs) (k : Nat) (hs : s.length ≤ 100000) : text_Reader_Class.f k (ofL s) s.length = some (0, ofL s, (s.length : Int)) := by
  unfold text_Reader_Class.f
  rw [left_eq s _ (Nat.le_refl _) hs]
  simp

theorem class_at (s : Bs) (a k : Nat) (hk : 4 ≤ k) (ha : a < s.length) (hs : s.length ≤ 100000) : text_Reader_Class.f k (ofL s) a = some (clsOf s[a], ofL s, (a : Int)) := by
  unfold text_Reader_Class.f
  rw [left_eq s _ (Nat.le_of_lt ha) hs]
  have h1 : ¬ ((s.length : Int) - a = 0) := by omega
  have h2 : (0 : Int) ≤ a := by omega
  have h3 : (a : Int) < ((ofL s).size : Int) := by rw [ofL_size]; omega
  simp only [Option.bind_some, if_neg h1, if_pos h2, if_pos h3]
  rw [bt_ofL s a ha, cls_eq _ k hk]
  rfl

def inCls (x1 : List Int) (b : UInt8) : Bool := x1.contains (clsOf b)

/-- The class of a byte is one of those of a run: the inner loop. -/
theorem l1_one (c e : Int) (k : Nat) (x5 : Int) (s : ByteArray) (a : Int) : text_Reader_Run.l1 (k + 2) [c] x5 e false [c] 1 0 s a = (if (c == e) = true then text_Reader_Run.l0 k [c] x5 s (wrap64 (a + 1)) else if 0 ≤ x5 then (if x5 ≤ a then (if a ≤ (s.size : Int) then some (s.extract x5.toNat a.toNat, s, a) else none) else none) else none) := by
  have h1 : wrap64 1 = 1 := w64 1 (by omega) (by omega)
  cases h : (c == e) <;> simp [text_Reader_Run.l1, rd, h, h1]
theorem l1_two (c d e : Int) (k : Nat) (x5 : Int) (s : ByteArray) (a : Int) : text_Reader_Run.l1 (k + 3) [c, d] x5 e false [c, d] 2 0 s a = (if (c == e || d == e) = true then text_Reader_Run.l0 k [c, d] x5 s (wrap64 (a + 1)) else if 0 ≤ x5 then (if x5 ≤ a then (if a ≤ (s.size : Int) then some (s.extract x5.toNat a.toNat, s, a) else none) else none) else none) := by
  have h1 : wrap64 1 = 1 := w64 1 (by omega) (by omega)
  have h2 : wrap64 2 = 2 := w64 2 (by omega) (by omega)
  cases h : (c == e) <;> cases h' : (d == e) <;> simp [text_Reader_Run.l1, rd, h, h', h1, h2]

/-- A run's bytes, and what stands behind. -/
theorem run_l0 (x1 : List Int) (hx : (∃ c, x1 = [c] ∧ c ≠ 0) ∨ ∃ c d, x1 = [c, d] ∧ c ≠ 0 ∧ d ≠ 0) (p : Bs) (st : Nat) : ∀ (u v q : Bs) (k : Nat), (∀ b ∈ u, inCls x1 b = true) → (∀ b, q.head? = some b → inCls x1 b = false) → 10 + 8 * u.length ≤ k → (p ++ v ++ u ++ q).length ≤ 100000 → st = p.length →
    text_Reader_Run.l0 k x1 st (ofL (p ++ v ++ u ++ q)) ((p ++ v).length : Nat) = some (ofL (v ++ u), ofL (p ++ v ++ u ++ q), (((p ++ v ++ u).length : Nat) : Int)) := by
  intro u
  induction u with
  | nil =>
    intro v q k hu hq hk hs hst
    obtain ⟨k, rfl⟩ : ∃ j, k = j + 10 := ⟨k - 10, by omega⟩
    simp only [List.append_nil] at hs ⊢
    have hx1 : ((ofL (p ++ v ++ q)).extract p.length (p ++ v).length) = ofL v := by
      rw [ofL_extract]; congr 1; rw [List.append_assoc, ← List.append_assoc, List.take_left' rfl, List.drop_left' rfl]
    rw [text_Reader_Run.l0, left_eq _ _ (by simp) hs]
    simp only [Option.bind_some]
    cases q with
    | nil =>
      subst hst
      rw [if_neg (by simp)]
      rw [if_pos (by omega), if_pos (by simp only [List.length_append]; omega), if_pos (by rw [ofL_size]; simp)]
      simp only [Int.toNat_natCast, hx1]
    | cons b q =>
      have hc := class_at (p ++ v ++ b :: q) (p ++ v).length (k + 9) (by omega) (by simp) hs
      rw [if_pos (by simp only [List.length_append, List.length_cons]; omega), hc]
      have hb : (p ++ v ++ b :: q)[(p ++ v).length]'(by simp) = b := by simp
      rw [hb]
      have hq' := hq b rfl
      subst hst
      simp only [Option.bind_some]
      obtain ⟨c, rfl, _⟩ | ⟨c, d, rfl, _, _⟩ := hx
      · have hne : ¬ ((c == clsOf b) = true) := by intro h; simp [inCls] at hq'; simp at h; exact hq' h.symm
        rw [show ((([c] : List Int).length : Nat) : Int) = 1 from rfl, l1_one, if_neg hne]
        rw [if_pos (by omega), if_pos (by simp only [List.length_append]; omega), if_pos (by rw [ofL_size]; simp only [List.length_append]; omega)]
        simp only [Int.toNat_natCast, hx1]
      · have hne : ¬ ((c == clsOf b || d == clsOf b) = true) := by
          intro h; simp [inCls] at hq'; simp at h; exact h.elim (fun e => hq'.1 e.symm) (fun e => hq'.2 e.symm)
        rw [show ((([c, d] : List Int).length : Nat) : Int) = 2 from rfl, l1_two, if_neg hne]
        rw [if_pos (by omega), if_pos (by simp only [List.length_append]; omega), if_pos (by rw [ofL_size]; simp only [List.length_append]; omega)]
        simp only [Int.toNat_natCast, hx1]
  | cons b u ih =>
    intro v q k hu hq hk hs hst
    simp only [List.length_cons] at hk
    obtain ⟨k, rfl⟩ : ∃ j, k = j + 10 := ⟨k - 10, by omega⟩
    have e1 : p ++ v ++ b :: u ++ q = p ++ (v ++ [b]) ++ u ++ q := by simp
    have hi := fun k hk => ih (v ++ [b]) q k (fun x hx => hu x (List.mem_cons_of_mem _ hx)) hq hk (by rw [← e1]; exact hs) hst
    rw [text_Reader_Run.l0, left_eq _ _ (by simp) hs]
    simp only [Option.bind_some]
    have hc := class_at (p ++ v ++ b :: u ++ q) (p ++ v).length (k + 9) (by omega) (by simp) hs
    rw [if_pos (by simp only [List.length_append, List.length_cons]; omega), hc]
    have hb : (p ++ v ++ b :: u ++ q)[(p ++ v).length]'(by simp) = b := by simp
    rw [hb]
    have hin := hu b (List.mem_cons_self ..)
    simp only [Option.bind_some]
    have hw : wrap64 (((p ++ v).length : Int) + 1) = (((p ++ (v ++ [b])).length : Nat) : Int) := by
      simp only [List.length_append, List.length_cons, List.length_nil] at hs ⊢
      rw [w64 _ (by omega) (by omega)]; omega
    obtain ⟨c, rfl, _⟩ | ⟨c, d, rfl, _, _⟩ := hx
    · have hh : (c == clsOf b) = true := by simp [inCls] at hin; simp [hin]
      rw [show ((([c] : List Int).length : Nat) : Int) = 1 from rfl, l1_one, if_pos hh, hw, e1, hi _ (by omega)]
      simp
    · have hh : (c == clsOf b || d == clsOf b) = true := by
        simp [inCls] at hin; simp; exact hin.elim (fun e => .inl e.symm) (fun e => .inr e.symm)
      rw [show ((([c, d] : List Int).length : Nat) : Int) = 2 from rfl, l1_two, if_pos hh, hw, e1, hi _ (by omega)]
      simp

theorem run_eq (x1 : List Int) (hx : (∃ c, x1 = [c] ∧ c ≠ 0) ∨ ∃ c d, x1 = [c, d] ∧ c ≠ 0 ∧ d ≠ 0) (p u q : Bs) (k : Nat) (hu : ∀ b ∈ u, inCls x1 b = true) (hq : ∀ b, q.head? = some b → inCls x1 b = false) (hk : 10 + 8 * u.length ≤ k) (hs : (p ++ u ++ q).length ≤ 100000) :
    text_Reader_Run.f k (ofL (p ++ u ++ q)) (p.length : Nat) x1 = some (ofL u, ofL (p ++ u ++ q), (((p ++ u).length : Nat) : Int)) := by
  unfold text_Reader_Run.f text_Reader_At.f
  have h := run_l0 x1 hx p p.length u [] q k hu hq hk (by simpa using hs) rfl
  simp only [List.append_nil, List.nil_append] at h
  simpa using h

/-- A piece, the blank ahead of it, and its bytes. -/
structure Pc where
  sp : Bool
  raw : Bs
  kind : Int
  S : Bs
  N : Int

def Pc.tok (c : Pc) (a : Int) : S67 := ⟨c.kind, ofL c.S, c.N, a⟩

/-- The lexer takes the piece, where such a byte stands behind it. -/
def LexOK (c : Pc) (n : Option UInt8) : Prop := ∀ (p q : Bs) (k : Nat), q.head? = n → 400 ≤ k → (p ++ c.raw ++ q).length ≤ 100000 →
  lex_next.f k (ofL (p ++ c.raw ++ q)) (p.length : Nat) = some (c.kind, ofL c.S, c.N, ((p.length : Nat) : Int), 0, ofL (p ++ c.raw ++ q), (((p ++ c.raw).length : Nat) : Int))

theorem next_head (raw p q : Bs) (b : UInt8) (u : Bs) (hr : raw = b :: u) (k : Nat) (hk : 4 ≤ k) (hs : (p ++ raw ++ q).length ≤ 100000) :
    text_Reader_Class.f k (ofL (p ++ raw ++ q)) (p.length : Nat) = some (clsOf b, ofL (p ++ raw ++ q), (p.length : Int)) := by
  subst hr
  have h := class_at (p ++ b :: u ++ q) p.length k hk (by simp) hs
  have hb : (p ++ b :: u ++ q)[p.length]'(by simp) = b := by simp
  rw [hb] at h
  exact h

theorem lex_wordlike (c : Pc) (n : Option UInt8) (b : UInt8) (u : Bs) (hr : c.raw = b :: u) (hb : clsOf b = 2) (hall : ∀ x ∈ c.raw, inCls [2, 3] x = true) (hn : ∀ x, n = some x → inCls [2, 3] x = false) (hl : c.raw.length ≤ 40) (hS : c.S = c.raw) (hN : c.N = 0)
    (hw : (c.kind = 2 ∧ lex_Word.f (ofL c.raw) = some true) ∨ (c.kind = 1 ∧ lex_Word.f (ofL c.raw) = some false ∧ schema_Name.f 300 (ofL c.raw) = some true)) : LexOK c n := by
  intro p q k hq hk hs
  unfold lex_next.f text_Reader_At.f
  simp only [Option.bind_some]
  rw [next_head c.raw p q b u hr k (by omega) hs]
  simp only [Option.bind_some]
  rw [if_pos hb, run_eq [2, 3] (.inr ⟨2, 3, rfl, by decide, by decide⟩) p c.raw q k hall (fun x hx => hn x (by rw [← hq]; exact hx)) (by omega) hs]
  simp only [Option.bind_some]
  obtain ⟨h1, h2⟩ | ⟨h1, h2, h3⟩ := hw
  · rw [h2, h1, hS, hN]; rfl
  · rw [h2, h1, hS, hN, Option.bind_some, if_neg (by decide), up (fun k => schema_Name.f k (ofL c.raw)) (fun k => schema_Name.mono _ k) h3 (by omega)]; rfl

theorem lex_number (c : Pc) (n : Option UInt8) (b : UInt8) (u : Bs) (hr : c.raw = b :: u) (hb : clsOf b = 3) (hall : ∀ x ∈ c.raw, inCls [3] x = true) (hn : ∀ x, n = some x → inCls [3] x = false) (hl : c.raw.length ≤ 40) (hS : c.S = c.raw) (hk1 : c.kind = 3)
    (hw : num_Parse.f 300 (ofL c.raw) = some (c.N, true)) : LexOK c n := by
  intro p q k hq hk hs
  unfold lex_next.f text_Reader_At.f
  simp only [Option.bind_some]
  rw [next_head c.raw p q b u hr k (by omega) hs]
  simp only [Option.bind_some]
  rw [if_neg (by rw [hb]; decide), if_pos hb, run_eq [3] (.inl ⟨3, rfl, by decide⟩) p c.raw q k hall (fun x hx => hn x (by rw [← hq]; exact hx)) (by omega) hs]
  simp only [Option.bind_some]
  rw [up (fun k => num_Parse.f k (ofL c.raw)) (fun k => num_Parse.mono _ k) hw (by omega), hS, hk1]
  rfl

theorem two_at (p r t : Bs) (hs : (p ++ r).length ≤ 100000) (ht : t.length = 2) :
    text_Reader_Two.f (ofL (p ++ r)) (p.length : Nat) (ofL t) = if r.take 2 = t then some (true, ofL (p ++ r), ((p.length + 2 : Nat) : Int)) else some (false, ofL (p ++ r), ((p.length : Nat) : Int)) := by
  unfold text_Reader_Two.f
  have hz : (ofL (p ++ r)).size = p.length + r.length := by rw [ofL_size, List.length_append]
  rw [if_pos ⟨by omega, by omega, by rw [hz]; simp only [List.length_append] at hs; omega, by rw [ofL_size]; exact ht⟩]
  by_cases h : ((ofL (p ++ r)).size : Int) - (p.length : Nat) < 2
  · rw [if_pos h, if_neg]
    intro e
    have := congrArg List.length e
    rw [List.length_take, ht] at this
    omega
  · rw [if_neg h]
    have e : ((ofL (p ++ r)).extract ((p.length : Nat) : Int).toNat (((p.length : Nat) : Int) + 2).toNat) = ofL (r.take 2) := by
      rw [ofL_extract, show (((p.length : Nat) : Int) + 2).toNat = p.length + 2 from by omega, Int.toNat_natCast, List.take_append, List.take_of_length_le (by omega), List.drop_left' rfl]
      congr 2; omega
    rw [e, toL_ofL, toL_ofL]
    by_cases h2 : r.take 2 = t
    · rw [if_pos h2, if_pos h2]; rfl
    · rw [if_neg h2, if_neg h2]

theorem twosL_eq : twosL = [ofL [33, 61], ofL [60, 61], ofL [62, 61]] := rfl

theorem byte_at (p r : Bs) (b : UInt8) (hs : (p ++ b :: r).length ≤ 100000) : text_Reader_Byte.f (ofL (p ++ b :: r)) (p.length : Nat) = some ((b.toNat : Int), ofL (p ++ b :: r), ((p.length + 1 : Nat) : Int)) := by
  unfold text_Reader_Byte.f
  have hl : (p ++ b :: r).length = p.length + r.length + 1 := by simp; omega
  rw [left_eq _ _ (by omega) hs]
  have hw : wrap64 (((p.length : Nat) : Int) + 1) = ((p.length + 1 : Nat) : Int) := by rw [w64 _ (by omega) (by omega)]; rfl
  have hw2 : wrap64 (((p.length + 1 : Nat) : Int) - 1) = ((p.length : Nat) : Int) := by rw [w64 _ (by omega) (by omega)]; omega
  have h0 : ¬ (((p ++ b :: r).length : Int) - (p.length : Nat) = 0) := by omega
  simp only [Option.bind_some, hw, hw2]
  rw [if_neg h0, if_pos (by omega), if_pos (by rw [ofL_size]; omega), bt_ofL _ _ (by omega)]
  simp

theorem lex_sign1 (c : Pc) (n : Option UInt8) (x : UInt8) (hr : c.raw = [x]) (hx : clsOf x = 4) (hn : ∀ y, n = some y → [x, y] ≠ [33, 61] ∧ [x, y] ≠ [60, 61] ∧ [x, y] ≠ [62, 61]) (hk1 : c.kind = 5) (hS : c.S = c.raw) (hN : c.N = 0) : LexOK c n := by
  intro p q k hq hk hs
  unfold lex_next.f text_Reader_At.f
  simp only [Option.bind_some]
  rw [next_head c.raw p q x [] hr k (by omega) hs]
  simp only [Option.bind_some]
  rw [if_neg (by rw [hx]; decide), if_neg (by rw [hx]; decide), if_neg (by rw [hx]; decide), if_pos hx]
  rw [hr] at hs ⊢
  have e0 : p ++ [x] ++ q = p ++ (x :: q) := by simp
  have hne : ∀ t : Bs, (t = [33, 61] ∨ t = [60, 61] ∨ t = [62, 61]) → ¬ ((x :: q).take 2 = t) := by
    intro t ht e
    cases q with
    | nil => rcases ht with rfl | rfl | rfl <;> simp at e
    | cons y q =>
      have h := hn y (by rw [← hq]; rfl)
      simp only [List.take_succ_cons, List.take_zero] at e
      rcases ht with rfl | rfl | rfl
      · exact h.1 e
      · exact h.2.1 e
      · exact h.2.2 e
  rw [e0] at hs ⊢
  unfold lex_sign.f
  rw [twosL_eq, signFrom, two_at p (x :: q) _ hs rfl, if_neg (hne _ (.inl rfl)), Option.bind_some, if_neg Bool.false_ne_true, signFrom, two_at p (x :: q) _ hs rfl, if_neg (hne _ (.inr (.inl rfl))), Option.bind_some, if_neg Bool.false_ne_true, signFrom, two_at p (x :: q) _ hs rfl, if_neg (hne _ (.inr (.inr rfl))), Option.bind_some, if_neg Bool.false_ne_true, signFrom, byte_at p q x hs]
  have e3 : strOfNums [(x.toNat : Int)] = ofL [x] := by simp [strOfNums, ofL]
  simp [hS, hN, hk1, hr, e3]

theorem lex_sign2 (c : Pc) (n : Option UInt8) (x y : UInt8) (hr : c.raw = [x, y]) (hx : clsOf x = 4) (hn : [x, y] = [33, 61] ∨ [x, y] = [60, 61] ∨ [x, y] = [62, 61]) (hk1 : c.kind = 5) (hS : c.S = c.raw) (hN : c.N = 0) : LexOK c n := by
  intro p q k hq hk hs
  unfold lex_next.f text_Reader_At.f
  simp only [Option.bind_some]
  rw [next_head c.raw p q x [y] hr k (by omega) hs]
  simp only [Option.bind_some]
  rw [if_neg (by rw [hx]; decide), if_neg (by rw [hx]; decide), if_neg (by rw [hx]; decide), if_pos hx]
  rw [hr] at hs ⊢
  have e0 : p ++ [x, y] ++ q = p ++ (x :: y :: q) := by simp
  rw [e0] at hs ⊢
  have e2 : (x :: y :: q).take 2 = [x, y] := by simp
  unfold lex_sign.f
  rcases hn with h | h | h <;>
  · simp only [List.cons.injEq, and_true] at h
    obtain ⟨rfl, rfl⟩ := h
    simp [twosL_eq, signFrom, two_at p _ _ hs, hS, hN, hk1, hr]

theorem q_wrap (n : Nat) (h : n ≤ 200000) : wrap64 ((n : Int) + 1) = ((n + 1 : Nat) : Int) := by rw [w64 _ (by omega) (by omega)]; rfl
theorem q_bt (p r : Bs) (i : Nat) (hi : i < r.length) : bt (ofL (p ++ r)) ((p.length + i : Nat) : Int) = (r[i].toNat : Int) := by
  rw [bt_ofL _ _ (by rw [List.length_append]; omega)]
  congr 2
  rw [List.getElem_append_right (by omega)]
  congr 1; omega
theorem q_skip (p r : Bs) (i k : Nat) (st : Int) (hs : (p ++ r).length ≤ 100000) (hi : i < r.length) (h : r[i] ≠ 39) : text_Reader_Quoted.l0 (k + 1) ((p.length + i : Nat) : Int) (ofL (p ++ r)) st = text_Reader_Quoted.l0 k ((p.length + (i + 1) : Nat) : Int) (ofL (p ++ r)) st := by
  have hl : (p ++ r).length = p.length + r.length := List.length_append
  rw [text_Reader_Quoted.l0, if_pos (by rw [ofL_size]; omega), if_pos (by omega), q_bt p r i hi, if_neg (by intro e; apply h; apply UInt8.toNat_inj.mp; simp only [UInt8.reduceToNat]; omega), q_wrap _ (by omega)]
  rfl
theorem q_two (p r : Bs) (i k : Nat) (st : Int) (hs : (p ++ r).length ≤ 100000) (hi : i + 1 < r.length) (h : r[i] = 39) (h2 : r[i + 1] = 39) : text_Reader_Quoted.l0 (k + 1) ((p.length + i : Nat) : Int) (ofL (p ++ r)) st = text_Reader_Quoted.l0 k ((p.length + (i + 2) : Nat) : Int) (ofL (p ++ r)) st := by
  have hl : (p ++ r).length = p.length + r.length := List.length_append
  rw [text_Reader_Quoted.l0, if_pos (by rw [ofL_size]; omega), if_pos (by omega), q_bt p r i (by omega), if_pos (by rw [h]; rfl), q_wrap _ (by omega), if_pos (by rw [ofL_size]; omega), if_pos (by omega), show p.length + i + 1 = p.length + (i + 1) from rfl, q_bt p r (i + 1) hi, if_pos (by rw [h2]; rfl), q_wrap _ (by omega)]
  rfl
theorem q_end (p r : Bs) (i k : Nat) (hs : (p ++ r).length ≤ 100000) (hi : i < r.length) (h : r[i] = 39) (h2 : ∀ hj : i + 1 < r.length, r[i + 1] ≠ 39) : text_Reader_Quoted.l0 (k + 1) ((p.length + i : Nat) : Int) (ofL (p ++ r)) ((p.length : Nat) : Int) = some (ofL (r.take (i + 1)), true, ofL (p ++ r), ((p.length + (i + 1) : Nat) : Int)) := by
  have hl : (p ++ r).length = p.length + r.length := List.length_append
  have hex : (ofL (p ++ r)).extract ((p.length : Nat) : Int).toNat ((p.length + (i + 1) : Nat) : Int).toNat = ofL (r.take (i + 1)) := by
    rw [ofL_extract, Int.toNat_natCast, Int.toNat_natCast, List.take_append, List.take_of_length_le (by omega), List.drop_left' rfl]
    congr 2; omega
  rw [text_Reader_Quoted.l0, if_pos (by rw [ofL_size]; omega), if_pos (by omega), q_bt p r i (by omega), if_pos (by rw [h]; rfl), q_wrap _ (by omega)]
  by_cases hj : i + 1 < r.length
  · rw [if_pos (by rw [ofL_size]; omega), if_pos (by omega), show p.length + i + 1 = p.length + (i + 1) from rfl, q_bt p r (i + 1) hj, if_neg (by intro e; apply h2 hj; apply UInt8.toNat_inj.mp; simp only [UInt8.reduceToNat]; omega), if_pos (by omega), if_pos (by omega), if_pos (by rw [ofL_size]; omega), hex]
  · rw [if_neg (by rw [ofL_size]; omega), if_pos (by omega), if_pos (by omega), if_pos (by rw [ofL_size]; omega), show p.length + i + 1 = p.length + (i + 1) from rfl, hex]

theorem lex_str3 (c : Pc) (n : Option UInt8) (hn : n ≠ some 39) (hc : c = ⟨c.sp, [39, 117, 39], 4, [117], 0⟩ ∨ c = ⟨c.sp, [39, 118, 39], 4, [118], 0⟩ ∨ c = ⟨c.sp, [39, 105, 116, 39, 39, 115, 39], 4, [105, 116, 39, 115], 0⟩) : LexOK c n := by
  have H : ∀ (m : Bs) (S : Bs) (sp : Bool), (m = [117] ∨ m = [118] ∨ m = [105, 116, 39, 39, 115]) → value_Unquote.f 300 (ofL (39 :: m ++ [39])) = some (ofL S, true) → S.length ≤ 64 → LexOK ⟨sp, 39 :: m ++ [39], 4, S, 0⟩ n := by
    intro m S sp hm hv hS p q k hq hk hs
    have hcls : clsOf 39 = 5 := by decide +kernel
    have hraw : (39 : UInt8) :: m ++ [39] = 39 :: (m ++ [39]) := rfl
    simp only at hs ⊢
    unfold lex_next.f text_Reader_At.f
    simp only [Option.bind_some]
    rw [next_head _ p q 39 (m ++ [39]) hraw k (by omega) hs, hcls]
    simp only [Option.bind_some]
    rw [if_neg (by decide), if_neg (by decide), if_pos trivial]
    have hQ : text_Reader_Quoted.f k (ofL (p ++ (39 :: m ++ [39]) ++ q)) (p.length : Int) = some (ofL (39 :: m ++ [39]), true, ofL (p ++ (39 :: m ++ [39]) ++ q), (((p ++ (39 :: m ++ [39])).length : Nat) : Int)) := by
      unfold text_Reader_Quoted.f
      rw [next_head _ p q 39 (m ++ [39]) hraw k (by omega) hs, hcls]
      simp only [Option.bind_some, if_pos trivial]
      have e0 : p ++ (39 :: m ++ [39]) ++ q = p ++ (39 :: m ++ [39] ++ q) := by simp
      rw [e0] at hs ⊢
      have hl0 : (p ++ (39 :: m ++ [39] ++ q)).length = p.length + (39 :: m ++ [39] ++ q).length := List.length_append
      rw [q_wrap _ (by omega)]
      obtain ⟨k, rfl⟩ : ∃ j, k = j + 10 := ⟨k - 10, by omega⟩
      have hq' : ∀ (y : UInt8) (t : Bs), q = y :: t → y ≠ 39 := by
        rintro y t rfl rfl; exact hn (by rw [← hq]; rfl)
      have hend : ∀ (z : Bs), (39 :: m ++ [39] ++ q) = z ++ [39] ++ q → ∀ j, text_Reader_Quoted.l0 (j + 1) ((p.length + z.length : Nat) : Int) (ofL (p ++ (39 :: m ++ [39] ++ q))) ((p.length : Nat) : Int) = some (ofL (z ++ [39]), true, ofL (p ++ (39 :: m ++ [39] ++ q)), ((p.length + (z.length + 1) : Nat) : Int)) := by
        intro z hz j
        rw [hz] at hs ⊢
        rw [q_end p _ z.length j hs (by simp) (by simp) (by
          intro hj
          cases q with
          | nil => simp at hj
          | cons y t => rw [List.getElem_append_right (by simp)]; simpa using hq' y t rfl)]
        congr 2
        rw [List.take_left' (by simp)]
      rcases hm with rfl | rfl | rfl
      · rw [q_skip p _ 1 _ _ hs (by simp) (by simp)]
        refine (hend [39, 117] rfl (k + 8)).trans ?_
        simp
      · rw [q_skip p _ 1 _ _ hs (by simp) (by simp)]
        refine (hend [39, 118] rfl (k + 8)).trans ?_
        simp
      · rw [q_skip p _ 1 _ _ hs (by simp) (by simp), q_skip p _ 2 _ _ hs (by simp) (by simp), q_two p _ 3 _ _ hs (by simp) (by simp) (by simp), q_skip p _ 5 _ _ hs (by simp) (by simp)]
        refine (hend [39, 105, 116, 39, 39, 115] rfl (k + 5)).trans ?_
        simp
    rw [hQ]
    simp only [Option.bind_some]
    rw [up (fun k => value_Unquote.f k (ofL (39 :: m ++ [39]))) (fun k => value_Unquote.mono _ k) hv (by omega)]
    simp only [Option.bind_some, if_pos trivial]
    rw [if_neg (by rw [ofL_size]; omega)]
  rcases hc with h | h | h
  · rw [h]; exact H [117] [117] _ (.inl rfl) (by decide +kernel) (by decide)
  · rw [h]; exact H [118] [118] _ (.inr (.inl rfl)) (by decide +kernel) (by decide)
  · rw [h]; exact H [105, 116, 39, 39, 115] [105, 116, 39, 115] _ (.inr (.inr rfl)) (by decide +kernel) (by decide)

def flat : List Pc → Bs
  | [] => []
  | c :: cs => (if c.sp then [32] else []) ++ c.raw ++ flat cs
def Pc.at_ (c : Pc) (a : Nat) : Nat := a + (if c.sp then [(32 : UInt8)] else []).length
def toks : Nat → List Pc → List S67
  | _, [] => []
  | a, c :: cs => c.tok (c.at_ a : Nat) :: toks (c.at_ a + c.raw.length) cs
def Good : List Pc → Prop
  | [] => True
  | c :: cs => (∃ b u, c.raw = b :: u ∧ clsOf b ≠ 1) ∧ LexOK c (flat cs).head? ∧ Good cs

theorem flat_append (a b : List Pc) : flat (a ++ b) = flat a ++ flat b := by
  induction a with
  | nil => rfl
  | cons c cs ih => simp [flat, ih]

theorem toks_length (a : Nat) (cs : List Pc) : (toks a cs).length = cs.length := by
  induction cs generalizing a with
  | nil => rfl
  | cons c cs ih => simp [toks, ih]

theorem cls32 : clsOf 32 = 1 := by decide +kernel

theorem textL_eq (cs : List Pc) : ∀ (p : Bs) (o : List S67) (k : Nat), Good cs → cs.length + 450 ≤ k → o.length + cs.length ≤ 400 → (p ++ flat cs).length ≤ 2000 →
    textL k o (ofL (p ++ flat cs)) ((p.length : Nat) : Int) = some (o ++ toks p.length cs, 0) := by
  induction cs with
  | nil =>
    intro p o k hg hk ho hs
    obtain ⟨k, rfl⟩ : ∃ j, k = j + 1 := ⟨k - 1, by omega⟩
    have hr := run_eq [1] (.inl ⟨1, rfl, by decide⟩) p [] [] k (by simp) (by simp) (by simp only [List.length_nil] at hk ⊢; omega) (by simp only [flat, List.append_nil] at hs ⊢; omega)
    simp only [flat, List.append_nil] at hs hr ⊢
    rw [textL, hr, Option.bind_some, left_eq p p.length (Nat.le_refl _) (by omega), Option.bind_some, if_pos (by simp)]
    simp [toks]
  | cons c cs ih =>
    intro p o k hg hk ho hs
    simp only [List.length_cons] at hk ho
    obtain ⟨k, rfl⟩ : ∃ j, k = j + 1 := ⟨k - 1, by omega⟩
    obtain ⟨⟨b, u, hr, hb⟩, hl, hg'⟩ := hg
    have hsp : ∀ x ∈ (if c.sp then [(32 : UInt8)] else []), inCls [1] x = true := by
      intro x hx; split at hx
      · simp at hx; subst hx; simp [inCls, cls32]
      · simp at hx
    have hspl : (if c.sp then [(32 : UInt8)] else []).length ≤ 1 := by split <;> simp
    have e0 : p ++ flat (c :: cs) = p ++ (if c.sp then [32] else []) ++ (c.raw ++ flat cs) := by simp [flat]
    have e1 : p ++ flat (c :: cs) = (p ++ (if c.sp then [32] else [])) ++ c.raw ++ flat cs := by simp [flat]
    have e2 : p ++ flat (c :: cs) = ((p ++ (if c.sp then [32] else [])) ++ c.raw) ++ flat cs := by simp [flat]
    have hrun := run_eq [1] (.inl ⟨1, rfl, by decide⟩) p _ (c.raw ++ flat cs) k hsp (by
      intro x hx; rw [hr] at hx; simp at hx; subst hx; simp [inCls, hb]) (by omega) (by rw [← e0]; omega)
    have hlex := hl (p ++ (if c.sp then [32] else [])) (flat cs) k rfl (by omega) (by rw [← e1]; omega)
    have hnx := ih ((p ++ (if c.sp then [32] else [])) ++ c.raw) (o ++ [c.tok (c.at_ p.length : Nat)]) k hg' (by omega) (by simp only [List.length_append, List.length_cons, List.length_nil]; omega) (by rw [← e2]; omega)
    rw [← e0] at hrun
    rw [← e1] at hlex
    rw [← e2] at hnx
    have hrl : 1 ≤ c.raw.length := by rw [hr]; simp
    have hlen : (p ++ flat (c :: cs)).length = (p ++ (if c.sp then [32] else [])).length + c.raw.length + (flat cs).length := by rw [e1]; simp only [List.length_append]
    rw [textL, hrun, Option.bind_some, left_eq _ _ (by rw [hlen]; omega) (by omega), Option.bind_some, if_neg (by simp only; rw [hlen]; omega)]
    simp only
    rw [hlex]
    simp only [Option.bind_some]
    rw [if_pos trivial, if_neg (by omega)]
    have e3 : (⟨c.kind, ofL c.S, c.N, (((p ++ (if c.sp then [32] else [])).length : Nat) : Int)⟩ : S67) = c.tok (c.at_ p.length : Nat) := by
      unfold Pc.tok Pc.at_; rw [List.length_append]
    rw [e3, hnx]
    have e4 : ((p ++ (if c.sp then [32] else [])) ++ c.raw).length = c.at_ p.length + c.raw.length := by unfold Pc.at_; rw [List.length_append, List.length_append]
    rw [e4]
    simp [toks]

theorem text_eq (cs : List Pc) (k : Nat) (hg : Good cs) (hk : 900 ≤ k) (hn : cs.length ≤ 400) (hs : (flat cs).length ≤ 2000) : lex_Text.f k (ofL (flat cs)) = some (toks 0 cs, 0) := by
  unfold lex_Text.f
  rw [if_neg (by rw [ofL_size]; omega)]
  have h := textL_eq cs [] [] k hg (by omega) (by simpa using hn) (by simpa using hs)
  simpa using h

/-- A predicate. -/
inductive Ex
  | num (v : Int)
  | fld (v f : Bs)
  | str (s : Bs)
  | tru (b : Bool)
  | neg (a : Ex)
  | not (a : Ex)
  | bin (op : Int) (a b : Ex)

def Ex.nodes : Ex → List S53
  | .num v => [conNode 1 v ⟨#[]⟩ false]
  | .fld v f => [fldNode (ofL v) (ofL f)]
  | .str s => [conNode 2 0 (ofL s) false]
  | .tru b => [conNode 3 0 ⟨#[]⟩ b]
  | .neg a => a.nodes ++ [opNode 3]
  | .not a => a.nodes ++ [opNode 13]
  | .bin op a b => a.nodes ++ b.nodes ++ [opNode op]

def Ex.ht : Ex → Nat
  | .num _ | .fld _ _ | .str _ | .tru _ => 1
  | .neg a | .not a => a.ht + 1
  | .bin _ a b => max a.ht b.ht + 1

def Ex.wf : Ex → Prop
  | .num v => -8 ≤ v ∧ v ≤ 31
  | .fld v f => (v = [97] ∨ v = [98] ∨ v = [99]) ∧ (f = [120] ∨ f = [115])
  | .str s => s = [117] ∨ s = [118] ∨ s = [105, 116, 39, 115]
  | .tru _ => True
  | .neg a | .not a => a.wf
  | .bin op a b => 4 ≤ op ∧ op ≤ 15 ∧ op ≠ 13 ∧ a.wf ∧ b.wf

/-- The figures of a small number. -/
def dig (n : Int) : Bs := if n < 10 then [UInt8.ofNat (48 + n.toNat)] else [UInt8.ofNat (48 + n.toNat / 10), UInt8.ofNat (48 + n.toNat % 10)]
def sgnB (op : Int) : Bs :=
  if op = 4 then [43] else if op = 5 then [45] else if op = 6 then [42] else if op = 7 then [61] else if op = 8 then [33, 61] else if op = 9 then [60]
  else if op = 10 then [60, 61] else if op = 11 then [62] else if op = 12 then [62, 61] else if op = 14 then [97, 110, 100] else [111, 114]
def strB (s : Bs) : Bs := if s = [105, 116, 39, 115] then [39, 105, 116, 39, 39, 115, 39] else [39] ++ s ++ [39]

def sg (sp : Bool) (x : UInt8) : Pc := ⟨sp, [x], 5, [x], 0⟩
def numP (sp : Bool) (v : Int) : Pc := ⟨sp, dig v, 3, dig v, v⟩
def nameP (sp : Bool) (s : Bs) : Pc := ⟨sp, s, 1, s, 0⟩
def wordP (sp : Bool) (s : Bs) : Pc := ⟨sp, s, 2, s, 0⟩
def strP (sp : Bool) (s : Bs) : Pc := ⟨sp, strB s, 4, s, 0⟩
def opP (op : Int) : Pc := ⟨true, sgnB op, if 14 ≤ op then 2 else 5, sgnB op, 0⟩

def Ex.digit : Ex → Bool
  | .num v => decide (0 ≤ v)
  | _ => false

def Ex.pcs : Ex → Bool → List Pc
  | .num v, sp => if 0 ≤ v then [numP sp v] else [sg sp 40, sg false 45, numP false (-v), sg false 41]
  | .fld v f, sp => [nameP sp v, sg false 46, nameP false f]
  | .str s, sp => [strP sp s]
  | .tru b, sp => [wordP sp (if b then [116, 114, 117, 101] else [102, 97, 108, 115, 101])]
  | .neg a, sp => [sg sp 40, sg false 45] ++ (if a.digit then [sg true 40] ++ a.pcs false ++ [sg false 41] else a.pcs true) ++ [sg false 41]
  | .not a, sp => [sg sp 40, wordP false [110, 111, 116]] ++ a.pcs true ++ [sg false 41]
  | .bin op a b, sp => [sg sp 40] ++ a.pcs false ++ [opP op] ++ b.pcs true ++ [sg false 41]

def Follow (n : Option UInt8) : Prop := n = none ∨ n = some 32 ∨ n = some 41 ∨ n = some 46

theorem flat_sp (e : Ex) (h : e.wf) (rest : List Pc) : (flat (e.pcs true ++ rest)).head? = some 32 := by
  cases e <;> simp [Ex.pcs, flat, sg, numP, nameP, wordP, strP]
  · split <;> simp [flat]

theorem follow_cls : inCls [2, 3] 32 = false ∧ inCls [2, 3] 41 = false ∧ inCls [2, 3] 46 = false ∧ inCls [3] 32 = false ∧ inCls [3] 41 = false ∧ inCls [3] 46 = false := by decide +kernel

theorem fol23 {n : Option UInt8} (h : Follow n) : ∀ x, n = some x → inCls [2, 3] x = false := by
  intro x hx; subst hx
  rcases h with h | h | h | h
  · cases h
  · cases h; exact follow_cls.1
  · cases h; exact follow_cls.2.1
  · cases h; exact follow_cls.2.2.1
theorem fol3 {n : Option UInt8} (h : Follow n) : ∀ x, n = some x → inCls [3] x = false := by
  intro x hx; subst hx
  rcases h with h | h | h | h
  · cases h
  · cases h; exact follow_cls.2.2.2.1
  · cases h; exact follow_cls.2.2.2.2.1
  · cases h; exact follow_cls.2.2.2.2.2

/-- A piece that is taken, whatever it is. -/
def Pok (c : Pc) (n : Option UInt8) : Prop := (∃ b u, c.raw = b :: u ∧ clsOf b ≠ 1) ∧ LexOK c n

theorem sg_ok (sp : Bool) (x : UInt8) (hx : x = 40 ∨ x = 41 ∨ x = 45 ∨ x = 46) (n : Option UInt8) : Pok (sg sp x) n := by
  have hc : clsOf x = 4 := by rcases hx with rfl | rfl | rfl | rfl <;> decide +kernel
  refine ⟨⟨x, [], rfl, by rw [hc]; decide⟩, lex_sign1 _ n x rfl hc ?_ rfl rfl rfl⟩
  rintro y -
  rcases hx with rfl | rfl | rfl | rfl <;> refine ⟨?_, ?_, ?_⟩ <;> intro e <;> simp at e

theorem dig_facts : ∀ n : Nat, n < 32 → (∃ b u, dig (n : Int) = b :: u ∧ clsOf b = 3) ∧ (dig (n : Int)).all (inCls [3]) = true ∧ (dig (n : Int)).length ≤ 40 ∧ num_Parse.f 300 (ofL (dig (n : Int))) = some ((n : Int), true) := by
  intro n hn
  have h1 : ∀ n : Nat, n < 32 → ((dig (n : Int)).head?.map clsOf = some 3 ∧ (dig (n : Int)).all (inCls [3]) = true ∧ (dig (n : Int)).length ≤ 40 ∧ num_Parse.f 300 (ofL (dig (n : Int))) = some ((n : Int), true)) := by decide +kernel
  obtain ⟨a, b, c, d⟩ := h1 n hn
  refine ⟨?_, b, c, d⟩
  cases h : dig (n : Int) with
  | nil => rw [h] at a; cases a
  | cons x u => rw [h] at a; exact ⟨x, u, rfl, by simpa using a⟩

theorem numP_ok (sp : Bool) (v : Int) (h0 : 0 ≤ v) (h1 : v ≤ 31) (n : Option UInt8) (hn : Follow n) : Pok (numP sp v) n := by
  obtain ⟨m, rfl⟩ : ∃ m : Nat, v = m := ⟨v.toNat, by omega⟩
  obtain ⟨⟨b, u, hr, hb⟩, h2, h3, h4⟩ := dig_facts m (by omega)
  exact ⟨⟨b, u, hr, by rw [hb]; decide⟩, lex_number _ n b u hr hb (fun x hx => List.all_eq_true.mp h2 x hx) (fol3 hn) h3 rfl rfl h4⟩

theorem names_facts : ∀ s ∈ ([[97], [98], [99], [120], [115]] : List Bs), s.head?.map clsOf = some 2 ∧ s.all (inCls [2, 3]) = true ∧ s.length ≤ 40 ∧ lex_Word.f (ofL s) = some false ∧ schema_Name.f 300 (ofL s) = some true := by decide +kernel
theorem words_facts : ∀ s ∈ ([[116, 114, 117, 101], [102, 97, 108, 115, 101], [110, 111, 116], [97, 110, 100], [111, 114]] : List Bs), s.head?.map clsOf = some 2 ∧ s.all (inCls [2, 3]) = true ∧ s.length ≤ 40 ∧ lex_Word.f (ofL s) = some true := by decide +kernel

theorem head_of {s : Bs} {z : Int} (h : s.head?.map clsOf = some z) : ∃ b u, s = b :: u ∧ clsOf b = z := by
  cases s with
  | nil => cases h
  | cons x u => exact ⟨x, u, rfl, by simpa using h⟩

theorem nameP_ok (sp : Bool) (s : Bs) (hs : s ∈ ([[97], [98], [99], [120], [115]] : List Bs)) (n : Option UInt8) (hn : Follow n) : Pok (nameP sp s) n := by
  obtain ⟨h1, h2, h3, h4, h5⟩ := names_facts s hs
  obtain ⟨b, u, hr, hb⟩ := head_of h1
  exact ⟨⟨b, u, hr, by rw [hb]; decide⟩, lex_wordlike _ n b u hr hb (fun x hx => List.all_eq_true.mp h2 x hx) (fol23 hn) h3 rfl rfl (.inr ⟨rfl, h4, h5⟩)⟩
theorem wordP_ok (sp : Bool) (s : Bs) (hs : s ∈ ([[116, 114, 117, 101], [102, 97, 108, 115, 101], [110, 111, 116], [97, 110, 100], [111, 114]] : List Bs)) (n : Option UInt8) (hn : Follow n) : Pok (wordP sp s) n := by
  obtain ⟨h1, h2, h3, h4⟩ := words_facts s hs
  obtain ⟨b, u, hr, hb⟩ := head_of h1
  exact ⟨⟨b, u, hr, by rw [hb]; decide⟩, lex_wordlike _ n b u hr hb (fun x hx => List.all_eq_true.mp h2 x hx) (fol23 hn) h3 rfl rfl (.inl ⟨rfl, h4⟩)⟩
theorem strP_ok (sp : Bool) (s : Bs) (hs : s = [117] ∨ s = [118] ∨ s = [105, 116, 39, 115]) (n : Option UInt8) (hn : Follow n) : Pok (strP sp s) n := by
  have h39 : clsOf 39 ≠ 1 := by decide +kernel
  have hne : n ≠ some 39 := by rcases hn with rfl | rfl | rfl | rfl <;> simp
  rcases hs with rfl | rfl | rfl
  · exact ⟨⟨39, _, rfl, h39⟩, lex_str3 _ n hne (.inl rfl)⟩
  · exact ⟨⟨39, _, rfl, h39⟩, lex_str3 _ n hne (.inr (.inl rfl))⟩
  · exact ⟨⟨39, _, rfl, h39⟩, lex_str3 _ n hne (.inr (.inr rfl))⟩
theorem opP_ok (op : Int) (h : 4 ≤ op) (h2 : op ≤ 15) (h3 : op ≠ 13) : Pok (opP op) (some 32) := by
  have hc : ∀ x : UInt8, x = 43 ∨ x = 45 ∨ x = 42 ∨ x = 61 ∨ x = 33 ∨ x = 60 ∨ x = 62 → clsOf x = 4 := by
    rintro x (rfl | rfl | rfl | rfl | rfl | rfl | rfl) <;> decide +kernel
  have one : ∀ x : UInt8, x = 43 ∨ x = 45 ∨ x = 42 ∨ x = 61 ∨ x = 33 ∨ x = 60 ∨ x = 62 → Pok ⟨true, [x], 5, [x], 0⟩ (some 32) := by
    intro x hx
    refine ⟨⟨x, [], rfl, by rw [hc x hx]; decide⟩, lex_sign1 _ _ x rfl (hc x hx) ?_ rfl rfl rfl⟩
    intro y hy; cases hy
    refine ⟨?_, ?_, ?_⟩ <;> intro e <;> simp at e
  have two : ∀ x : UInt8, x = 43 ∨ x = 45 ∨ x = 42 ∨ x = 61 ∨ x = 33 ∨ x = 60 ∨ x = 62 → ([x, 61] : Bs) = [33, 61] ∨ ([x, 61] : Bs) = [60, 61] ∨ ([x, 61] : Bs) = [62, 61] → Pok ⟨true, [x, 61], 5, [x, 61], 0⟩ (some 32) := by
    intro x hx ht
    exact ⟨⟨x, [61], rfl, by rw [hc x hx]; decide⟩, lex_sign2 _ _ x 61 rfl (hc x hx) ht rfl rfl rfl⟩
  have : op = 4 ∨ op = 5 ∨ op = 6 ∨ op = 7 ∨ op = 8 ∨ op = 9 ∨ op = 10 ∨ op = 11 ∨ op = 12 ∨ op = 14 ∨ op = 15 := by omega
  rcases this with rfl | rfl | rfl | rfl | rfl | rfl | rfl | rfl | rfl | rfl | rfl
  · exact one 43 (by simp)
  · exact one 45 (by simp)
  · exact one 42 (by simp)
  · exact one 61 (by simp)
  · exact two 33 (by simp) (by simp)
  · exact one 60 (by simp)
  · exact two 60 (by simp) (by simp)
  · exact one 62 (by simp)
  · exact two 62 (by simp) (by simp)
  · exact wordP_ok true [97, 110, 100] (by simp) _ (.inr (.inl rfl))
  · exact wordP_ok true [111, 114] (by simp) _ (.inr (.inl rfl))

theorem good_cons {c : Pc} {cs : List Pc} (h : Pok c (flat cs).head?) (hg : Good cs) : Good (c :: cs) := ⟨h.1, h.2, hg⟩

theorem head_sg (x : UInt8) (cs : List Pc) : (flat (sg false x :: cs)).head? = some x := rfl

theorem pcs_good (e : Ex) : ∀ (h : e.wf) (sp : Bool) (rest : List Pc), Good rest → Follow (flat rest).head? → Good (e.pcs sp ++ rest) := by
  have close : ∀ rest, Good rest → Good (sg false 41 :: rest) := fun rest h => good_cons (sg_ok false 41 (by simp) _) h
  have f41 : ∀ rest, Follow (flat (sg false 41 :: rest)).head? := fun rest => .inr (.inr (.inl rfl))
  induction e with
  | num v =>
    intro h sp rest hr hf
    unfold Ex.pcs
    obtain ⟨h1, h2⟩ := h
    split
    · exact good_cons (numP_ok sp v (by omega) (by omega) _ hf) hr
    · exact good_cons (sg_ok _ _ (by simp) _) (good_cons (sg_ok _ _ (by simp) _) (good_cons (numP_ok false _ (by omega) (by omega) _ (f41 rest)) (close _ hr)))
  | fld v f =>
    intro h sp rest hr hf
    unfold Ex.pcs
    obtain ⟨h1, h2⟩ := h
    exact good_cons (nameP_ok sp v (by rcases h1 with rfl | rfl | rfl <;> simp) _ (.inr (.inr (.inr rfl)))) (good_cons (sg_ok _ _ (by simp) _) (good_cons (nameP_ok false f (by rcases h2 with rfl | rfl <;> simp) _ hf) hr))
  | str s =>
    intro h sp rest hr hf
    exact good_cons (strP_ok sp s h _ hf) hr
  | tru b =>
    intro h sp rest hr hf
    exact good_cons (wordP_ok sp _ (by cases b <;> simp) _ hf) hr
  | neg a ih =>
    intro h sp rest hr hf
    unfold Ex.pcs
    split
    · have : [sg sp 40, sg false 45] ++ ([sg true 40] ++ a.pcs false ++ [sg false 41]) ++ [sg false 41] ++ rest = sg sp 40 :: sg false 45 :: sg true 40 :: (a.pcs false ++ (sg false 41 :: sg false 41 :: rest)) := by simp
      rw [this]
      exact good_cons (sg_ok _ _ (by simp) _) (good_cons (sg_ok _ _ (by simp) _) (good_cons (sg_ok _ _ (by simp) _) (ih h _ _ (close _ (close _ hr)) (f41 _))))
    · have : [sg sp 40, sg false 45] ++ a.pcs true ++ [sg false 41] ++ rest = sg sp 40 :: sg false 45 :: (a.pcs true ++ (sg false 41 :: rest)) := by simp
      rw [this]
      exact good_cons (sg_ok _ _ (by simp) _) (good_cons (sg_ok _ _ (by simp) _) (ih h _ _ (close _ hr) (f41 _)))
  | not a ih =>
    intro h sp rest hr hf
    unfold Ex.pcs
    have : [sg sp 40, wordP false [110, 111, 116]] ++ a.pcs true ++ [sg false 41] ++ rest = sg sp 40 :: wordP false [110, 111, 116] :: (a.pcs true ++ (sg false 41 :: rest)) := by simp
    rw [this]
    exact good_cons (sg_ok _ _ (by simp) _) (good_cons (wordP_ok _ _ (by simp) _ (by rw [flat_sp a h]; exact .inr (.inl rfl))) (ih h _ _ (close _ hr) (f41 _)))
  | bin op a b iha ihb =>
    intro h sp rest hr hf
    unfold Ex.pcs
    obtain ⟨h1, h2, h3, ha, hb⟩ := h
    have : [sg sp 40] ++ a.pcs false ++ [opP op] ++ b.pcs true ++ [sg false 41] ++ rest = sg sp 40 :: (a.pcs false ++ (opP op :: (b.pcs true ++ (sg false 41 :: rest)))) := by simp
    rw [this]
    refine good_cons (sg_ok _ _ (by simp) _) (iha ha _ _ (good_cons ?_ (ihb hb _ _ (close _ hr) (f41 _))) (.inr (.inl rfl)))
    rw [flat_sp b hb]
    exact opP_ok op h1 h2 h3

set_option maxHeartbeats 4000000 in
set_option maxRecDepth 100000 in
theorem minus_num (g gs : Nat) (l : List S67) (e depth : Int) (t : S67) (ht : peekT l = t) (h3 : t.f0 = 3) (w0 w : World) (hI : Pst w0 w g gs l e) (hB : Below w0.heap.size w0 w) :
    Calls Tryd.prog 66 #[.pointer (some ⟨g, 0, none⟩), .int .i64 depth] w (PPost w0 w g gs [conNode 1 (wrap64 (-t.f2)) ⟨#[]⟩ false] (nextT l) e) := by
  have HI0 := As.mk hI
  have HB0 := As.mk hB
  have HLe := As.mk hB.size
  have HT := As.mk ht
  have hp0 : w.cell? ⟨g, 0, none⟩ = some (.pointer (some ⟨gs, 0, none⟩)) := (blk_cell hI.p 0).trans rfl
  have hz : (t.f0 == 3) = true := by simp [h3]
  clear hI hB ht h3
  go_enter Tryd.func66, Tryd.ntmps66
  go_wp2_with (first
    | (go_at_call 44; (with_reducible refine (peek_calls gs l w0 _ HI0.out.s HB0.out).mono ?_); rintro e1 w3 ⟨rfl, hb⟩; have HI3 := As.mk (HI0.out.below hb); have HB3 := As.mk (bwS HB0.out hb); have HK3 := As.mk (show KP w w3 g gs from Kept.of_below hb _); clear hb; rw [HT.out])
    | ((with_reducible refine gate_dst (N := 5) rfl ?_); refine box_event ?hgg3 (N := 5) ?hdg3 (cs := #[.int .i64 0, .string (⟨#[]⟩ : ByteArray), .int .i64 0, .int .i64 0]) (t := 67) ?hrg3 ?_; (case hdg3 => rfl); (case hgg3 => rfl); (case hrg3 => first | (go_simp; done) | (go_simp; rfl)); intro g3 hg5 w4 hbx5 hbl5; have HI4 := As.mk (HI3.out.below hbl5); have HB4 := As.mk (bwS HB3.out hbl5); have HK4 := As.mk (kp_below HK3.out hbl5); have Y4 := As.mk hbx5; have HG3 := As.mk (show g3 ≠ g ∧ g3 ≠ gs ∧ w.heap.size ≤ g3 from ⟨by rw [hg5]; exact Nat.ne_of_gt HI3.out.lt, by rw [hg5]; exact Nat.ne_of_gt HI3.out.s.lt, by rw [hg5]; exact HK3.out.1⟩); clear hbx5 hbl5 hg5)
    | ((with_reducible refine gaS (t := 67) (p := 5) (v := .tmp 10) rfl ?_); refine row_event rfl 67 (.tmp 5) (.tmp 10) rfl g3 #[.int .i64 t.f0, .string t.f1, .int .i64 t.f2, .int .i64 t.f3] rfl rfl 67 _ Y4.out (by kernel_rfl) rfl (by simp [Value.oneCell']) rfl ?_; intro w5 hbut hb5; have HI5 := As.mk (HI4.out.but hbut (Ne.symm HG3.out.1) (Ne.symm HG3.out.2.1)); have HB5 := As.mk (hbut.below HB4.out (Nat.le_trans HLe.out HG3.out.2.2)); have HK5 := As.mk (kp_but HK4.out hbut HG3.out.2.2); have hk0 : w5.cell? ⟨g3, 0, none⟩ = some (.int .i64 t.f0) := (blk_cell hb5 0).trans rfl; have Y5 := As.mk hb5; have hp5 : w5.cell? ⟨g, 0, none⟩ = some (.pointer (some ⟨gs, 0, none⟩)) := (blk_cell HI5.out.p 0).trans rfl; clear hb5 hbut)
    | (go_at_call 45; (with_reducible refine (next_calls gs l w0 _ HI5.out.s HB5.out).mono ?_); rintro e1 w6 ⟨rfl, hi, hb, hk⟩; have HI6 := As.mk (HI5.out.src hi hk); have HB6 := As.mk hb; have HK6 := As.mk (kp_src HK5.out hk); have Y6 := As.mk (hk.blk Y5.out HG3.out.2.1 (by simp)); have hk2 : w6.cell? ⟨g3, 2, none⟩ = some (.int .i64 t.f2) := (blk_cell Y6.out 2).trans rfl; clear hi hb hk)
    | (go_at_call 63; (with_reducible refine (value_Num.calls _ _ _ _ _ _ rfl).mono ?_); rintro e1 w7 ⟨rfl, hb⟩; have HI7 := As.mk (HI6.out.below hb); have HB7 := As.mk (bwS HB6.out hb); have HK7 := As.mk (kp_below HK6.out hb); clear hb)
    | ((with_reducible refine gate_dst (N := 24) rfl ?_); refine lit_event rfl (N := 24) rfl (conNode 1 (wrap64 (-t.f2)) ⟨#[]⟩ false) ?hr24 ?_; (case hr24 => first | (go_simp; done) | (go_simp; rfl)); intro v8 w8 hr hb; have HR8 := As.mk (Kd.R_lower hr HK7.out.1); have HI8 := As.mk (HI7.out.below hb); have HB8 := As.mk (bwS HB7.out hb); have HK8 := As.mk (kp_below HK7.out hb); clear hr hb))
  go_ret
  exact ⟨_, rfl, HR8.out, HI8.out, HB8.out, HK8.out⟩

set_option maxHeartbeats 4000000 in
set_option maxRecDepth 100000 in
theorem minus_one (k : Nat) (hk : k ≤ 100000) (H1 : OneC k) (g gs : Nat) (l : List S67) (e depth : Int) (t : S67) (ht : peekT l = t) (h3 : t.f0 ≠ 3) (r : List S53 × List S67 × Int) (hd0 : 0 ≤ depth) (hd1 : depth ≤ 140) (h : oneF k (depth + 1) l e = some r) (w0 w : World) (hI : Pst w0 w g gs l e) (hB : Below w0.heap.size w0 w) :
    Calls Tryd.prog 66 #[.pointer (some ⟨g, 0, none⟩), .int .i64 depth] w (PPost w0 w g gs (r.1 ++ [opNode 3]) r.2.1 r.2.2) := by
  have HI0 := As.mk hI
  have HB0 := As.mk hB
  have HLe := As.mk hB.size
  have HT := As.mk ht
  have HO := As.mk (fun (w1 : World) (i1 : Pst w0 w1 g gs l e) (b1 : Below w0.heap.size w0 w1) => H1 w0 w1 g gs l e (depth + 1) r i1 b1 (by omega) (by omega) h)
  have HLen := As.mk (show r.1.length < 1000000000 from by have := (len_all k).2.2.1 _ _ _ _ h; omega)
  have hp0 : w.cell? ⟨g, 0, none⟩ = some (.pointer (some ⟨gs, 0, none⟩)) := (blk_cell hI.p 0).trans rfl
  have hz : (t.f0 == 3) = false := by simp [h3]
  clear hI hB ht h3 H1 h hk
  go_enter Tryd.func66, Tryd.ntmps66
  go_wp2_with (first
    | (go_at_call 44; (with_reducible refine (peek_calls gs l w0 _ HI0.out.s HB0.out).mono ?_); rintro e1 w3 ⟨rfl, hb⟩; have HI3 := As.mk (HI0.out.below hb); have HB3 := As.mk (bwS HB0.out hb); have HK3 := As.mk (show KP w w3 g gs from Kept.of_below hb _); clear hb; rw [HT.out])
    | ((with_reducible refine gate_dst (N := 5) rfl ?_); refine box_event ?hgg3 (N := 5) ?hdg3 (cs := #[.int .i64 0, .string (⟨#[]⟩ : ByteArray), .int .i64 0, .int .i64 0]) (t := 67) ?hrg3 ?_; (case hdg3 => rfl); (case hgg3 => rfl); (case hrg3 => first | (go_simp; done) | (go_simp; rfl)); intro g3 hg5 w4 hbx5 hbl5; have HI4 := As.mk (HI3.out.below hbl5); have HB4 := As.mk (bwS HB3.out hbl5); have HK4 := As.mk (kp_below HK3.out hbl5); have Y4 := As.mk hbx5; have HG3 := As.mk (show g3 ≠ g ∧ g3 ≠ gs ∧ w.heap.size ≤ g3 from ⟨by rw [hg5]; exact Nat.ne_of_gt HI3.out.lt, by rw [hg5]; exact Nat.ne_of_gt HI3.out.s.lt, by rw [hg5]; exact HK3.out.1⟩); clear hbx5 hbl5 hg5)
    | ((with_reducible refine gaS (t := 67) (p := 5) (v := .tmp 10) rfl ?_); refine row_event rfl 67 (.tmp 5) (.tmp 10) rfl g3 #[.int .i64 t.f0, .string t.f1, .int .i64 t.f2, .int .i64 t.f3] rfl rfl 67 _ Y4.out (by kernel_rfl) rfl (by simp [Value.oneCell']) rfl ?_; intro w5 hbut hb5; have HI5 := As.mk (HI4.out.but hbut (Ne.symm HG3.out.1) (Ne.symm HG3.out.2.1)); have HB5 := As.mk (hbut.below HB4.out (Nat.le_trans HLe.out HG3.out.2.2)); have HK5 := As.mk (kp_but HK4.out hbut HG3.out.2.2); have hk0 : w5.cell? ⟨g3, 0, none⟩ = some (.int .i64 t.f0) := (blk_cell hb5 0).trans rfl; have Y5 := As.mk hb5; have hp5 : w5.cell? ⟨g, 0, none⟩ = some (.pointer (some ⟨gs, 0, none⟩)) := (blk_cell HI5.out.p 0).trans rfl; clear hb5 hbut)
    | (go_at_call 42; (with_reducible refine (HO.out _ HI5.out HB5.out).mono ?_); rintro e1 w6 ⟨v6, rfl, hr, hi, hb, hk⟩; have HR6 := As.mk (Kd.R_lower hr HK5.out.1); have HI6 := As.mk hi; have HB6 := As.mk hb; have HK6 := As.mk (kp_then HK5.out hk); clear hr hi hb hk)
    | ((with_reducible refine gaB (b := .append) (xs := #[.tmp 28, .tmp 30]) rfl ?_); at_builtin; refine app_event rfl (.tmp 28) (.tmp 30) rfl v6 r.1 (opNode 3) rfl rfl HR6.out HK6.out.1 HLen.out ?_; intro v7 w7 hr hg; have HR7 := As.mk hr; have HI7 := As.mk (HI6.out.grown hg HR6.out); have HB7 := As.mk (below_grownBy HB6.out hg (fun k e => Nat.le_trans HLe.out (Kd.R_base HR6.out k e))); have HK7 := As.mk (kp_grown HK6.out hg (fun k e => Kd.R_base HR6.out k e)); clear hr hg))
  go_ret
  exact ⟨_, rfl, HR7.out, HI7.out, HB7.out, HK7.out⟩

theorem minus_calls (k : Nat) (hk : k ≤ 100000) (H1 : OneC k) : MinusC (k + 1) := by
  intro w0 w g gs l e depth r hI hB h0 h1 h
  simp only [minusF] at h
  split at h
  · rename_i h3
    obtain rfl := Option.some.inj h
    exact minus_num g gs l e depth _ rfl h3 w0 w hI hB
  · rename_i h3
    obtain ⟨r1, hr1, h⟩ := Option.bind_eq_some_iff.mp h
    obtain rfl := Option.some.inj h
    exact minus_one k hk H1 g gs l e depth _ rfl h3 r1 h0 h1 hr1 w0 w hI hB

set_option maxHeartbeats 4000000 in
set_option maxRecDepth 100000 in
theorem one_num (g gs : Nat) (l : List S67) (e depth : Int) (hd0 : 0 ≤ depth) (hd1 : depth ≤ 140) (t : S67) (ht : peekT l = t) (h0 : t.f0 = 3) (w0 w : World) (hI : Pst w0 w g gs l e) (hB : Below w0.heap.size w0 w) :
    Calls Tryd.prog 42 #[.pointer (some ⟨g, 0, none⟩), .int .i64 depth] w (PPost w0 w g gs [conNode 1 t.f2 ⟨#[]⟩ false] (nextT l) e) := by
  have HI0 := As.mk hI
  have HB0 := As.mk hB
  have HLe := As.mk hB.size
  have HT := As.mk ht
  have hp0 : w.cell? ⟨g, 0, none⟩ = some (.pointer (some ⟨gs, 0, none⟩)) := (blk_cell hI.p 0).trans rfl
  have hdp : decide (140 < depth) = false := decide_eq_false (by omega)
  have hz3 : (t.f0 == 3) = true := by simp [h0]
  clear hI hB ht h0
  go_enter Tryd.func42, Tryd.ntmps42
  go_wp2_with (first
    | (go_at_call 45; (with_reducible refine (next_calls gs l w0 _ HI0.out.s HB0.out).mono ?_); rintro e1 w3 ⟨rfl, hi, hb, hk⟩; have HI3 := As.mk (HI0.out.src hi hk); have HB3 := As.mk hb; have HK3 := As.mk (kp_src (Kept.refl w (fun k => k = g ∨ k = gs)) hk); clear hi hb hk; rw [HT.out])
    | ((with_reducible refine gate_dst (N := 5) rfl ?_); refine box_event ?hgg3 (N := 5) ?hdg3 (cs := #[.int .i64 0, .string (⟨#[]⟩ : ByteArray), .int .i64 0, .int .i64 0]) (t := 67) ?hrg3 ?_; (case hdg3 => rfl); (case hgg3 => rfl); (case hrg3 => first | (go_simp; done) | (go_simp; rfl)); intro g3 hg5 w4 hbx5 hbl5; have HI4 := As.mk (HI3.out.below hbl5); have HB4 := As.mk (bwS HB3.out hbl5); have HK4 := As.mk (kp_below HK3.out hbl5); have Y4 := As.mk hbx5; have HG3 := As.mk (show g3 ≠ g ∧ g3 ≠ gs ∧ w.heap.size ≤ g3 from ⟨by rw [hg5]; exact Nat.ne_of_gt HI3.out.lt, by rw [hg5]; exact Nat.ne_of_gt HI3.out.s.lt, by rw [hg5]; exact HK3.out.1⟩); clear hbx5 hbl5 hg5)
    | ((with_reducible refine gaS (t := 67) (p := 5) (v := .tmp 16) rfl ?_); refine row_event rfl 67 (.tmp 5) (.tmp 16) rfl g3 #[.int .i64 t.f0, .string t.f1, .int .i64 t.f2, .int .i64 t.f3] rfl rfl 67 _ Y4.out (by kernel_rfl) rfl (by simp [Value.oneCell']) rfl ?_; intro w5 hbut hb5; have HI5 := As.mk (HI4.out.but hbut (Ne.symm HG3.out.1) (Ne.symm HG3.out.2.1)); have HB5 := As.mk (hbut.below HB4.out (Nat.le_trans HLe.out HG3.out.2.2)); have HK5 := As.mk (kp_but HK4.out hbut HG3.out.2.2); have hk0 : w5.cell? ⟨g3, 0, none⟩ = some (.int .i64 t.f0) := (blk_cell hb5 0).trans rfl; have hk1 : w5.cell? ⟨g3, 1, none⟩ = some (.string t.f1) := (blk_cell hb5 1).trans rfl; have hk2 : w5.cell? ⟨g3, 2, none⟩ = some (.int .i64 t.f2) := (blk_cell hb5 2).trans rfl; have Y5 := As.mk hb5; have hp5 : w5.cell? ⟨g, 0, none⟩ = some (.pointer (some ⟨gs, 0, none⟩)) := (blk_cell HI5.out.p 0).trans rfl; clear hb5 hbut)
    | (go_at_call 63; (with_reducible refine (value_Num.calls _ _ _ _ _ _ rfl).mono ?_); rintro e1 w7 ⟨rfl, hb⟩; have HI7 := As.mk (HI5.out.below hb); have HB7 := As.mk (bwS HB5.out hb); have HK7 := As.mk (kp_below HK5.out hb); clear hb)
    | ((with_reducible refine gate_dst (N := 25) rfl ?_); refine lit_event rfl (N := 25) rfl (conNode 1 t.f2 ⟨#[]⟩ false) ?hr25 ?_; (case hr25 => first | (go_simp; done) | (go_simp; rfl)); intro v8 w8 hr hb; have HR8 := As.mk (Kd.R_lower hr HK7.out.1); have HI8 := As.mk (HI7.out.below hb); have HB8 := As.mk (bwS HB7.out hb); have HK8 := As.mk (kp_below HK7.out hb); clear hr hb))
  go_ret
  exact ⟨_, rfl, HR8.out, HI8.out, HB8.out, HK8.out⟩

set_option maxHeartbeats 4000000 in
set_option maxRecDepth 100000 in
theorem one_str (g gs : Nat) (l : List S67) (e depth : Int) (hd0 : 0 ≤ depth) (hd1 : depth ≤ 140) (t : S67) (ht : peekT l = t) (h0 : t.f0 = 4) (w0 w : World) (hI : Pst w0 w g gs l e) (hB : Below w0.heap.size w0 w) :
    Calls Tryd.prog 42 #[.pointer (some ⟨g, 0, none⟩), .int .i64 depth] w (PPost w0 w g gs [conNode 2 0 t.f1 false] (nextT l) e) := by
  have HI0 := As.mk hI
  have HB0 := As.mk hB
  have HLe := As.mk hB.size
  have HT := As.mk ht
  have hp0 : w.cell? ⟨g, 0, none⟩ = some (.pointer (some ⟨gs, 0, none⟩)) := (blk_cell hI.p 0).trans rfl
  have hdp : decide (140 < depth) = false := decide_eq_false (by omega)
  have hz3 : (t.f0 == 3) = false := by simp [h0]
  have hz4 : (t.f0 == 4) = true := by simp [h0]
  clear hI hB ht h0
  go_enter Tryd.func42, Tryd.ntmps42
  go_wp2_with (first
    | (go_at_call 45; (with_reducible refine (next_calls gs l w0 _ HI0.out.s HB0.out).mono ?_); rintro e1 w3 ⟨rfl, hi, hb, hk⟩; have HI3 := As.mk (HI0.out.src hi hk); have HB3 := As.mk hb; have HK3 := As.mk (kp_src (Kept.refl w (fun k => k = g ∨ k = gs)) hk); clear hi hb hk; rw [HT.out])
    | ((with_reducible refine gate_dst (N := 5) rfl ?_); refine box_event ?hgg3 (N := 5) ?hdg3 (cs := #[.int .i64 0, .string (⟨#[]⟩ : ByteArray), .int .i64 0, .int .i64 0]) (t := 67) ?hrg3 ?_; (case hdg3 => rfl); (case hgg3 => rfl); (case hrg3 => first | (go_simp; done) | (go_simp; rfl)); intro g3 hg5 w4 hbx5 hbl5; have HI4 := As.mk (HI3.out.below hbl5); have HB4 := As.mk (bwS HB3.out hbl5); have HK4 := As.mk (kp_below HK3.out hbl5); have Y4 := As.mk hbx5; have HG3 := As.mk (show g3 ≠ g ∧ g3 ≠ gs ∧ w.heap.size ≤ g3 from ⟨by rw [hg5]; exact Nat.ne_of_gt HI3.out.lt, by rw [hg5]; exact Nat.ne_of_gt HI3.out.s.lt, by rw [hg5]; exact HK3.out.1⟩); clear hbx5 hbl5 hg5)
    | ((with_reducible refine gaS (t := 67) (p := 5) (v := .tmp 16) rfl ?_); refine row_event rfl 67 (.tmp 5) (.tmp 16) rfl g3 #[.int .i64 t.f0, .string t.f1, .int .i64 t.f2, .int .i64 t.f3] rfl rfl 67 _ Y4.out (by kernel_rfl) rfl (by simp [Value.oneCell']) rfl ?_; intro w5 hbut hb5; have HI5 := As.mk (HI4.out.but hbut (Ne.symm HG3.out.1) (Ne.symm HG3.out.2.1)); have HB5 := As.mk (hbut.below HB4.out (Nat.le_trans HLe.out HG3.out.2.2)); have HK5 := As.mk (kp_but HK4.out hbut HG3.out.2.2); have hk0 : w5.cell? ⟨g3, 0, none⟩ = some (.int .i64 t.f0) := (blk_cell hb5 0).trans rfl; have hk1 : w5.cell? ⟨g3, 1, none⟩ = some (.string t.f1) := (blk_cell hb5 1).trans rfl; have hk2 : w5.cell? ⟨g3, 2, none⟩ = some (.int .i64 t.f2) := (blk_cell hb5 2).trans rfl; have Y5 := As.mk hb5; have hp5 : w5.cell? ⟨g, 0, none⟩ = some (.pointer (some ⟨gs, 0, none⟩)) := (blk_cell HI5.out.p 0).trans rfl; clear hb5 hbut)
    | (go_at_call 64; (with_reducible refine (value_Text.calls _ _ _ _ _ _ rfl).mono ?_); rintro e1 w7 ⟨rfl, hb⟩; have HI7 := As.mk (HI5.out.below hb); have HB7 := As.mk (bwS HB5.out hb); have HK7 := As.mk (kp_below HK5.out hb); clear hb)
    | ((with_reducible refine gate_dst (N := 34) rfl ?_); refine lit_event rfl (N := 34) rfl (conNode 2 0 t.f1 false) ?hr34 ?_; (case hr34 => first | (go_simp; done) | (go_simp; rfl)); intro v8 w8 hr hb; have HR8 := As.mk (Kd.R_lower hr HK7.out.1); have HI8 := As.mk (HI7.out.below hb); have HB8 := As.mk (bwS HB7.out hb); have HK8 := As.mk (kp_below HK7.out hb); clear hr hb))
  go_ret
  exact ⟨_, rfl, HR8.out, HI8.out, HB8.out, HK8.out⟩

set_option maxHeartbeats 4000000 in
set_option maxRecDepth 100000 in
theorem one_tru (g gs : Nat) (l : List S67) (e depth : Int) (hd0 : 0 ≤ depth) (hd1 : depth ≤ 140) (t : S67) (ht : peekT l = t) (h0 : t.f0 = 2) (ht1 : t.f1 = ⟨#[116, 114, 117, 101]⟩) (w0 w : World) (hI : Pst w0 w g gs l e) (hB : Below w0.heap.size w0 w) :
    Calls Tryd.prog 42 #[.pointer (some ⟨g, 0, none⟩), .int .i64 depth] w (PPost w0 w g gs [conNode 3 0 ⟨#[]⟩ true] (nextT l) e) := by
  have HI0 := As.mk hI
  have HB0 := As.mk hB
  have HLe := As.mk hB.size
  have HT := As.mk ht
  have hp0 : w.cell? ⟨g, 0, none⟩ = some (.pointer (some ⟨gs, 0, none⟩)) := (blk_cell hI.p 0).trans rfl
  have hdp : decide (140 < depth) = false := decide_eq_false (by omega)
  have hz3 : (t.f0 == 3) = false := by simp [h0]
  have hz4 : (t.f0 == 4) = false := by simp [h0]
  have hz2 : (t.f0 == 2) = true := by simp [h0]
  have hx_tru : (t.f1.toList == [116, 114, 117, 101]) = true := by rw [ht1, ByteArray.toList_eq]; rfl
  have hx_fal : (t.f1.toList == [102, 97, 108, 115, 101]) = false := by rw [ht1, ByteArray.toList_eq]; rfl
  clear hI hB ht h0 ht1
  go_enter Tryd.func42, Tryd.ntmps42
  go_wp2_with (first
    | (go_at_call 45; (with_reducible refine (next_calls gs l w0 _ HI0.out.s HB0.out).mono ?_); rintro e1 w3 ⟨rfl, hi, hb, hk⟩; have HI3 := As.mk (HI0.out.src hi hk); have HB3 := As.mk hb; have HK3 := As.mk (kp_src (Kept.refl w (fun k => k = g ∨ k = gs)) hk); clear hi hb hk; rw [HT.out])
    | ((with_reducible refine gate_dst (N := 5) rfl ?_); refine box_event ?hgg3 (N := 5) ?hdg3 (cs := #[.int .i64 0, .string (⟨#[]⟩ : ByteArray), .int .i64 0, .int .i64 0]) (t := 67) ?hrg3 ?_; (case hdg3 => rfl); (case hgg3 => rfl); (case hrg3 => first | (go_simp; done) | (go_simp; rfl)); intro g3 hg5 w4 hbx5 hbl5; have HI4 := As.mk (HI3.out.below hbl5); have HB4 := As.mk (bwS HB3.out hbl5); have HK4 := As.mk (kp_below HK3.out hbl5); have Y4 := As.mk hbx5; have HG3 := As.mk (show g3 ≠ g ∧ g3 ≠ gs ∧ w.heap.size ≤ g3 from ⟨by rw [hg5]; exact Nat.ne_of_gt HI3.out.lt, by rw [hg5]; exact Nat.ne_of_gt HI3.out.s.lt, by rw [hg5]; exact HK3.out.1⟩); clear hbx5 hbl5 hg5)
    | ((with_reducible refine gaS (t := 67) (p := 5) (v := .tmp 16) rfl ?_); refine row_event rfl 67 (.tmp 5) (.tmp 16) rfl g3 #[.int .i64 t.f0, .string t.f1, .int .i64 t.f2, .int .i64 t.f3] rfl rfl 67 _ Y4.out (by kernel_rfl) rfl (by simp [Value.oneCell']) rfl ?_; intro w5 hbut hb5; have HI5 := As.mk (HI4.out.but hbut (Ne.symm HG3.out.1) (Ne.symm HG3.out.2.1)); have HB5 := As.mk (hbut.below HB4.out (Nat.le_trans HLe.out HG3.out.2.2)); have HK5 := As.mk (kp_but HK4.out hbut HG3.out.2.2); have hk0 : w5.cell? ⟨g3, 0, none⟩ = some (.int .i64 t.f0) := (blk_cell hb5 0).trans rfl; have hk1 : w5.cell? ⟨g3, 1, none⟩ = some (.string t.f1) := (blk_cell hb5 1).trans rfl; have hk2 : w5.cell? ⟨g3, 2, none⟩ = some (.int .i64 t.f2) := (blk_cell hb5 2).trans rfl; have Y5 := As.mk hb5; have hp5 : w5.cell? ⟨g, 0, none⟩ = some (.pointer (some ⟨gs, 0, none⟩)) := (blk_cell HI5.out.p 0).trans rfl; clear hb5 hbut)
    | (go_at_call 65; (with_reducible refine (value_Truth.calls _ _ _ _ _ _ rfl).mono ?_); rintro e1 w7 ⟨rfl, hb⟩; have HI7 := As.mk (HI5.out.below hb); have HB7 := As.mk (bwS HB5.out hb); have HK7 := As.mk (kp_below HK5.out hb); clear hb)
    | ((with_reducible refine gate_dst (N := 54) rfl ?_); refine lit_event rfl (N := 54) rfl (conNode 3 0 ⟨#[]⟩ true) ?hr54 ?_; (case hr54 => first | (go_simp; done) | (go_simp; rfl)); intro v8 w8 hr hb; have HR8 := As.mk (Kd.R_lower hr HK7.out.1); have HI8 := As.mk (HI7.out.below hb); have HB8 := As.mk (bwS HB7.out hb); have HK8 := As.mk (kp_below HK7.out hb); clear hr hb))
  go_ret
  exact ⟨_, rfl, HR8.out, HI8.out, HB8.out, HK8.out⟩

set_option maxHeartbeats 4000000 in
set_option maxRecDepth 100000 in
theorem one_fal (g gs : Nat) (l : List S67) (e depth : Int) (hd0 : 0 ≤ depth) (hd1 : depth ≤ 140) (t : S67) (ht : peekT l = t) (h0 : t.f0 = 2) (ht1 : t.f1 = ⟨#[102, 97, 108, 115, 101]⟩) (w0 w : World) (hI : Pst w0 w g gs l e) (hB : Below w0.heap.size w0 w) :
    Calls Tryd.prog 42 #[.pointer (some ⟨g, 0, none⟩), .int .i64 depth] w (PPost w0 w g gs [conNode 3 0 ⟨#[]⟩ false] (nextT l) e) := by
  have HI0 := As.mk hI
  have HB0 := As.mk hB
  have HLe := As.mk hB.size
  have HT := As.mk ht
  have hp0 : w.cell? ⟨g, 0, none⟩ = some (.pointer (some ⟨gs, 0, none⟩)) := (blk_cell hI.p 0).trans rfl
  have hdp : decide (140 < depth) = false := decide_eq_false (by omega)
  have hz3 : (t.f0 == 3) = false := by simp [h0]
  have hz4 : (t.f0 == 4) = false := by simp [h0]
  have hz2 : (t.f0 == 2) = true := by simp [h0]
  have hx_tru : (t.f1.toList == [116, 114, 117, 101]) = false := by rw [ht1, ByteArray.toList_eq]; rfl
  have hx_fal : (t.f1.toList == [102, 97, 108, 115, 101]) = true := by rw [ht1, ByteArray.toList_eq]; rfl
  clear hI hB ht h0 ht1
  go_enter Tryd.func42, Tryd.ntmps42
  go_wp2_with (first
    | (go_at_call 45; (with_reducible refine (next_calls gs l w0 _ HI0.out.s HB0.out).mono ?_); rintro e1 w3 ⟨rfl, hi, hb, hk⟩; have HI3 := As.mk (HI0.out.src hi hk); have HB3 := As.mk hb; have HK3 := As.mk (kp_src (Kept.refl w (fun k => k = g ∨ k = gs)) hk); clear hi hb hk; rw [HT.out])
    | ((with_reducible refine gate_dst (N := 5) rfl ?_); refine box_event ?hgg3 (N := 5) ?hdg3 (cs := #[.int .i64 0, .string (⟨#[]⟩ : ByteArray), .int .i64 0, .int .i64 0]) (t := 67) ?hrg3 ?_; (case hdg3 => rfl); (case hgg3 => rfl); (case hrg3 => first | (go_simp; done) | (go_simp; rfl)); intro g3 hg5 w4 hbx5 hbl5; have HI4 := As.mk (HI3.out.below hbl5); have HB4 := As.mk (bwS HB3.out hbl5); have HK4 := As.mk (kp_below HK3.out hbl5); have Y4 := As.mk hbx5; have HG3 := As.mk (show g3 ≠ g ∧ g3 ≠ gs ∧ w.heap.size ≤ g3 from ⟨by rw [hg5]; exact Nat.ne_of_gt HI3.out.lt, by rw [hg5]; exact Nat.ne_of_gt HI3.out.s.lt, by rw [hg5]; exact HK3.out.1⟩); clear hbx5 hbl5 hg5)
    | ((with_reducible refine gaS (t := 67) (p := 5) (v := .tmp 16) rfl ?_); refine row_event rfl 67 (.tmp 5) (.tmp 16) rfl g3 #[.int .i64 t.f0, .string t.f1, .int .i64 t.f2, .int .i64 t.f3] rfl rfl 67 _ Y4.out (by kernel_rfl) rfl (by simp [Value.oneCell']) rfl ?_; intro w5 hbut hb5; have HI5 := As.mk (HI4.out.but hbut (Ne.symm HG3.out.1) (Ne.symm HG3.out.2.1)); have HB5 := As.mk (hbut.below HB4.out (Nat.le_trans HLe.out HG3.out.2.2)); have HK5 := As.mk (kp_but HK4.out hbut HG3.out.2.2); have hk0 : w5.cell? ⟨g3, 0, none⟩ = some (.int .i64 t.f0) := (blk_cell hb5 0).trans rfl; have hk1 : w5.cell? ⟨g3, 1, none⟩ = some (.string t.f1) := (blk_cell hb5 1).trans rfl; have hk2 : w5.cell? ⟨g3, 2, none⟩ = some (.int .i64 t.f2) := (blk_cell hb5 2).trans rfl; have Y5 := As.mk hb5; have hp5 : w5.cell? ⟨g, 0, none⟩ = some (.pointer (some ⟨gs, 0, none⟩)) := (blk_cell HI5.out.p 0).trans rfl; clear hb5 hbut)
    | (go_at_call 65; (with_reducible refine (value_Truth.calls _ _ _ _ _ _ rfl).mono ?_); rintro e1 w7 ⟨rfl, hb⟩; have HI7 := As.mk (HI5.out.below hb); have HB7 := As.mk (bwS HB5.out hb); have HK7 := As.mk (kp_below HK5.out hb); clear hb)
    | ((with_reducible refine gate_dst (N := 54) rfl ?_); refine lit_event rfl (N := 54) rfl (conNode 3 0 ⟨#[]⟩ false) ?hr54 ?_; (case hr54 => first | (go_simp; done) | (go_simp; rfl)); intro v8 w8 hr hb; have HR8 := As.mk (Kd.R_lower hr HK7.out.1); have HI8 := As.mk (HI7.out.below hb); have HB8 := As.mk (bwS HB7.out hb); have HK8 := As.mk (kp_below HK7.out hb); clear hr hb))
  go_ret
  exact ⟨_, rfl, HR8.out, HI8.out, HB8.out, HK8.out⟩

set_option maxHeartbeats 4000000 in
set_option maxRecDepth 100000 in
theorem one_not (k : Nat) (hk : k ≤ 100000) (H1 : LevelC k) (r : List S53 × List S67 × Int) (g gs : Nat) (l : List S67) (e depth : Int) (hd0 : 0 ≤ depth) (hd1 : depth ≤ 140) (t : S67) (ht : peekT l = t) (h0 : t.f0 = 2) (ht1 : t.f1 = ⟨#[110, 111, 116]⟩) (h : levelF k 3 (depth + 1) (nextT l) e = some r) (w0 w : World) (hI : Pst w0 w g gs l e) (hB : Below w0.heap.size w0 w) :
    Calls Tryd.prog 42 #[.pointer (some ⟨g, 0, none⟩), .int .i64 depth] w (PPost w0 w g gs (r.1 ++ [opNode 13]) r.2.1 r.2.2) := by
  have HI0 := As.mk hI
  have HB0 := As.mk hB
  have HLe := As.mk hB.size
  have HT := As.mk ht
  have hp0 : w.cell? ⟨g, 0, none⟩ = some (.pointer (some ⟨gs, 0, none⟩)) := (blk_cell hI.p 0).trans rfl
  have hdp : decide (140 < depth) = false := decide_eq_false (by omega)
  have HO := As.mk (fun (w1 : World) (i1 : Pst w0 w1 g gs (nextT l) e) (b1 : Below w0.heap.size w0 w1) => H1 w0 w1 g gs (nextT l) e 3 (depth + 1) r i1 b1 (by omega) (by omega) h)
  have HLen := As.mk (show r.1.length < 1000000000 from by have := (len_all k).1 _ _ _ _ _ h; omega)
  clear H1 h hk
  have hz3 : (t.f0 == 3) = false := by simp [h0]
  have hz4 : (t.f0 == 4) = false := by simp [h0]
  have hz2 : (t.f0 == 2) = true := by simp [h0]
  have hx_tru : (t.f1.toList == [116, 114, 117, 101]) = false := by rw [ht1, ByteArray.toList_eq]; rfl
  have hx_fal : (t.f1.toList == [102, 97, 108, 115, 101]) = false := by rw [ht1, ByteArray.toList_eq]; rfl
  have hx_nt : (t.f1.toList == [110, 111, 116]) = true := by rw [ht1, ByteArray.toList_eq]; rfl
  clear hI hB ht h0 ht1
  go_enter Tryd.func42, Tryd.ntmps42
  go_wp2_with (first
    | (go_at_call 45; (with_reducible refine (next_calls gs l w0 _ HI0.out.s HB0.out).mono ?_); rintro e1 w3 ⟨rfl, hi, hb, hk⟩; have HI3 := As.mk (HI0.out.src hi hk); have HB3 := As.mk hb; have HK3 := As.mk (kp_src (Kept.refl w (fun k => k = g ∨ k = gs)) hk); clear hi hb hk; rw [HT.out])
    | ((with_reducible refine gate_dst (N := 5) rfl ?_); refine box_event ?hgg3 (N := 5) ?hdg3 (cs := #[.int .i64 0, .string (⟨#[]⟩ : ByteArray), .int .i64 0, .int .i64 0]) (t := 67) ?hrg3 ?_; (case hdg3 => rfl); (case hgg3 => rfl); (case hrg3 => first | (go_simp; done) | (go_simp; rfl)); intro g3 hg5 w4 hbx5 hbl5; have HI4 := As.mk (HI3.out.below hbl5); have HB4 := As.mk (bwS HB3.out hbl5); have HK4 := As.mk (kp_below HK3.out hbl5); have Y4 := As.mk hbx5; have HG3 := As.mk (show g3 ≠ g ∧ g3 ≠ gs ∧ w.heap.size ≤ g3 from ⟨by rw [hg5]; exact Nat.ne_of_gt HI3.out.lt, by rw [hg5]; exact Nat.ne_of_gt HI3.out.s.lt, by rw [hg5]; exact HK3.out.1⟩); clear hbx5 hbl5 hg5)
    | ((with_reducible refine gaS (t := 67) (p := 5) (v := .tmp 16) rfl ?_); refine row_event rfl 67 (.tmp 5) (.tmp 16) rfl g3 #[.int .i64 t.f0, .string t.f1, .int .i64 t.f2, .int .i64 t.f3] rfl rfl 67 _ Y4.out (by kernel_rfl) rfl (by simp [Value.oneCell']) rfl ?_; intro w5 hbut hb5; have HI5 := As.mk (HI4.out.but hbut (Ne.symm HG3.out.1) (Ne.symm HG3.out.2.1)); have HB5 := As.mk (hbut.below HB4.out (Nat.le_trans HLe.out HG3.out.2.2)); have HK5 := As.mk (kp_but HK4.out hbut HG3.out.2.2); have hk0 : w5.cell? ⟨g3, 0, none⟩ = some (.int .i64 t.f0) := (blk_cell hb5 0).trans rfl; have hk1 : w5.cell? ⟨g3, 1, none⟩ = some (.string t.f1) := (blk_cell hb5 1).trans rfl; have hk2 : w5.cell? ⟨g3, 2, none⟩ = some (.int .i64 t.f2) := (blk_cell hb5 2).trans rfl; have Y5 := As.mk hb5; have hp5 : w5.cell? ⟨g, 0, none⟩ = some (.pointer (some ⟨gs, 0, none⟩)) := (blk_cell HI5.out.p 0).trans rfl; clear hb5 hbut)
    | (go_at_call 29; (with_reducible refine (HO.out _ HI5.out HB5.out).mono ?_); rintro e1 w6 ⟨v6, rfl, hr, hi, hb, hk⟩; have HR6 := As.mk (Kd.R_lower hr HK5.out.1); have HI6 := As.mk hi; have HB6 := As.mk hb; have HK6 := As.mk (kp_then HK5.out hk); clear hr hi hb hk)
    | ((with_reducible refine gaB (b := .append) (xs := #[.tmp 67, .tmp 69]) rfl ?_); at_builtin; refine app_event rfl (.tmp 67) (.tmp 69) rfl v6 r.1 (opNode 13) rfl rfl HR6.out HK6.out.1 HLen.out ?_; intro v8 w8 hr hg; have HR8 := As.mk hr; have HI8 := As.mk (HI6.out.grown hg HR6.out); have HB8 := As.mk (below_grownBy HB6.out hg (fun k e => Nat.le_trans HLe.out (Kd.R_base HR6.out k e))); have HK8 := As.mk (kp_grown HK6.out hg (fun k e => Kd.R_base HR6.out k e)); clear hr hg))
  go_ret
  exact ⟨_, rfl, HR8.out, HI8.out, HB8.out, HK8.out⟩

set_option maxHeartbeats 4000000 in
set_option maxRecDepth 100000 in
theorem one_word (g gs : Nat) (l : List S67) (e depth : Int) (hd0 : 0 ≤ depth) (hd1 : depth ≤ 140) (t : S67) (ht : peekT l = t) (h0 : t.f0 = 2) (hs_tru : t.f1 ≠ ⟨#[116, 114, 117, 101]⟩) (hs_fal : t.f1 ≠ ⟨#[102, 97, 108, 115, 101]⟩) (hs_nt : t.f1 ≠ ⟨#[110, 111, 116]⟩) (w0 w : World) (hI : Pst w0 w g gs l e) (hB : Below w0.heap.size w0 w) :
    Calls Tryd.prog 42 #[.pointer (some ⟨g, 0, none⟩), .int .i64 depth] w (PPost w0 w g gs [] (nextT l) (wr e 2)) := by
  have HI0 := As.mk hI
  have HB0 := As.mk hB
  have HLe := As.mk hB.size
  have HT := As.mk ht
  have hp0 : w.cell? ⟨g, 0, none⟩ = some (.pointer (some ⟨gs, 0, none⟩)) := (blk_cell hI.p 0).trans rfl
  have hdp : decide (140 < depth) = false := decide_eq_false (by omega)
  have hz3 : (t.f0 == 3) = false := by simp [h0]
  have hz4 : (t.f0 == 4) = false := by simp [h0]
  have hz2 : (t.f0 == 2) = true := by simp [h0]
  have hz5 : (t.f0 == 5) = false := by simp [h0]
  have hz1 : (t.f0 == 1) = false := by simp [h0]
  have hx_tru : (t.f1.toList == [116, 114, 117, 101]) = false := by rw [beq_eq_false_iff_ne]; exact fun h => hs_tru (bytes_eq (h.trans (by rw [ByteArray.toList_eq])))
  have hx_fal : (t.f1.toList == [102, 97, 108, 115, 101]) = false := by rw [beq_eq_false_iff_ne]; exact fun h => hs_fal (bytes_eq (h.trans (by rw [ByteArray.toList_eq])))
  have hx_nt : (t.f1.toList == [110, 111, 116]) = false := by rw [beq_eq_false_iff_ne]; exact fun h => hs_nt (bytes_eq (h.trans (by rw [ByteArray.toList_eq])))
  clear hI hB ht h0 hs_tru hs_fal hs_nt
  go_enter Tryd.func42, Tryd.ntmps42
  go_wp2_with (first
    | (go_at_call 45; (with_reducible refine (next_calls gs l w0 _ HI0.out.s HB0.out).mono ?_); rintro e1 w3 ⟨rfl, hi, hb, hk⟩; have HI3 := As.mk (HI0.out.src hi hk); have HB3 := As.mk hb; have HK3 := As.mk (kp_src (Kept.refl w (fun k => k = g ∨ k = gs)) hk); clear hi hb hk; rw [HT.out])
    | ((with_reducible refine gate_dst (N := 5) rfl ?_); refine box_event ?hgg3 (N := 5) ?hdg3 (cs := #[.int .i64 0, .string (⟨#[]⟩ : ByteArray), .int .i64 0, .int .i64 0]) (t := 67) ?hrg3 ?_; (case hdg3 => rfl); (case hgg3 => rfl); (case hrg3 => first | (go_simp; done) | (go_simp; rfl)); intro g3 hg5 w4 hbx5 hbl5; have HI4 := As.mk (HI3.out.below hbl5); have HB4 := As.mk (bwS HB3.out hbl5); have HK4 := As.mk (kp_below HK3.out hbl5); have Y4 := As.mk hbx5; have HG3 := As.mk (show g3 ≠ g ∧ g3 ≠ gs ∧ w.heap.size ≤ g3 from ⟨by rw [hg5]; exact Nat.ne_of_gt HI3.out.lt, by rw [hg5]; exact Nat.ne_of_gt HI3.out.s.lt, by rw [hg5]; exact HK3.out.1⟩); clear hbx5 hbl5 hg5)
    | ((with_reducible refine gaS (t := 67) (p := 5) (v := .tmp 16) rfl ?_); refine row_event rfl 67 (.tmp 5) (.tmp 16) rfl g3 #[.int .i64 t.f0, .string t.f1, .int .i64 t.f2, .int .i64 t.f3] rfl rfl 67 _ Y4.out (by kernel_rfl) rfl (by simp [Value.oneCell']) rfl ?_; intro w5 hbut hb5; have HI5 := As.mk (HI4.out.but hbut (Ne.symm HG3.out.1) (Ne.symm HG3.out.2.1)); have HB5 := As.mk (hbut.below HB4.out (Nat.le_trans HLe.out HG3.out.2.2)); have HK5 := As.mk (kp_but HK4.out hbut HG3.out.2.2); have hk0 : w5.cell? ⟨g3, 0, none⟩ = some (.int .i64 t.f0) := (blk_cell hb5 0).trans rfl; have hk1 : w5.cell? ⟨g3, 1, none⟩ = some (.string t.f1) := (blk_cell hb5 1).trans rfl; have hk2 : w5.cell? ⟨g3, 2, none⟩ = some (.int .i64 t.f2) := (blk_cell hb5 2).trans rfl; have Y5 := As.mk hb5; have hp5 : w5.cell? ⟨g, 0, none⟩ = some (.pointer (some ⟨gs, 0, none⟩)) := (blk_cell HI5.out.p 0).trans rfl; clear hb5 hbut)
    | (go_at_call 41; (with_reducible refine (wrong_calls g gs (nextT l) e 2 w0 _ HI5.out HB5.out).mono ?_); rintro e1 w9 ⟨rfl, hi, hb, hk⟩; have HI9 := As.mk hi; have HB9 := As.mk hb; have HK9 := As.mk (kp_then HK5.out hk); clear hi hb hk))
  go_ret
  exact ⟨_, rfl, Kd.R_nil _ _ _ _ _, HI9.out, HB9.out, HK9.out⟩

set_option maxHeartbeats 4000000 in
set_option maxRecDepth 100000 in
theorem one_minus (k : Nat) (H1 : MinusC k) (r : List S53 × List S67 × Int) (g gs : Nat) (l : List S67) (e depth : Int) (hd0 : 0 ≤ depth) (hd1 : depth ≤ 140) (t : S67) (ht : peekT l = t) (h0 : t.f0 = 5) (ht1 : t.f1 = ⟨#[45]⟩) (h : minusF k depth (nextT l) e = some r) (w0 w : World) (hI : Pst w0 w g gs l e) (hB : Below w0.heap.size w0 w) :
    Calls Tryd.prog 42 #[.pointer (some ⟨g, 0, none⟩), .int .i64 depth] w (PPost w0 w g gs r.1 r.2.1 r.2.2) := by
  have HI0 := As.mk hI
  have HB0 := As.mk hB
  have HLe := As.mk hB.size
  have HT := As.mk ht
  have hp0 : w.cell? ⟨g, 0, none⟩ = some (.pointer (some ⟨gs, 0, none⟩)) := (blk_cell hI.p 0).trans rfl
  have hdp : decide (140 < depth) = false := decide_eq_false (by omega)
  have HO := As.mk (fun (w1 : World) (i1 : Pst w0 w1 g gs (nextT l) e) (b1 : Below w0.heap.size w0 w1) => H1 w0 w1 g gs (nextT l) e depth r i1 b1 (by omega) (by omega) h)
  clear H1 h
  have hz3 : (t.f0 == 3) = false := by simp [h0]
  have hz4 : (t.f0 == 4) = false := by simp [h0]
  have hz2 : (t.f0 == 2) = false := by simp [h0]
  have hz5 : (t.f0 == 5) = true := by simp [h0]
  have hx_mi : (t.f1.toList == [45]) = true := by rw [ht1, ByteArray.toList_eq]; rfl
  clear hI hB ht h0 ht1
  go_enter Tryd.func42, Tryd.ntmps42
  go_wp2_with (first
    | (go_at_call 45; (with_reducible refine (next_calls gs l w0 _ HI0.out.s HB0.out).mono ?_); rintro e1 w3 ⟨rfl, hi, hb, hk⟩; have HI3 := As.mk (HI0.out.src hi hk); have HB3 := As.mk hb; have HK3 := As.mk (kp_src (Kept.refl w (fun k => k = g ∨ k = gs)) hk); clear hi hb hk; rw [HT.out])
    | ((with_reducible refine gate_dst (N := 5) rfl ?_); refine box_event ?hgg3 (N := 5) ?hdg3 (cs := #[.int .i64 0, .string (⟨#[]⟩ : ByteArray), .int .i64 0, .int .i64 0]) (t := 67) ?hrg3 ?_; (case hdg3 => rfl); (case hgg3 => rfl); (case hrg3 => first | (go_simp; done) | (go_simp; rfl)); intro g3 hg5 w4 hbx5 hbl5; have HI4 := As.mk (HI3.out.below hbl5); have HB4 := As.mk (bwS HB3.out hbl5); have HK4 := As.mk (kp_below HK3.out hbl5); have Y4 := As.mk hbx5; have HG3 := As.mk (show g3 ≠ g ∧ g3 ≠ gs ∧ w.heap.size ≤ g3 from ⟨by rw [hg5]; exact Nat.ne_of_gt HI3.out.lt, by rw [hg5]; exact Nat.ne_of_gt HI3.out.s.lt, by rw [hg5]; exact HK3.out.1⟩); clear hbx5 hbl5 hg5)
    | ((with_reducible refine gaS (t := 67) (p := 5) (v := .tmp 16) rfl ?_); refine row_event rfl 67 (.tmp 5) (.tmp 16) rfl g3 #[.int .i64 t.f0, .string t.f1, .int .i64 t.f2, .int .i64 t.f3] rfl rfl 67 _ Y4.out (by kernel_rfl) rfl (by simp [Value.oneCell']) rfl ?_; intro w5 hbut hb5; have HI5 := As.mk (HI4.out.but hbut (Ne.symm HG3.out.1) (Ne.symm HG3.out.2.1)); have HB5 := As.mk (hbut.below HB4.out (Nat.le_trans HLe.out HG3.out.2.2)); have HK5 := As.mk (kp_but HK4.out hbut HG3.out.2.2); have hk0 : w5.cell? ⟨g3, 0, none⟩ = some (.int .i64 t.f0) := (blk_cell hb5 0).trans rfl; have hk1 : w5.cell? ⟨g3, 1, none⟩ = some (.string t.f1) := (blk_cell hb5 1).trans rfl; have hk2 : w5.cell? ⟨g3, 2, none⟩ = some (.int .i64 t.f2) := (blk_cell hb5 2).trans rfl; have Y5 := As.mk hb5; have hp5 : w5.cell? ⟨g, 0, none⟩ = some (.pointer (some ⟨gs, 0, none⟩)) := (blk_cell HI5.out.p 0).trans rfl; clear hb5 hbut)
    | (go_at_call 66; (with_reducible refine (HO.out _ HI5.out HB5.out).mono ?_); rintro e1 w6 ⟨v6, rfl, hr, hi, hb, hk⟩; have HR6 := As.mk (Kd.R_lower hr HK5.out.1); have HI6 := As.mk hi; have HB6 := As.mk hb; have HK6 := As.mk (kp_then HK5.out hk); clear hr hi hb hk))
  go_ret
  exact ⟨_, rfl, HR6.out, HI6.out, HB6.out, HK6.out⟩

set_option maxHeartbeats 4000000 in
set_option maxRecDepth 100000 in
theorem one_par_yes (k : Nat) (hk : k ≤ 100000) (H1 : LevelC k) (r : List S53 × List S67 × Int) (g gs : Nat) (l : List S67) (e depth : Int) (hd0 : 0 ≤ depth) (hd1 : depth ≤ 140) (t : S67) (ht : peekT l = t) (h0 : t.f0 = 5) (ht1 : t.f1 = ⟨#[40]⟩) (h : levelF k 1 (depth + 1) (nextT l) e = some r) (hq : isB r.2.1 5 ⟨#[41]⟩ = true) (w0 w : World) (hI : Pst w0 w g gs l e) (hB : Below w0.heap.size w0 w) :
    Calls Tryd.prog 42 #[.pointer (some ⟨g, 0, none⟩), .int .i64 depth] w (PPost w0 w g gs r.1 (nextT r.2.1) r.2.2) := by
  have HI0 := As.mk hI
  have HB0 := As.mk hB
  have HLe := As.mk hB.size
  have HT := As.mk ht
  have hp0 : w.cell? ⟨g, 0, none⟩ = some (.pointer (some ⟨gs, 0, none⟩)) := (blk_cell hI.p 0).trans rfl
  have hdp : decide (140 < depth) = false := decide_eq_false (by omega)
  have HO := As.mk (fun (w1 : World) (i1 : Pst w0 w1 g gs (nextT l) e) (b1 : Below w0.heap.size w0 w1) => H1 w0 w1 g gs (nextT l) e 1 (depth + 1) r i1 b1 (by omega) (by omega) h)
  have HLen := As.mk (show r.1.length < 1000000000 from by have := (len_all k).1 _ _ _ _ _ h; omega)
  clear H1 h hk
  have HQ := As.mk hq
  have hz3 : (t.f0 == 3) = false := by simp [h0]
  have hz4 : (t.f0 == 4) = false := by simp [h0]
  have hz2 : (t.f0 == 2) = false := by simp [h0]
  have hz5 : (t.f0 == 5) = true := by simp [h0]
  have hx_mi : (t.f1.toList == [45]) = false := by rw [ht1, ByteArray.toList_eq]; rfl
  have hx_pa : (t.f1.toList == [40]) = true := by rw [ht1, ByteArray.toList_eq]; rfl
  clear hI hB ht h0 ht1 hq
  go_enter Tryd.func42, Tryd.ntmps42
  go_wp2_with (first
    | (go_at_call 45; (with_reducible refine (next_calls gs l w0 _ HI0.out.s HB0.out).mono ?_); rintro e1 w3 ⟨rfl, hi, hb, hk⟩; have HI3 := As.mk (HI0.out.src hi hk); have HB3 := As.mk hb; have HK3 := As.mk (kp_src (Kept.refl w (fun k => k = g ∨ k = gs)) hk); clear hi hb hk; rw [HT.out])
    | ((with_reducible refine gate_dst (N := 5) rfl ?_); refine box_event ?hgg3 (N := 5) ?hdg3 (cs := #[.int .i64 0, .string (⟨#[]⟩ : ByteArray), .int .i64 0, .int .i64 0]) (t := 67) ?hrg3 ?_; (case hdg3 => rfl); (case hgg3 => rfl); (case hrg3 => first | (go_simp; done) | (go_simp; rfl)); intro g3 hg5 w4 hbx5 hbl5; have HI4 := As.mk (HI3.out.below hbl5); have HB4 := As.mk (bwS HB3.out hbl5); have HK4 := As.mk (kp_below HK3.out hbl5); have Y4 := As.mk hbx5; have HG3 := As.mk (show g3 ≠ g ∧ g3 ≠ gs ∧ w.heap.size ≤ g3 from ⟨by rw [hg5]; exact Nat.ne_of_gt HI3.out.lt, by rw [hg5]; exact Nat.ne_of_gt HI3.out.s.lt, by rw [hg5]; exact HK3.out.1⟩); clear hbx5 hbl5 hg5)
    | ((with_reducible refine gaS (t := 67) (p := 5) (v := .tmp 16) rfl ?_); refine row_event rfl 67 (.tmp 5) (.tmp 16) rfl g3 #[.int .i64 t.f0, .string t.f1, .int .i64 t.f2, .int .i64 t.f3] rfl rfl 67 _ Y4.out (by kernel_rfl) rfl (by simp [Value.oneCell']) rfl ?_; intro w5 hbut hb5; have HI5 := As.mk (HI4.out.but hbut (Ne.symm HG3.out.1) (Ne.symm HG3.out.2.1)); have HB5 := As.mk (hbut.below HB4.out (Nat.le_trans HLe.out HG3.out.2.2)); have HK5 := As.mk (kp_but HK4.out hbut HG3.out.2.2); have hk0 : w5.cell? ⟨g3, 0, none⟩ = some (.int .i64 t.f0) := (blk_cell hb5 0).trans rfl; have hk1 : w5.cell? ⟨g3, 1, none⟩ = some (.string t.f1) := (blk_cell hb5 1).trans rfl; have hk2 : w5.cell? ⟨g3, 2, none⟩ = some (.int .i64 t.f2) := (blk_cell hb5 2).trans rfl; have Y5 := As.mk hb5; have hp5 : w5.cell? ⟨g, 0, none⟩ = some (.pointer (some ⟨gs, 0, none⟩)) := (blk_cell HI5.out.p 0).trans rfl; clear hb5 hbut)
    | (go_at_call 29; (with_reducible refine (HO.out _ HI5.out HB5.out).mono ?_); rintro e1 w6 ⟨v6, rfl, hr, hi, hb, hk⟩; have HR6 := As.mk (Kd.R_lower hr HK5.out.1); have HI6 := As.mk hi; have HB6 := As.mk hb; have HK6 := As.mk (kp_then HK5.out hk); clear hr hi hb hk; have hp6 : w6.cell? ⟨g, 0, none⟩ = some (.pointer (some ⟨gs, 0, none⟩)) := (blk_cell HI6.out.p 0).trans rfl)
    | (go_at_call 52; (with_reducible refine (is_calls gs r.2.1 5 ⟨#[41]⟩ (by decide) w0 _ HI6.out.s HB6.out).mono ?_); rintro e1 w7 ⟨rfl, hi, hb, hk⟩; rw [HQ.out]; rw [HQ.out] at hi; have HI7 := As.mk (HI6.out.src hi hk); have HB7 := As.mk hb; have HK7 := As.mk (kp_src HK6.out hk); have HR7 := As.mk (row_src HR6.out HI6.out.s hk); clear hi hb hk))
  go_ret
  exact ⟨_, rfl, HR7.out, HI7.out, HB7.out, HK7.out⟩

set_option maxHeartbeats 4000000 in
set_option maxRecDepth 100000 in
theorem one_par_no (k : Nat) (hk : k ≤ 100000) (H1 : LevelC k) (r : List S53 × List S67 × Int) (g gs : Nat) (l : List S67) (e depth : Int) (hd0 : 0 ≤ depth) (hd1 : depth ≤ 140) (t : S67) (ht : peekT l = t) (h0 : t.f0 = 5) (ht1 : t.f1 = ⟨#[40]⟩) (h : levelF k 1 (depth + 1) (nextT l) e = some r) (hq : isB r.2.1 5 ⟨#[41]⟩ = false) (w0 w : World) (hI : Pst w0 w g gs l e) (hB : Below w0.heap.size w0 w) :
    Calls Tryd.prog 42 #[.pointer (some ⟨g, 0, none⟩), .int .i64 depth] w (PPost w0 w g gs [] r.2.1 (wr r.2.2 2)) := by
  have HI0 := As.mk hI
  have HB0 := As.mk hB
  have HLe := As.mk hB.size
  have HT := As.mk ht
  have hp0 : w.cell? ⟨g, 0, none⟩ = some (.pointer (some ⟨gs, 0, none⟩)) := (blk_cell hI.p 0).trans rfl
  have hdp : decide (140 < depth) = false := decide_eq_false (by omega)
  have HO := As.mk (fun (w1 : World) (i1 : Pst w0 w1 g gs (nextT l) e) (b1 : Below w0.heap.size w0 w1) => H1 w0 w1 g gs (nextT l) e 1 (depth + 1) r i1 b1 (by omega) (by omega) h)
  have HLen := As.mk (show r.1.length < 1000000000 from by have := (len_all k).1 _ _ _ _ _ h; omega)
  clear H1 h hk
  have HQ := As.mk hq
  have hz3 : (t.f0 == 3) = false := by simp [h0]
  have hz4 : (t.f0 == 4) = false := by simp [h0]
  have hz2 : (t.f0 == 2) = false := by simp [h0]
  have hz5 : (t.f0 == 5) = true := by simp [h0]
  have hx_mi : (t.f1.toList == [45]) = false := by rw [ht1, ByteArray.toList_eq]; rfl
  have hx_pa : (t.f1.toList == [40]) = true := by rw [ht1, ByteArray.toList_eq]; rfl
  clear hI hB ht h0 ht1 hq
  go_enter Tryd.func42, Tryd.ntmps42
  go_wp2_with (first
    | (go_at_call 45; (with_reducible refine (next_calls gs l w0 _ HI0.out.s HB0.out).mono ?_); rintro e1 w3 ⟨rfl, hi, hb, hk⟩; have HI3 := As.mk (HI0.out.src hi hk); have HB3 := As.mk hb; have HK3 := As.mk (kp_src (Kept.refl w (fun k => k = g ∨ k = gs)) hk); clear hi hb hk; rw [HT.out])
    | ((with_reducible refine gate_dst (N := 5) rfl ?_); refine box_event ?hgg3 (N := 5) ?hdg3 (cs := #[.int .i64 0, .string (⟨#[]⟩ : ByteArray), .int .i64 0, .int .i64 0]) (t := 67) ?hrg3 ?_; (case hdg3 => rfl); (case hgg3 => rfl); (case hrg3 => first | (go_simp; done) | (go_simp; rfl)); intro g3 hg5 w4 hbx5 hbl5; have HI4 := As.mk (HI3.out.below hbl5); have HB4 := As.mk (bwS HB3.out hbl5); have HK4 := As.mk (kp_below HK3.out hbl5); have Y4 := As.mk hbx5; have HG3 := As.mk (show g3 ≠ g ∧ g3 ≠ gs ∧ w.heap.size ≤ g3 from ⟨by rw [hg5]; exact Nat.ne_of_gt HI3.out.lt, by rw [hg5]; exact Nat.ne_of_gt HI3.out.s.lt, by rw [hg5]; exact HK3.out.1⟩); clear hbx5 hbl5 hg5)
    | ((with_reducible refine gaS (t := 67) (p := 5) (v := .tmp 16) rfl ?_); refine row_event rfl 67 (.tmp 5) (.tmp 16) rfl g3 #[.int .i64 t.f0, .string t.f1, .int .i64 t.f2, .int .i64 t.f3] rfl rfl 67 _ Y4.out (by kernel_rfl) rfl (by simp [Value.oneCell']) rfl ?_; intro w5 hbut hb5; have HI5 := As.mk (HI4.out.but hbut (Ne.symm HG3.out.1) (Ne.symm HG3.out.2.1)); have HB5 := As.mk (hbut.below HB4.out (Nat.le_trans HLe.out HG3.out.2.2)); have HK5 := As.mk (kp_but HK4.out hbut HG3.out.2.2); have hk0 : w5.cell? ⟨g3, 0, none⟩ = some (.int .i64 t.f0) := (blk_cell hb5 0).trans rfl; have hk1 : w5.cell? ⟨g3, 1, none⟩ = some (.string t.f1) := (blk_cell hb5 1).trans rfl; have hk2 : w5.cell? ⟨g3, 2, none⟩ = some (.int .i64 t.f2) := (blk_cell hb5 2).trans rfl; have Y5 := As.mk hb5; have hp5 : w5.cell? ⟨g, 0, none⟩ = some (.pointer (some ⟨gs, 0, none⟩)) := (blk_cell HI5.out.p 0).trans rfl; clear hb5 hbut)
    | (go_at_call 29; (with_reducible refine (HO.out _ HI5.out HB5.out).mono ?_); rintro e1 w6 ⟨v6, rfl, hr, hi, hb, hk⟩; have HR6 := As.mk (Kd.R_lower hr HK5.out.1); have HI6 := As.mk hi; have HB6 := As.mk hb; have HK6 := As.mk (kp_then HK5.out hk); clear hr hi hb hk; have hp6 : w6.cell? ⟨g, 0, none⟩ = some (.pointer (some ⟨gs, 0, none⟩)) := (blk_cell HI6.out.p 0).trans rfl)
    | (go_at_call 52; (with_reducible refine (is_calls gs r.2.1 5 ⟨#[41]⟩ (by decide) w0 _ HI6.out.s HB6.out).mono ?_); rintro e1 w7 ⟨rfl, hi, hb, hk⟩; rw [HQ.out]; rw [HQ.out] at hi; have HI7 := As.mk (HI6.out.src hi hk); have HB7 := As.mk hb; have HK7 := As.mk (kp_src HK6.out hk); clear hi hb hk)
    | (go_at_call 41; (with_reducible refine (wrong_calls g gs r.2.1 r.2.2 2 w0 _ HI7.out HB7.out).mono ?_); rintro e1 w9 ⟨rfl, hi, hb, hk⟩; have HI9 := As.mk hi; have HB9 := As.mk hb; have HK9 := As.mk (kp_then HK7.out hk); clear hi hb hk))
  go_ret
  exact ⟨_, rfl, Kd.R_nil _ _ _ _ _, HI9.out, HB9.out, HK9.out⟩

set_option maxHeartbeats 4000000 in
set_option maxRecDepth 100000 in
theorem one_sign (g gs : Nat) (l : List S67) (e depth : Int) (hd0 : 0 ≤ depth) (hd1 : depth ≤ 140) (t : S67) (ht : peekT l = t) (h0 : t.f0 = 5) (hs_mi : t.f1 ≠ ⟨#[45]⟩) (hs_pa : t.f1 ≠ ⟨#[40]⟩) (w0 w : World) (hI : Pst w0 w g gs l e) (hB : Below w0.heap.size w0 w) :
    Calls Tryd.prog 42 #[.pointer (some ⟨g, 0, none⟩), .int .i64 depth] w (PPost w0 w g gs [] (nextT l) (wr e 2)) := by
  have HI0 := As.mk hI
  have HB0 := As.mk hB
  have HLe := As.mk hB.size
  have HT := As.mk ht
  have hp0 : w.cell? ⟨g, 0, none⟩ = some (.pointer (some ⟨gs, 0, none⟩)) := (blk_cell hI.p 0).trans rfl
  have hdp : decide (140 < depth) = false := decide_eq_false (by omega)
  have hz3 : (t.f0 == 3) = false := by simp [h0]
  have hz4 : (t.f0 == 4) = false := by simp [h0]
  have hz2 : (t.f0 == 2) = false := by simp [h0]
  have hz5 : (t.f0 == 5) = true := by simp [h0]
  have hz1 : (t.f0 == 1) = false := by simp [h0]
  have hx_mi : (t.f1.toList == [45]) = false := by rw [beq_eq_false_iff_ne]; exact fun h => hs_mi (bytes_eq (h.trans (by rw [ByteArray.toList_eq])))
  have hx_pa : (t.f1.toList == [40]) = false := by rw [beq_eq_false_iff_ne]; exact fun h => hs_pa (bytes_eq (h.trans (by rw [ByteArray.toList_eq])))
  clear hI hB ht h0 hs_mi hs_pa
  go_enter Tryd.func42, Tryd.ntmps42
  go_wp2_with (first
    | (go_at_call 45; (with_reducible refine (next_calls gs l w0 _ HI0.out.s HB0.out).mono ?_); rintro e1 w3 ⟨rfl, hi, hb, hk⟩; have HI3 := As.mk (HI0.out.src hi hk); have HB3 := As.mk hb; have HK3 := As.mk (kp_src (Kept.refl w (fun k => k = g ∨ k = gs)) hk); clear hi hb hk; rw [HT.out])
    | ((with_reducible refine gate_dst (N := 5) rfl ?_); refine box_event ?hgg3 (N := 5) ?hdg3 (cs := #[.int .i64 0, .string (⟨#[]⟩ : ByteArray), .int .i64 0, .int .i64 0]) (t := 67) ?hrg3 ?_; (case hdg3 => rfl); (case hgg3 => rfl); (case hrg3 => first | (go_simp; done) | (go_simp; rfl)); intro g3 hg5 w4 hbx5 hbl5; have HI4 := As.mk (HI3.out.below hbl5); have HB4 := As.mk (bwS HB3.out hbl5); have HK4 := As.mk (kp_below HK3.out hbl5); have Y4 := As.mk hbx5; have HG3 := As.mk (show g3 ≠ g ∧ g3 ≠ gs ∧ w.heap.size ≤ g3 from ⟨by rw [hg5]; exact Nat.ne_of_gt HI3.out.lt, by rw [hg5]; exact Nat.ne_of_gt HI3.out.s.lt, by rw [hg5]; exact HK3.out.1⟩); clear hbx5 hbl5 hg5)
    | ((with_reducible refine gaS (t := 67) (p := 5) (v := .tmp 16) rfl ?_); refine row_event rfl 67 (.tmp 5) (.tmp 16) rfl g3 #[.int .i64 t.f0, .string t.f1, .int .i64 t.f2, .int .i64 t.f3] rfl rfl 67 _ Y4.out (by kernel_rfl) rfl (by simp [Value.oneCell']) rfl ?_; intro w5 hbut hb5; have HI5 := As.mk (HI4.out.but hbut (Ne.symm HG3.out.1) (Ne.symm HG3.out.2.1)); have HB5 := As.mk (hbut.below HB4.out (Nat.le_trans HLe.out HG3.out.2.2)); have HK5 := As.mk (kp_but HK4.out hbut HG3.out.2.2); have hk0 : w5.cell? ⟨g3, 0, none⟩ = some (.int .i64 t.f0) := (blk_cell hb5 0).trans rfl; have hk1 : w5.cell? ⟨g3, 1, none⟩ = some (.string t.f1) := (blk_cell hb5 1).trans rfl; have hk2 : w5.cell? ⟨g3, 2, none⟩ = some (.int .i64 t.f2) := (blk_cell hb5 2).trans rfl; have Y5 := As.mk hb5; have hp5 : w5.cell? ⟨g, 0, none⟩ = some (.pointer (some ⟨gs, 0, none⟩)) := (blk_cell HI5.out.p 0).trans rfl; clear hb5 hbut)
    | (go_at_call 41; (with_reducible refine (wrong_calls g gs (nextT l) e 2 w0 _ HI5.out HB5.out).mono ?_); rintro e1 w9 ⟨rfl, hi, hb, hk⟩; have HI9 := As.mk hi; have HB9 := As.mk hb; have HK9 := As.mk (kp_then HK5.out hk); clear hi hb hk))
  go_ret
  exact ⟨_, rfl, Kd.R_nil _ _ _ _ _, HI9.out, HB9.out, HK9.out⟩

set_option maxHeartbeats 4000000 in
set_option maxRecDepth 100000 in
theorem one_name_no (g gs : Nat) (l : List S67) (e depth : Int) (hd0 : 0 ≤ depth) (hd1 : depth ≤ 140) (t : S67) (ht : peekT l = t) (h0 : t.f0 = 1) (hq : isB (nextT l) 5 ⟨#[46]⟩ = false) (w0 w : World) (hI : Pst w0 w g gs l e) (hB : Below w0.heap.size w0 w) :
    Calls Tryd.prog 42 #[.pointer (some ⟨g, 0, none⟩), .int .i64 depth] w (PPost w0 w g gs [] (nextT l) (wr e 2)) := by
  have HI0 := As.mk hI
  have HB0 := As.mk hB
  have HLe := As.mk hB.size
  have HT := As.mk ht
  have hp0 : w.cell? ⟨g, 0, none⟩ = some (.pointer (some ⟨gs, 0, none⟩)) := (blk_cell hI.p 0).trans rfl
  have hdp : decide (140 < depth) = false := decide_eq_false (by omega)
  have HQ := As.mk hq
  have hz3 : (t.f0 == 3) = false := by simp [h0]
  have hz4 : (t.f0 == 4) = false := by simp [h0]
  have hz2 : (t.f0 == 2) = false := by simp [h0]
  have hz5 : (t.f0 == 5) = false := by simp [h0]
  have hz1 : (t.f0 == 1) = true := by simp [h0]
  clear hI hB ht h0 hq
  go_enter Tryd.func42, Tryd.ntmps42
  go_wp2_with (first
    | (go_at_call 45; (with_reducible refine (next_calls gs l w0 _ HI0.out.s HB0.out).mono ?_); rintro e1 w3 ⟨rfl, hi, hb, hk⟩; have HI3 := As.mk (HI0.out.src hi hk); have HB3 := As.mk hb; have HK3 := As.mk (kp_src (Kept.refl w (fun k => k = g ∨ k = gs)) hk); clear hi hb hk; rw [HT.out])
    | ((with_reducible refine gate_dst (N := 5) rfl ?_); refine box_event ?hgg3 (N := 5) ?hdg3 (cs := #[.int .i64 0, .string (⟨#[]⟩ : ByteArray), .int .i64 0, .int .i64 0]) (t := 67) ?hrg3 ?_; (case hdg3 => rfl); (case hgg3 => rfl); (case hrg3 => first | (go_simp; done) | (go_simp; rfl)); intro g3 hg5 w4 hbx5 hbl5; have HI4 := As.mk (HI3.out.below hbl5); have HB4 := As.mk (bwS HB3.out hbl5); have HK4 := As.mk (kp_below HK3.out hbl5); have Y4 := As.mk hbx5; have HG3 := As.mk (show g3 ≠ g ∧ g3 ≠ gs ∧ w.heap.size ≤ g3 from ⟨by rw [hg5]; exact Nat.ne_of_gt HI3.out.lt, by rw [hg5]; exact Nat.ne_of_gt HI3.out.s.lt, by rw [hg5]; exact HK3.out.1⟩); clear hbx5 hbl5 hg5)
    | ((with_reducible refine gaS (t := 67) (p := 5) (v := .tmp 16) rfl ?_); refine row_event rfl 67 (.tmp 5) (.tmp 16) rfl g3 #[.int .i64 t.f0, .string t.f1, .int .i64 t.f2, .int .i64 t.f3] rfl rfl 67 _ Y4.out (by kernel_rfl) rfl (by simp [Value.oneCell']) rfl ?_; intro w5 hbut hb5; have HI5 := As.mk (HI4.out.but hbut (Ne.symm HG3.out.1) (Ne.symm HG3.out.2.1)); have HB5 := As.mk (hbut.below HB4.out (Nat.le_trans HLe.out HG3.out.2.2)); have HK5 := As.mk (kp_but HK4.out hbut HG3.out.2.2); have hk0 : w5.cell? ⟨g3, 0, none⟩ = some (.int .i64 t.f0) := (blk_cell hb5 0).trans rfl; have hk1 : w5.cell? ⟨g3, 1, none⟩ = some (.string t.f1) := (blk_cell hb5 1).trans rfl; have hk2 : w5.cell? ⟨g3, 2, none⟩ = some (.int .i64 t.f2) := (blk_cell hb5 2).trans rfl; have Y5 := As.mk hb5; have hp5 : w5.cell? ⟨g, 0, none⟩ = some (.pointer (some ⟨gs, 0, none⟩)) := (blk_cell HI5.out.p 0).trans rfl; clear hb5 hbut)
    | (go_at_call 52; (with_reducible refine (is_calls gs (nextT l) 5 ⟨#[46]⟩ (by decide) w0 _ HI5.out.s HB5.out).mono ?_); rintro e1 w7 ⟨rfl, hi, hb, hk⟩; rw [HQ.out]; rw [HQ.out] at hi; have HI7 := As.mk (HI5.out.src hi hk); have HB7 := As.mk hb; have HK7 := As.mk (kp_src HK5.out hk); clear hi hb hk)
    | (go_at_call 41; (with_reducible refine (wrong_calls g gs (nextT l) e 2 w0 _ HI7.out HB7.out).mono ?_); rintro e1 w9 ⟨rfl, hi, hb, hk⟩; have HI9 := As.mk hi; have HB9 := As.mk hb; have HK9 := As.mk (kp_then HK7.out hk); clear hi hb hk))
  go_ret
  exact ⟨_, rfl, Kd.R_nil _ _ _ _ _, HI9.out, HB9.out, HK9.out⟩

set_option maxHeartbeats 4000000 in
set_option maxRecDepth 100000 in
theorem one_name_fld (g gs : Nat) (l : List S67) (e depth : Int) (hd0 : 0 ≤ depth) (hd1 : depth ≤ 140) (t : S67) (ht : peekT l = t) (h0 : t.f0 = 1) (hq : isB (nextT l) 5 ⟨#[46]⟩ = true) (u : S67) (hu : peekT (nextT (nextT l)) = u) (hu1 : u.f0 = 1) (w0 w : World) (hI : Pst w0 w g gs l e) (hB : Below w0.heap.size w0 w) :
    Calls Tryd.prog 42 #[.pointer (some ⟨g, 0, none⟩), .int .i64 depth] w (PPost w0 w g gs [fldNode t.f1 u.f1] (nextT (nextT (nextT l))) e) := by
  have HI0 := As.mk hI
  have HB0 := As.mk hB
  have HLe := As.mk hB.size
  have HT := As.mk ht
  have hp0 : w.cell? ⟨g, 0, none⟩ = some (.pointer (some ⟨gs, 0, none⟩)) := (blk_cell hI.p 0).trans rfl
  have hdp : decide (140 < depth) = false := decide_eq_false (by omega)
  have HQ := As.mk hq
  have HU := As.mk hu
  have hu2 : (u.f0 != 1) = false := by simp [hu1]
  have hu3 : (u.f0 == 1) = true := by simp [hu1]
  have hz3 : (t.f0 == 3) = false := by simp [h0]
  have hz4 : (t.f0 == 4) = false := by simp [h0]
  have hz2 : (t.f0 == 2) = false := by simp [h0]
  have hz5 : (t.f0 == 5) = false := by simp [h0]
  have hz1 : (t.f0 == 1) = true := by simp [h0]
  clear hI hB ht h0 hq hu hu1
  go_enter Tryd.func42, Tryd.ntmps42
  go_wp2_with (first
    | (go_at_call 45; (with_reducible refine (next_calls gs l w0 _ HI0.out.s HB0.out).mono ?_); rintro e1 w3 ⟨rfl, hi, hb, hk⟩; have HI3 := As.mk (HI0.out.src hi hk); have HB3 := As.mk hb; have HK3 := As.mk (kp_src (Kept.refl w (fun k => k = g ∨ k = gs)) hk); clear hi hb hk; rw [HT.out])
    | ((with_reducible refine gate_dst (N := 5) rfl ?_); refine box_event ?hgg3 (N := 5) ?hdg3 (cs := #[.int .i64 0, .string (⟨#[]⟩ : ByteArray), .int .i64 0, .int .i64 0]) (t := 67) ?hrg3 ?_; (case hdg3 => rfl); (case hgg3 => rfl); (case hrg3 => first | (go_simp; done) | (go_simp; rfl)); intro g3 hg5 w4 hbx5 hbl5; have HI4 := As.mk (HI3.out.below hbl5); have HB4 := As.mk (bwS HB3.out hbl5); have HK4 := As.mk (kp_below HK3.out hbl5); have Y4 := As.mk hbx5; have HG3 := As.mk (show g3 ≠ g ∧ g3 ≠ gs ∧ w.heap.size ≤ g3 from ⟨by rw [hg5]; exact Nat.ne_of_gt HI3.out.lt, by rw [hg5]; exact Nat.ne_of_gt HI3.out.s.lt, by rw [hg5]; exact HK3.out.1⟩); clear hbx5 hbl5 hg5)
    | ((with_reducible refine gaS (t := 67) (p := 5) (v := .tmp 16) rfl ?_); refine row_event rfl 67 (.tmp 5) (.tmp 16) rfl g3 #[.int .i64 t.f0, .string t.f1, .int .i64 t.f2, .int .i64 t.f3] rfl rfl 67 _ Y4.out (by kernel_rfl) rfl (by simp [Value.oneCell']) rfl ?_; intro w5 hbut hb5; have HI5 := As.mk (HI4.out.but hbut (Ne.symm HG3.out.1) (Ne.symm HG3.out.2.1)); have HB5 := As.mk (hbut.below HB4.out (Nat.le_trans HLe.out HG3.out.2.2)); have HK5 := As.mk (kp_but HK4.out hbut HG3.out.2.2); have hk0 : w5.cell? ⟨g3, 0, none⟩ = some (.int .i64 t.f0) := (blk_cell hb5 0).trans rfl; have hk1 : w5.cell? ⟨g3, 1, none⟩ = some (.string t.f1) := (blk_cell hb5 1).trans rfl; have hk2 : w5.cell? ⟨g3, 2, none⟩ = some (.int .i64 t.f2) := (blk_cell hb5 2).trans rfl; have Y5 := As.mk hb5; have hp5 : w5.cell? ⟨g, 0, none⟩ = some (.pointer (some ⟨gs, 0, none⟩)) := (blk_cell HI5.out.p 0).trans rfl; clear hb5 hbut)
    | (go_at_call 52; (with_reducible refine (is_calls gs (nextT l) 5 ⟨#[46]⟩ (by decide) w0 _ HI5.out.s HB5.out).mono ?_); rintro e1 w7 ⟨rfl, hi, hb, hk⟩; rw [HQ.out]; rw [HQ.out] at hi; have HI7 := As.mk (HI5.out.src hi hk); have HB7 := As.mk hb; have HK7 := As.mk (kp_src HK5.out hk); have Y7 := As.mk (hk.blk Y5.out HG3.out.2.1 (by simp)); have hp7 : w7.cell? ⟨g, 0, none⟩ = some (.pointer (some ⟨gs, 0, none⟩)) := (blk_cell HI7.out.p 0).trans rfl; clear hi hb hk)
    | (go_at_call 45; (with_reducible refine (next_calls gs (nextT (nextT l)) w0 _ HI7.out.s HB7.out).mono ?_); rintro e1 w10 ⟨rfl, hi, hb, hk⟩; have HI10 := As.mk (HI7.out.src hi hk); have HB10 := As.mk hb; have HK10 := As.mk (kp_src HK7.out hk); have Y10 := As.mk (hk.blk Y7.out HG3.out.2.1 (by simp)); clear hi hb hk; rw [HU.out])
    | ((with_reducible refine gate_dst (N := 7) rfl ?_); refine box_event ?hgg7 (N := 7) ?hdg7 (cs := #[.int .i64 0, .string (⟨#[]⟩ : ByteArray), .int .i64 0, .int .i64 0]) (t := 67) ?hrg7 ?_; (case hdg7 => rfl); (case hgg7 => rfl); (case hrg7 => first | (go_simp; done) | (go_simp; rfl)); intro g7 hg7 w11 hbx7 hbl7; have HI11 := As.mk (HI10.out.below hbl7); have HB11 := As.mk (bwS HB10.out hbl7); have HK11 := As.mk (kp_below HK10.out hbl7); have Y11 := As.mk ((hbl7.block _ (blk_lt Y10.out)).trans Y10.out); have Z11 := As.mk hbx7; have HG7 := As.mk (show g7 ≠ g ∧ g7 ≠ gs ∧ w.heap.size ≤ g7 ∧ g3 ≠ g7 from ⟨by rw [hg7]; exact Nat.ne_of_gt HI10.out.lt, by rw [hg7]; exact Nat.ne_of_gt HI10.out.s.lt, by rw [hg7]; exact HK10.out.1, by rw [hg7]; exact Nat.ne_of_lt (blk_lt Y10.out)⟩); clear hbx7 hbl7 hg7)
    | ((with_reducible refine gaS (t := 67) (p := 7) (v := .tmp 120) rfl ?_); refine row_event rfl 67 (.tmp 7) (.tmp 120) rfl g7 #[.int .i64 u.f0, .string u.f1, .int .i64 u.f2, .int .i64 u.f3] rfl rfl 67 _ Z11.out (by kernel_rfl) rfl (by simp [Value.oneCell']) rfl ?_; intro w12 hbut hb5; have HI12 := As.mk (HI11.out.but hbut (Ne.symm HG7.out.1) (Ne.symm HG7.out.2.1)); have HB12 := As.mk (hbut.below HB11.out (Nat.le_trans HLe.out HG7.out.2.2.1)); have HK12 := As.mk (kp_but HK11.out hbut HG7.out.2.2.1); have hq0 : w12.cell? ⟨g7, 0, none⟩ = some (.int .i64 u.f0) := (blk_cell hb5 0).trans rfl; have hq1 : w12.cell? ⟨g7, 1, none⟩ = some (.string u.f1) := (blk_cell hb5 1).trans rfl; have Y12 := As.mk ((hbut.blk _ HG7.out.2.2.2).trans Y11.out); have hy1 : w12.cell? ⟨g3, 1, none⟩ = some (.string t.f1) := (blk_cell Y12.out 1).trans rfl; clear hb5 hbut)
    | ((with_reducible refine gate_dst (N := 131) rfl ?_); refine lit_event rfl (N := 131) rfl (fldNode t.f1 u.f1) ?hr131 ?_; (case hr131 => first | (go_simp; done) | (go_simp; rfl)); intro v8 w8 hr hb; have HR8 := As.mk (Kd.R_lower hr HK12.out.1); have HI8 := As.mk (HI12.out.below hb); have HB8 := As.mk (bwS HB12.out hb); have HK8 := As.mk (kp_below HK12.out hb); clear hr hb))
  go_ret
  exact ⟨_, rfl, HR8.out, HI8.out, HB8.out, HK8.out⟩

set_option maxHeartbeats 4000000 in
set_option maxRecDepth 100000 in
theorem one_name_nofld (g gs : Nat) (l : List S67) (e depth : Int) (hd0 : 0 ≤ depth) (hd1 : depth ≤ 140) (t : S67) (ht : peekT l = t) (h0 : t.f0 = 1) (hq : isB (nextT l) 5 ⟨#[46]⟩ = true) (u : S67) (hu : peekT (nextT (nextT l)) = u) (hu1 : u.f0 ≠ 1) (w0 w : World) (hI : Pst w0 w g gs l e) (hB : Below w0.heap.size w0 w) :
    Calls Tryd.prog 42 #[.pointer (some ⟨g, 0, none⟩), .int .i64 depth] w (PPost w0 w g gs [] (nextT (nextT (nextT l))) (wr e 2)) := by
  have HI0 := As.mk hI
  have HB0 := As.mk hB
  have HLe := As.mk hB.size
  have HT := As.mk ht
  have hp0 : w.cell? ⟨g, 0, none⟩ = some (.pointer (some ⟨gs, 0, none⟩)) := (blk_cell hI.p 0).trans rfl
  have hdp : decide (140 < depth) = false := decide_eq_false (by omega)
  have HQ := As.mk hq
  have HU := As.mk hu
  have hu2 : (u.f0 != 1) = true := by simp [hu1]
  have hu3 : (u.f0 == 1) = false := by simp [hu1]
  have hz3 : (t.f0 == 3) = false := by simp [h0]
  have hz4 : (t.f0 == 4) = false := by simp [h0]
  have hz2 : (t.f0 == 2) = false := by simp [h0]
  have hz5 : (t.f0 == 5) = false := by simp [h0]
  have hz1 : (t.f0 == 1) = true := by simp [h0]
  clear hI hB ht h0 hq hu hu1
  go_enter Tryd.func42, Tryd.ntmps42
  go_wp2_with (first
    | (go_at_call 45; (with_reducible refine (next_calls gs l w0 _ HI0.out.s HB0.out).mono ?_); rintro e1 w3 ⟨rfl, hi, hb, hk⟩; have HI3 := As.mk (HI0.out.src hi hk); have HB3 := As.mk hb; have HK3 := As.mk (kp_src (Kept.refl w (fun k => k = g ∨ k = gs)) hk); clear hi hb hk; rw [HT.out])
    | ((with_reducible refine gate_dst (N := 5) rfl ?_); refine box_event ?hgg3 (N := 5) ?hdg3 (cs := #[.int .i64 0, .string (⟨#[]⟩ : ByteArray), .int .i64 0, .int .i64 0]) (t := 67) ?hrg3 ?_; (case hdg3 => rfl); (case hgg3 => rfl); (case hrg3 => first | (go_simp; done) | (go_simp; rfl)); intro g3 hg5 w4 hbx5 hbl5; have HI4 := As.mk (HI3.out.below hbl5); have HB4 := As.mk (bwS HB3.out hbl5); have HK4 := As.mk (kp_below HK3.out hbl5); have Y4 := As.mk hbx5; have HG3 := As.mk (show g3 ≠ g ∧ g3 ≠ gs ∧ w.heap.size ≤ g3 from ⟨by rw [hg5]; exact Nat.ne_of_gt HI3.out.lt, by rw [hg5]; exact Nat.ne_of_gt HI3.out.s.lt, by rw [hg5]; exact HK3.out.1⟩); clear hbx5 hbl5 hg5)
    | ((with_reducible refine gaS (t := 67) (p := 5) (v := .tmp 16) rfl ?_); refine row_event rfl 67 (.tmp 5) (.tmp 16) rfl g3 #[.int .i64 t.f0, .string t.f1, .int .i64 t.f2, .int .i64 t.f3] rfl rfl 67 _ Y4.out (by kernel_rfl) rfl (by simp [Value.oneCell']) rfl ?_; intro w5 hbut hb5; have HI5 := As.mk (HI4.out.but hbut (Ne.symm HG3.out.1) (Ne.symm HG3.out.2.1)); have HB5 := As.mk (hbut.below HB4.out (Nat.le_trans HLe.out HG3.out.2.2)); have HK5 := As.mk (kp_but HK4.out hbut HG3.out.2.2); have hk0 : w5.cell? ⟨g3, 0, none⟩ = some (.int .i64 t.f0) := (blk_cell hb5 0).trans rfl; have hk1 : w5.cell? ⟨g3, 1, none⟩ = some (.string t.f1) := (blk_cell hb5 1).trans rfl; have hk2 : w5.cell? ⟨g3, 2, none⟩ = some (.int .i64 t.f2) := (blk_cell hb5 2).trans rfl; have Y5 := As.mk hb5; have hp5 : w5.cell? ⟨g, 0, none⟩ = some (.pointer (some ⟨gs, 0, none⟩)) := (blk_cell HI5.out.p 0).trans rfl; clear hb5 hbut)
    | (go_at_call 52; (with_reducible refine (is_calls gs (nextT l) 5 ⟨#[46]⟩ (by decide) w0 _ HI5.out.s HB5.out).mono ?_); rintro e1 w7 ⟨rfl, hi, hb, hk⟩; rw [HQ.out]; rw [HQ.out] at hi; have HI7 := As.mk (HI5.out.src hi hk); have HB7 := As.mk hb; have HK7 := As.mk (kp_src HK5.out hk); have Y7 := As.mk (hk.blk Y5.out HG3.out.2.1 (by simp)); have hp7 : w7.cell? ⟨g, 0, none⟩ = some (.pointer (some ⟨gs, 0, none⟩)) := (blk_cell HI7.out.p 0).trans rfl; clear hi hb hk)
    | (go_at_call 45; (with_reducible refine (next_calls gs (nextT (nextT l)) w0 _ HI7.out.s HB7.out).mono ?_); rintro e1 w10 ⟨rfl, hi, hb, hk⟩; have HI10 := As.mk (HI7.out.src hi hk); have HB10 := As.mk hb; have HK10 := As.mk (kp_src HK7.out hk); have Y10 := As.mk (hk.blk Y7.out HG3.out.2.1 (by simp)); clear hi hb hk; rw [HU.out])
    | ((with_reducible refine gate_dst (N := 7) rfl ?_); refine box_event ?hgg7 (N := 7) ?hdg7 (cs := #[.int .i64 0, .string (⟨#[]⟩ : ByteArray), .int .i64 0, .int .i64 0]) (t := 67) ?hrg7 ?_; (case hdg7 => rfl); (case hgg7 => rfl); (case hrg7 => first | (go_simp; done) | (go_simp; rfl)); intro g7 hg7 w11 hbx7 hbl7; have HI11 := As.mk (HI10.out.below hbl7); have HB11 := As.mk (bwS HB10.out hbl7); have HK11 := As.mk (kp_below HK10.out hbl7); have Y11 := As.mk ((hbl7.block _ (blk_lt Y10.out)).trans Y10.out); have Z11 := As.mk hbx7; have HG7 := As.mk (show g7 ≠ g ∧ g7 ≠ gs ∧ w.heap.size ≤ g7 ∧ g3 ≠ g7 from ⟨by rw [hg7]; exact Nat.ne_of_gt HI10.out.lt, by rw [hg7]; exact Nat.ne_of_gt HI10.out.s.lt, by rw [hg7]; exact HK10.out.1, by rw [hg7]; exact Nat.ne_of_lt (blk_lt Y10.out)⟩); clear hbx7 hbl7 hg7)
    | ((with_reducible refine gaS (t := 67) (p := 7) (v := .tmp 120) rfl ?_); refine row_event rfl 67 (.tmp 7) (.tmp 120) rfl g7 #[.int .i64 u.f0, .string u.f1, .int .i64 u.f2, .int .i64 u.f3] rfl rfl 67 _ Z11.out (by kernel_rfl) rfl (by simp [Value.oneCell']) rfl ?_; intro w12 hbut hb5; have HI12 := As.mk (HI11.out.but hbut (Ne.symm HG7.out.1) (Ne.symm HG7.out.2.1)); have HB12 := As.mk (hbut.below HB11.out (Nat.le_trans HLe.out HG7.out.2.2.1)); have HK12 := As.mk (kp_but HK11.out hbut HG7.out.2.2.1); have hq0 : w12.cell? ⟨g7, 0, none⟩ = some (.int .i64 u.f0) := (blk_cell hb5 0).trans rfl; have hq1 : w12.cell? ⟨g7, 1, none⟩ = some (.string u.f1) := (blk_cell hb5 1).trans rfl; have Y12 := As.mk ((hbut.blk _ HG7.out.2.2.2).trans Y11.out); have hy1 : w12.cell? ⟨g3, 1, none⟩ = some (.string t.f1) := (blk_cell Y12.out 1).trans rfl; clear hb5 hbut)
    | (go_at_call 41; (with_reducible refine (wrong_calls g gs (nextT (nextT (nextT l))) e 2 w0 _ HI12.out HB12.out).mono ?_); rintro e1 w9 ⟨rfl, hi, hb, hk⟩; have HI9 := As.mk hi; have HB9 := As.mk hb; have HK9 := As.mk (kp_then HK12.out hk); clear hi hb hk))
  go_ret
  exact ⟨_, rfl, Kd.R_nil _ _ _ _ _, HI9.out, HB9.out, HK9.out⟩

set_option maxHeartbeats 4000000 in
set_option maxRecDepth 100000 in
theorem one_none (g gs : Nat) (l : List S67) (e depth : Int) (hd0 : 0 ≤ depth) (hd1 : depth ≤ 140) (t : S67) (ht : peekT l = t) (h3 : t.f0 ≠ 3) (h4 : t.f0 ≠ 4) (h2 : t.f0 ≠ 2) (h5 : t.f0 ≠ 5) (h1 : t.f0 ≠ 1) (w0 w : World) (hI : Pst w0 w g gs l e) (hB : Below w0.heap.size w0 w) :
    Calls Tryd.prog 42 #[.pointer (some ⟨g, 0, none⟩), .int .i64 depth] w (PPost w0 w g gs [] (nextT l) (wr e 2)) := by
  have HI0 := As.mk hI
  have HB0 := As.mk hB
  have HLe := As.mk hB.size
  have HT := As.mk ht
  have hp0 : w.cell? ⟨g, 0, none⟩ = some (.pointer (some ⟨gs, 0, none⟩)) := (blk_cell hI.p 0).trans rfl
  have hdp : decide (140 < depth) = false := decide_eq_false (by omega)
  have hz3 : (t.f0 == 3) = false := by simp [h3]
  have hz4 : (t.f0 == 4) = false := by simp [h4]
  have hz2 : (t.f0 == 2) = false := by simp [h2]
  have hz5 : (t.f0 == 5) = false := by simp [h5]
  have hz1 : (t.f0 == 1) = false := by simp [h1]
  clear hI hB ht h3 h4 h2 h5 h1
  go_enter Tryd.func42, Tryd.ntmps42
  go_wp2_with (first
    | (go_at_call 45; (with_reducible refine (next_calls gs l w0 _ HI0.out.s HB0.out).mono ?_); rintro e1 w3 ⟨rfl, hi, hb, hk⟩; have HI3 := As.mk (HI0.out.src hi hk); have HB3 := As.mk hb; have HK3 := As.mk (kp_src (Kept.refl w (fun k => k = g ∨ k = gs)) hk); clear hi hb hk; rw [HT.out])
    | ((with_reducible refine gate_dst (N := 5) rfl ?_); refine box_event ?hgg3 (N := 5) ?hdg3 (cs := #[.int .i64 0, .string (⟨#[]⟩ : ByteArray), .int .i64 0, .int .i64 0]) (t := 67) ?hrg3 ?_; (case hdg3 => rfl); (case hgg3 => rfl); (case hrg3 => first | (go_simp; done) | (go_simp; rfl)); intro g3 hg5 w4 hbx5 hbl5; have HI4 := As.mk (HI3.out.below hbl5); have HB4 := As.mk (bwS HB3.out hbl5); have HK4 := As.mk (kp_below HK3.out hbl5); have Y4 := As.mk hbx5; have HG3 := As.mk (show g3 ≠ g ∧ g3 ≠ gs ∧ w.heap.size ≤ g3 from ⟨by rw [hg5]; exact Nat.ne_of_gt HI3.out.lt, by rw [hg5]; exact Nat.ne_of_gt HI3.out.s.lt, by rw [hg5]; exact HK3.out.1⟩); clear hbx5 hbl5 hg5)
    | ((with_reducible refine gaS (t := 67) (p := 5) (v := .tmp 16) rfl ?_); refine row_event rfl 67 (.tmp 5) (.tmp 16) rfl g3 #[.int .i64 t.f0, .string t.f1, .int .i64 t.f2, .int .i64 t.f3] rfl rfl 67 _ Y4.out (by kernel_rfl) rfl (by simp [Value.oneCell']) rfl ?_; intro w5 hbut hb5; have HI5 := As.mk (HI4.out.but hbut (Ne.symm HG3.out.1) (Ne.symm HG3.out.2.1)); have HB5 := As.mk (hbut.below HB4.out (Nat.le_trans HLe.out HG3.out.2.2)); have HK5 := As.mk (kp_but HK4.out hbut HG3.out.2.2); have hk0 : w5.cell? ⟨g3, 0, none⟩ = some (.int .i64 t.f0) := (blk_cell hb5 0).trans rfl; have hk1 : w5.cell? ⟨g3, 1, none⟩ = some (.string t.f1) := (blk_cell hb5 1).trans rfl; have hk2 : w5.cell? ⟨g3, 2, none⟩ = some (.int .i64 t.f2) := (blk_cell hb5 2).trans rfl; have Y5 := As.mk hb5; have hp5 : w5.cell? ⟨g, 0, none⟩ = some (.pointer (some ⟨gs, 0, none⟩)) := (blk_cell HI5.out.p 0).trans rfl; clear hb5 hbut)
    | (go_at_call 41; (with_reducible refine (wrong_calls g gs (nextT l) e 2 w0 _ HI5.out HB5.out).mono ?_); rintro e1 w9 ⟨rfl, hi, hb, hk⟩; have HI9 := As.mk hi; have HB9 := As.mk hb; have HK9 := As.mk (kp_then HK5.out hk); clear hi hb hk))
  go_ret
  exact ⟨_, rfl, Kd.R_nil _ _ _ _ _, HI9.out, HB9.out, HK9.out⟩

theorem one_deep (g gs : Nat) (l : List S67) (e depth : Int) (hd : 140 < depth) (w0 w : World) (hI : Pst w0 w g gs l e) (hB : Below w0.heap.size w0 w) :
    Calls Tryd.prog 42 #[.pointer (some ⟨g, 0, none⟩), .int .i64 depth] w (PPost w0 w g gs [] l (wr e 5)) := by
  have HI0 := As.mk hI
  have HB0 := As.mk hB
  have hdp : decide (140 < depth) = true := decide_eq_true hd
  clear hI hB
  go_enter Tryd.func42, Tryd.ntmps42
  go_wp2_with (go_at_call 41; (with_reducible refine (wrong_calls g gs l e 5 w0 _ HI0.out HB0.out).mono ?_); rintro e1 w9 ⟨rfl, hi, hb, hk⟩; have HI9 := As.mk hi; have HB9 := As.mk hb; have HK9 := As.mk hk; clear hi hb hk)
  go_ret
  exact ⟨_, rfl, Kd.R_nil _ _ _ _ _, HI9.out, HB9.out, HK9.out⟩

theorem one_calls (k : Nat) (hk : k ≤ 100000) (H1 : LevelC k) (H2 : MinusC k) : OneC (k + 1) := by
  intro w0 w g gs l e depth r hI hB hd0 _ h
  simp only [oneF] at h
  by_cases hd : 140 < depth
  · rw [if_pos hd] at h
    obtain rfl := Option.some.inj h
    exact one_deep g gs l e depth hd w0 w hI hB
  have hd1 : depth ≤ 140 := by omega
  rw [if_neg hd] at h
  by_cases h3 : (peekT l).f0 = 3
  · rw [if_pos h3] at h
    obtain rfl := Option.some.inj h
    exact one_num g gs l e depth hd0 hd1 _ rfl h3 w0 w hI hB
  rw [if_neg h3] at h
  by_cases h4 : (peekT l).f0 = 4
  · rw [if_pos h4] at h
    obtain rfl := Option.some.inj h
    exact one_str g gs l e depth hd0 hd1 _ rfl h4 w0 w hI hB
  rw [if_neg h4] at h
  by_cases h2 : (peekT l).f0 = 2
  · rw [if_pos h2] at h
    by_cases ha : (peekT l).f1 = ⟨#[116, 114, 117, 101]⟩
    · rw [if_pos ha] at h
      obtain rfl := Option.some.inj h
      exact one_tru g gs l e depth hd0 hd1 _ rfl h2 ha w0 w hI hB
    rw [if_neg ha] at h
    by_cases hb : (peekT l).f1 = ⟨#[102, 97, 108, 115, 101]⟩
    · rw [if_pos hb] at h
      obtain rfl := Option.some.inj h
      exact one_fal g gs l e depth hd0 hd1 _ rfl h2 hb w0 w hI hB
    rw [if_neg hb] at h
    by_cases hc : (peekT l).f1 = ⟨#[110, 111, 116]⟩
    · rw [if_pos hc] at h
      obtain ⟨r1, hr1, h⟩ := Option.bind_eq_some_iff.mp h
      obtain rfl := Option.some.inj h
      exact one_not k hk H1 r1 g gs l e depth hd0 hd1 _ rfl h2 hc hr1 w0 w hI hB
    rw [if_neg hc] at h
    obtain rfl := Option.some.inj h
    exact one_word g gs l e depth hd0 hd1 _ rfl h2 ha hb hc w0 w hI hB
  rw [if_neg h2] at h
  by_cases h5 : (peekT l).f0 = 5
  · rw [if_pos h5] at h
    by_cases ha : (peekT l).f1 = ⟨#[45]⟩
    · rw [if_pos ha] at h
      exact one_minus k H2 r g gs l e depth hd0 hd1 _ rfl h5 ha h w0 w hI hB
    rw [if_neg ha] at h
    by_cases hb : (peekT l).f1 = ⟨#[40]⟩
    · rw [if_pos hb] at h
      obtain ⟨r1, hr1, h⟩ := Option.bind_eq_some_iff.mp h
      by_cases hq : isB r1.2.1 5 ⟨#[41]⟩ = true
      · rw [if_pos hq] at h
        obtain rfl := Option.some.inj h
        exact one_par_yes k hk H1 r1 g gs l e depth hd0 hd1 _ rfl h5 hb hr1 hq w0 w hI hB
      · rw [if_neg hq] at h
        obtain rfl := Option.some.inj h
        exact one_par_no k hk H1 r1 g gs l e depth hd0 hd1 _ rfl h5 hb hr1 (by simpa using hq) w0 w hI hB
    rw [if_neg hb] at h
    obtain rfl := Option.some.inj h
    exact one_sign g gs l e depth hd0 hd1 _ rfl h5 ha hb w0 w hI hB
  rw [if_neg h5] at h
  by_cases h1 : (peekT l).f0 = 1
  · rw [if_pos h1] at h
    by_cases hq : isB (nextT l) 5 ⟨#[46]⟩ = true
    · rw [if_pos hq] at h
      by_cases hu : (peekT (nextT (nextT l))).f0 = 1
      · rw [if_pos hu] at h
        obtain rfl := Option.some.inj h
        exact one_name_fld g gs l e depth hd0 hd1 _ rfl h1 hq _ rfl hu w0 w hI hB
      · rw [if_neg hu] at h
        obtain rfl := Option.some.inj h
        exact one_name_nofld g gs l e depth hd0 hd1 _ rfl h1 hq _ rfl hu w0 w hI hB
    · rw [if_neg hq] at h
      obtain rfl := Option.some.inj h
      exact one_name_no g gs l e depth hd0 hd1 _ rfl h1 (by simpa using hq) w0 w hI hB
  rw [if_neg h1] at h
  obtain rfl := Option.some.inj h
  exact one_none g gs l e depth hd0 hd1 _ rfl h3 h4 h2 h5 h1 w0 w hI hB

theorem level_deep (g gs : Nat) (l : List S67) (e least depth : Int) (hd : 140 < depth) (w0 w : World) (hI : Pst w0 w g gs l e) (hB : Below w0.heap.size w0 w) :
    Calls Tryd.prog 29 #[.pointer (some ⟨g, 0, none⟩), .int .i64 least, .int .i64 depth] w (PPost w0 w g gs [] l (wr e 5)) := by
  have HI0 := As.mk hI
  have HB0 := As.mk hB
  have hdp : decide (140 < depth) = true := decide_eq_true hd
  clear hI hB
  go_enter Tryd.func29, Tryd.ntmps29
  go_wp2_with (go_at_call 41; (with_reducible refine (wrong_calls g gs l e 5 w0 _ HI0.out HB0.out).mono ?_); rintro e1 w9 ⟨rfl, hi, hb, hk⟩; have HI9 := As.mk hi; have HB9 := As.mk hb; have HK9 := As.mk hk; clear hi hb hk)
  go_ret
  exact ⟨_, rfl, Kd.R_nil _ _ _ _ _, HI9.out, HB9.out, HK9.out⟩

set_option maxHeartbeats 8000000 in
set_option maxRecDepth 100000 in
theorem level_walk (k : Nat) (hk : k ≤ 100000) (HL : ∀ m, m < k → LevelC m) (H1 : OneC k) (g gs : Nat) (l : List S67) (e least depth : Int) (r0 r : List S53 × List S67 × Int) (hd0 : 0 ≤ depth) (hd1 : depth ≤ 140) (h0 : oneF k depth l e = some r0) (h : loopF k least depth r0.1 r0.2.1 r0.2.2 = some r) (w0 w : World) (hI : Pst w0 w g gs l e) (hB : Below w0.heap.size w0 w) :
    Calls Tryd.prog 29 #[.pointer (some ⟨g, 0, none⟩), .int .i64 least, .int .i64 depth] w (PPost w0 w g gs r.1 r.2.1 r.2.2) := by
  have HI0 := As.mk hI
  have HB0 := As.mk hB
  have HLe := As.mk hB.size
  have HLL := As.mk HL
  have HO := As.mk (fun (w1 : World) (i1 : Pst w0 w1 g gs l e) (b1 : Below w0.heap.size w0 w1) => H1 w0 w1 g gs l e depth r0 i1 b1 hd0 (by omega) h0)
  have H := As.mk h
  have HN0 := As.mk (show r0.1.length ≤ 200000 from by have := (len_all k).2.2.1 _ _ _ _ h0; omega)
  have HK00 := As.mk hk
  have hdp : decide (140 < depth) = false := decide_eq_false (by omega)
  clear hI hB HL H1 h0 h hk
  go_enter Tryd.func29, Tryd.ntmps29
  go_wp2_with (go_at_call 42; (with_reducible refine (HO.out _ HI0.out HB0.out).mono ?_); rintro e1 w2 ⟨v2, rfl, hr, hi, hb, hkk⟩; have HR2 := As.mk hr; have HI2 := As.mk hi; have HB2 := As.mk hb; have HK2 := As.mk hkk; clear hr hi hb hkk)
  go_loopg [7] k (fun kq v7 w' => ∃ (a : List S53) (l : List S67) (e : Int), As (loopF kq least depth a l e = some r) ∧ As (kq ≤ k) ∧ As (Kd.R k53 53 w' w.heap.size (fun _ => True) v7 a) ∧ As (Pst w0 w' g gs l e) ∧ As (KP w w' g gs) ∧ As (Below w0.heap.size w0 w') ∧ As (a.length ≤ 200000))
  case atStart => exact ⟨r0.1, r0.2.1, r0.2.2, H, ⟨Nat.le_refl _⟩, HR2, HI2, HK2, HB2, HN0⟩
  case round =>
    clear HI2 HR2 HB2 HK2 HN0 H HO
    obtain ⟨a, l2, e2, HA, HKq, HR, HI, HK, HB, HN⟩ := hrel
    obtain ⟨A, c, rfl⟩ := Kd.R_slice HR.out
    cases gk with
    | zero => exact absurd HA.out (by simp [loopF])
    | succ k1 =>
      have hp0 := (blk_cell HI.out.p 0).trans (show _ = some (.pointer (some ⟨gs, 0, none⟩)) from rfl)
      have hp1 := (blk_cell HI.out.p 1).trans (show _ = some (.int .i64 e2) from rfl)
      have h := HA.out
      clear HA
      simp only [loopF] at h
      by_cases he : e2 = 0
      · rw [if_pos he] at h
        have hez : (e2 == 0) = true := by simp [he]
        clear he
        have hbr := bin_range (peekT l2)
        obtain ⟨t, ht⟩ : ∃ t, peekT l2 = t := ⟨_, rfl⟩
        rw [ht] at h hbr
        have HT := As.mk ht
        clear ht
        obtain ⟨op, hop⟩ : ∃ op, (binF t).1 = op := ⟨_, rfl⟩
        obtain ⟨st, hst⟩ : ∃ st, (binF t).2 = st := ⟨_, rfl⟩
        rw [hop, hst] at h hbr
        have HOP := As.mk hop
        have HST := As.mk hst
        clear hop hst
        obtain ⟨o0, o1, s0, s1, HBR⟩ := hbr
        replace HBR := As.mk HBR
        by_cases ho : op = 0
        · rw [if_pos ho] at h
          have hoz : (op == 0) = true := by simp [ho]
          clear ho
          obtain rfl := Option.some.inj h
          clear h
          go_wp2_with (first
              | (go_at_call 44; (with_reducible refine (peek_calls gs l2 w0 _ HI.out.s HB.out).mono ?_); rintro e1 w3 ⟨rfl, hb⟩; have HI3 := As.mk (HI.out.below hb); have HB3 := As.mk (bwS HB.out hb); have HK3 := As.mk (kp_below HK.out hb); have HR3 := As.mk (Kd.R_below HR.out hb); clear hb; rw [HT.out])
              | (go_at_call 43; (with_reducible refine (bin_calls t _).mono ?_); rintro e1 w4 ⟨rfl, hb⟩; have HI4 := As.mk (HI3.out.below hb); have HB4 := As.mk (bwS HB3.out hb); have HK4 := As.mk (kp_below HK3.out hb); have HR4 := As.mk (Kd.R_below HR3.out hb); have hp4 := (blk_cell HI4.out.p 0).trans (show _ = some (.pointer (some ⟨gs, 0, none⟩)) from rfl); clear hb; rw [HOP.out, HST.out]))
          go_ret
          exact ⟨_, rfl, HR4.out, HI4.out, HB4.out, HK4.out⟩
        · rw [if_neg ho] at h
          have hoz : (op == 0) = false := by simp [ho]
          clear ho
          by_cases hs : st < least
          · rw [if_pos hs] at h
            have hsz : decide (st < least) = true := decide_eq_true hs
            clear hs
            obtain rfl := Option.some.inj h
            clear h
            go_wp2_with (first
              | (go_at_call 44; (with_reducible refine (peek_calls gs l2 w0 _ HI.out.s HB.out).mono ?_); rintro e1 w3 ⟨rfl, hb⟩; have HI3 := As.mk (HI.out.below hb); have HB3 := As.mk (bwS HB.out hb); have HK3 := As.mk (kp_below HK.out hb); have HR3 := As.mk (Kd.R_below HR.out hb); clear hb; rw [HT.out])
              | (go_at_call 43; (with_reducible refine (bin_calls t _).mono ?_); rintro e1 w4 ⟨rfl, hb⟩; have HI4 := As.mk (HI3.out.below hb); have HB4 := As.mk (bwS HB3.out hb); have HK4 := As.mk (kp_below HK3.out hb); have HR4 := As.mk (Kd.R_below HR3.out hb); have hp4 := (blk_cell HI4.out.p 0).trans (show _ = some (.pointer (some ⟨gs, 0, none⟩)) from rfl); clear hb; rw [HOP.out, HST.out]))
            go_ret
            exact ⟨_, rfl, HR4.out, HI4.out, HB4.out, HK4.out⟩
          · rw [if_neg hs] at h
            have hsz : decide (st < least) = false := decide_eq_false hs
            clear hs
            obtain ⟨r1, hr1, h⟩ := Option.bind_eq_some_iff.mp h
            have HO := As.mk (fun (w1 : World) (i1 : Pst w0 w1 g gs (nextT l2) e2) (b1 : Below w0.heap.size w0 w1) => HLL.out k1 (by have := HKq.out; omega) w0 w1 g gs (nextT l2) e2 (st + 1) (depth + 1) r1 i1 b1 (by omega) (by omega) hr1)
            have hlen : r1.1.length ≤ 64 + k1 := (len_all k1).1 _ _ _ _ _ hr1
            clear hr1
            have HBo := As.mk (both_f a r1.1 op (by have := HN.out; have := HKq.out; have := HK00.out; omega))
            have HN2 := As.mk (show (a ++ r1.1 ++ [opNode op]).length ≤ 64 → (a ++ r1.1 ++ [opNode op]).length ≤ 200000 from fun h => by omega)
            clear hlen
            obtain ⟨a2, ha2⟩ : ∃ a2, a ++ r1.1 ++ [opNode op] = a2 := ⟨_, rfl⟩
            rw [ha2] at h HBo HN2
            clear ha2
            by_cases h64 : 64 < a2.length
            · rw [if_pos h64] at h
              have h6 : decide (64 < (a2.length : Int)) = true := decide_eq_true (by omega)
              have h6b : decide (64 < a2.length) = true := decide_eq_true h64
              clear h64
              obtain rfl := Option.some.inj h
              clear h
              go_wp2_with (first
              | (go_at_call 44; (with_reducible refine (peek_calls gs l2 w0 _ HI.out.s HB.out).mono ?_); rintro e1 w3 ⟨rfl, hb⟩; have HI3 := As.mk (HI.out.below hb); have HB3 := As.mk (bwS HB.out hb); have HK3 := As.mk (kp_below HK.out hb); have HR3 := As.mk (Kd.R_below HR.out hb); clear hb; rw [HT.out])
              | (go_at_call 43; (with_reducible refine (bin_calls t _).mono ?_); rintro e1 w4 ⟨rfl, hb⟩; have HI4 := As.mk (HI3.out.below hb); have HB4 := As.mk (bwS HB3.out hb); have HK4 := As.mk (kp_below HK3.out hb); have HR4 := As.mk (Kd.R_below HR3.out hb); have hp4 := (blk_cell HI4.out.p 0).trans (show _ = some (.pointer (some ⟨gs, 0, none⟩)) from rfl); clear hb; rw [HOP.out, HST.out])
              | (go_at_call 45; (with_reducible refine (next_calls gs l2 w0 _ HI4.out.s HB4.out).mono ?_); rintro e1 w5 ⟨rfl, hi, hb, hkk⟩; have HI5 := As.mk (HI4.out.src hi hkk); have HB5 := As.mk hb; have HK5 := As.mk (kp_src HK4.out hkk); have HR5 := As.mk (row_src HR4.out HI4.out.s hkk); clear hi hb hkk)
              | (go_at_call 29; (with_reducible refine (HO.out _ HI5.out HB5.out).mono ?_); rintro e1 w6 ⟨v6, rfl, hr, hi, hb, hkk⟩; have HR6 := As.mk (row_par HR5.out HI5.out hkk); have HQ6 := As.mk hr; have HI6 := As.mk hi; have HB6 := As.mk hb; have HK6 := As.mk (kp_then HK5.out hkk); clear hr hi hb hkk; obtain ⟨A6, c6, e6⟩ := Kd.R_slice HQ6.out; subst e6)
              | (go_at_call 46; (with_reducible refine (ppred_both.calls A c a A6 c6 r1.1 op a2 _ ?sd1 ?sd2 ?sd3 ?sd4 HBo.out).mono ?_); (case sd1 => exact (Kd.R_reads' HR6.out).2.2); (case sd2 => exact (Kd.R_reads' HR6.out).2.1); (case sd3 => exact (Kd.R_reads' HQ6.out).2.2); (case sd4 => exact (Kd.R_reads' HQ6.out).2.1); rintro e1 w7 ⟨v7, rfl, hr, hb⟩; have HR7 := As.mk (Kd.R_lower hr HK6.out.1); have HI7 := As.mk (HI6.out.below hb); have HB7 := As.mk (bwS HB6.out hb); have HK7 := As.mk (kp_below HK6.out hb); have hp7 := (blk_cell HI7.out.p 0).trans (show _ = some (.pointer (some ⟨gs, 0, none⟩)) from rfl); clear hr hb; obtain ⟨A7, c7, e7⟩ := Kd.R_slice HR7.out; subst e7)
              | (go_at_call 41; (with_reducible refine (wrong_calls g gs r1.2.1 r1.2.2 5 w0 _ HI7.out HB7.out).mono ?_); rintro e1 w9 ⟨rfl, hi, hb, hkk⟩; have HI9 := As.mk hi; have HB9 := As.mk hb; have HK9 := As.mk (kp_then HK7.out hkk); clear hi hb hkk))
              go_ret
              exact ⟨_, rfl, Kd.R_nil _ _ _ _ _, HI9.out, HB9.out, HK9.out⟩
            · rw [if_neg h64] at h
              have h6 : decide (64 < (a2.length : Int)) = false := decide_eq_false (by omega)
              have h6b : decide (64 < a2.length) = false := decide_eq_false h64
              have HN3 := As.mk (HN2.out (by omega))
              clear h64
              by_cases h4 : st = 4
              · have h4z : (st == 4) = true := by simp [h4]
                by_cases hq : (binF (peekT r1.2.1)).2 = 4
                · rw [if_pos ⟨h4, hq⟩] at h
                  have hqo := (bin_range (peekT r1.2.1)).2.2.2.2 hq
                  obtain ⟨op2, hop2⟩ : ∃ x, (binF (peekT r1.2.1)).1 = x := ⟨_, rfl⟩
                  obtain ⟨st2, hst2⟩ : ∃ x, (binF (peekT r1.2.1)).2 = x := ⟨_, rfl⟩
                  rw [hst2] at hq
                  rw [hop2] at hqo
                  have HOP2 := As.mk hop2
                  have HST2 := As.mk hst2
                  have ho2 : (op2 != 0) = true := by simp [hqo]
                  have hs2 : (st2 == 4) = true := by simp [hq]
                  clear hop2 hst2 hq hqo h4
                  obtain rfl := Option.some.inj h
                  clear h
                  go_wp2_with (first
              | (go_at_call 44; (with_reducible refine (peek_calls gs l2 w0 _ HI.out.s HB.out).mono ?_); rintro e1 w3 ⟨rfl, hb⟩; have HI3 := As.mk (HI.out.below hb); have HB3 := As.mk (bwS HB.out hb); have HK3 := As.mk (kp_below HK.out hb); have HR3 := As.mk (Kd.R_below HR.out hb); clear hb; rw [HT.out])
              | (go_at_call 43; (with_reducible refine (bin_calls t _).mono ?_); rintro e1 w4 ⟨rfl, hb⟩; have HI4 := As.mk (HI3.out.below hb); have HB4 := As.mk (bwS HB3.out hb); have HK4 := As.mk (kp_below HK3.out hb); have HR4 := As.mk (Kd.R_below HR3.out hb); have hp4 := (blk_cell HI4.out.p 0).trans (show _ = some (.pointer (some ⟨gs, 0, none⟩)) from rfl); clear hb; rw [HOP.out, HST.out])
              | (go_at_call 45; (with_reducible refine (next_calls gs l2 w0 _ HI4.out.s HB4.out).mono ?_); rintro e1 w5 ⟨rfl, hi, hb, hkk⟩; have HI5 := As.mk (HI4.out.src hi hkk); have HB5 := As.mk hb; have HK5 := As.mk (kp_src HK4.out hkk); have HR5 := As.mk (row_src HR4.out HI4.out.s hkk); clear hi hb hkk)
              | (go_at_call 29; (with_reducible refine (HO.out _ HI5.out HB5.out).mono ?_); rintro e1 w6 ⟨v6, rfl, hr, hi, hb, hkk⟩; have HR6 := As.mk (row_par HR5.out HI5.out hkk); have HQ6 := As.mk hr; have HI6 := As.mk hi; have HB6 := As.mk hb; have HK6 := As.mk (kp_then HK5.out hkk); clear hr hi hb hkk; obtain ⟨A6, c6, e6⟩ := Kd.R_slice HQ6.out; subst e6)
              | (go_at_call 46; (with_reducible refine (ppred_both.calls A c a A6 c6 r1.1 op a2 _ ?sd1 ?sd2 ?sd3 ?sd4 HBo.out).mono ?_); (case sd1 => exact (Kd.R_reads' HR6.out).2.2); (case sd2 => exact (Kd.R_reads' HR6.out).2.1); (case sd3 => exact (Kd.R_reads' HQ6.out).2.2); (case sd4 => exact (Kd.R_reads' HQ6.out).2.1); rintro e1 w7 ⟨v7, rfl, hr, hb⟩; have HR7 := As.mk (Kd.R_lower hr HK6.out.1); have HI7 := As.mk (HI6.out.below hb); have HB7 := As.mk (bwS HB6.out hb); have HK7 := As.mk (kp_below HK6.out hb); have hp7 := (blk_cell HI7.out.p 0).trans (show _ = some (.pointer (some ⟨gs, 0, none⟩)) from rfl); clear hr hb; obtain ⟨A7, c7, e7⟩ := Kd.R_slice HR7.out; subst e7)
              | (go_at_call 44; (with_reducible refine (peek_calls gs r1.2.1 w0 _ HI7.out.s HB7.out).mono ?_); rintro e1 w10 ⟨rfl, hb⟩; have HI10 := As.mk (HI7.out.below hb); have HB10 := As.mk (bwS HB7.out hb); have HK10 := As.mk (kp_below HK7.out hb); have HR10 := As.mk (Kd.R_below HR7.out hb); clear hb)
              | (go_at_call 43; (with_reducible refine (bin_calls (peekT r1.2.1) _).mono ?_); rintro e1 w11 ⟨rfl, hb⟩; have HI11 := As.mk (HI10.out.below hb); have HB11 := As.mk (bwS HB10.out hb); have HK11 := As.mk (kp_below HK10.out hb); have HR11 := As.mk (Kd.R_below HR10.out hb); clear hb; rw [HOP2.out, HST2.out])
              | (go_at_call 41; (with_reducible refine (wrong_calls g gs r1.2.1 r1.2.2 2 w0 _ HI11.out HB11.out).mono ?_); rintro e1 w9 ⟨rfl, hi, hb, hkk⟩; have HI9 := As.mk hi; have HB9 := As.mk hb; have HK9 := As.mk (kp_then HK11.out hkk); clear hi hb hkk))
                  go_ret
                  exact ⟨_, rfl, Kd.R_nil _ _ _ _ _, HI9.out, HB9.out, HK9.out⟩
                · rw [if_neg (fun hx => hq hx.2)] at h
                  obtain ⟨op2, hop2⟩ : ∃ x, (binF (peekT r1.2.1)).1 = x := ⟨_, rfl⟩
                  obtain ⟨st2, hst2⟩ : ∃ x, (binF (peekT r1.2.1)).2 = x := ⟨_, rfl⟩
                  rw [hst2] at hq
                  have HOP2 := As.mk hop2
                  have HST2 := As.mk hst2
                  have hs2 : (st2 == 4) = false := by simp [hq]
                  clear hop2 hst2 hq h4
                  have H' := As.mk h
                  clear h
                  by_cases ho2 : op2 = 0
                  · have ho2z : (op2 != 0) = false := by simp [ho2]
                    clear ho2
                    go_wp2_with (first
              | (go_at_call 44; (with_reducible refine (peek_calls gs l2 w0 _ HI.out.s HB.out).mono ?_); rintro e1 w3 ⟨rfl, hb⟩; have HI3 := As.mk (HI.out.below hb); have HB3 := As.mk (bwS HB.out hb); have HK3 := As.mk (kp_below HK.out hb); have HR3 := As.mk (Kd.R_below HR.out hb); clear hb; rw [HT.out])
              | (go_at_call 43; (with_reducible refine (bin_calls t _).mono ?_); rintro e1 w4 ⟨rfl, hb⟩; have HI4 := As.mk (HI3.out.below hb); have HB4 := As.mk (bwS HB3.out hb); have HK4 := As.mk (kp_below HK3.out hb); have HR4 := As.mk (Kd.R_below HR3.out hb); have hp4 := (blk_cell HI4.out.p 0).trans (show _ = some (.pointer (some ⟨gs, 0, none⟩)) from rfl); clear hb; rw [HOP.out, HST.out])
              | (go_at_call 45; (with_reducible refine (next_calls gs l2 w0 _ HI4.out.s HB4.out).mono ?_); rintro e1 w5 ⟨rfl, hi, hb, hkk⟩; have HI5 := As.mk (HI4.out.src hi hkk); have HB5 := As.mk hb; have HK5 := As.mk (kp_src HK4.out hkk); have HR5 := As.mk (row_src HR4.out HI4.out.s hkk); clear hi hb hkk)
              | (go_at_call 29; (with_reducible refine (HO.out _ HI5.out HB5.out).mono ?_); rintro e1 w6 ⟨v6, rfl, hr, hi, hb, hkk⟩; have HR6 := As.mk (row_par HR5.out HI5.out hkk); have HQ6 := As.mk hr; have HI6 := As.mk hi; have HB6 := As.mk hb; have HK6 := As.mk (kp_then HK5.out hkk); clear hr hi hb hkk; obtain ⟨A6, c6, e6⟩ := Kd.R_slice HQ6.out; subst e6)
              | (go_at_call 46; (with_reducible refine (ppred_both.calls A c a A6 c6 r1.1 op a2 _ ?sd1 ?sd2 ?sd3 ?sd4 HBo.out).mono ?_); (case sd1 => exact (Kd.R_reads' HR6.out).2.2); (case sd2 => exact (Kd.R_reads' HR6.out).2.1); (case sd3 => exact (Kd.R_reads' HQ6.out).2.2); (case sd4 => exact (Kd.R_reads' HQ6.out).2.1); rintro e1 w7 ⟨v7, rfl, hr, hb⟩; have HR7 := As.mk (Kd.R_lower hr HK6.out.1); have HI7 := As.mk (HI6.out.below hb); have HB7 := As.mk (bwS HB6.out hb); have HK7 := As.mk (kp_below HK6.out hb); have hp7 := (blk_cell HI7.out.p 0).trans (show _ = some (.pointer (some ⟨gs, 0, none⟩)) from rfl); clear hr hb; obtain ⟨A7, c7, e7⟩ := Kd.R_slice HR7.out; subst e7)
              | (go_at_call 44; (with_reducible refine (peek_calls gs r1.2.1 w0 _ HI7.out.s HB7.out).mono ?_); rintro e1 w10 ⟨rfl, hb⟩; have HI10 := As.mk (HI7.out.below hb); have HB10 := As.mk (bwS HB7.out hb); have HK10 := As.mk (kp_below HK7.out hb); have HR10 := As.mk (Kd.R_below HR7.out hb); clear hb)
              | (go_at_call 43; (with_reducible refine (bin_calls (peekT r1.2.1) _).mono ?_); rintro e1 w11 ⟨rfl, hb⟩; have HI11 := As.mk (HI10.out.below hb); have HB11 := As.mk (bwS HB10.out hb); have HK11 := As.mk (kp_below HK10.out hb); have HR11 := As.mk (Kd.R_below HR10.out hb); clear hb; rw [HOP2.out, HST2.out]))
                    go_roundg k1
                    case measure => have := HKq.out; omega
                    case rel => exact ⟨a2, r1.2.1, r1.2.2, H', ⟨by have := HKq.out; omega⟩, HR11, HI11, HK11, HB11, HN3⟩
                  · have ho2z : (op2 != 0) = true := by simp [ho2]
                    clear ho2
                    go_wp2_with (first
              | (go_at_call 44; (with_reducible refine (peek_calls gs l2 w0 _ HI.out.s HB.out).mono ?_); rintro e1 w3 ⟨rfl, hb⟩; have HI3 := As.mk (HI.out.below hb); have HB3 := As.mk (bwS HB.out hb); have HK3 := As.mk (kp_below HK.out hb); have HR3 := As.mk (Kd.R_below HR.out hb); clear hb; rw [HT.out])
              | (go_at_call 43; (with_reducible refine (bin_calls t _).mono ?_); rintro e1 w4 ⟨rfl, hb⟩; have HI4 := As.mk (HI3.out.below hb); have HB4 := As.mk (bwS HB3.out hb); have HK4 := As.mk (kp_below HK3.out hb); have HR4 := As.mk (Kd.R_below HR3.out hb); have hp4 := (blk_cell HI4.out.p 0).trans (show _ = some (.pointer (some ⟨gs, 0, none⟩)) from rfl); clear hb; rw [HOP.out, HST.out])
              | (go_at_call 45; (with_reducible refine (next_calls gs l2 w0 _ HI4.out.s HB4.out).mono ?_); rintro e1 w5 ⟨rfl, hi, hb, hkk⟩; have HI5 := As.mk (HI4.out.src hi hkk); have HB5 := As.mk hb; have HK5 := As.mk (kp_src HK4.out hkk); have HR5 := As.mk (row_src HR4.out HI4.out.s hkk); clear hi hb hkk)
              | (go_at_call 29; (with_reducible refine (HO.out _ HI5.out HB5.out).mono ?_); rintro e1 w6 ⟨v6, rfl, hr, hi, hb, hkk⟩; have HR6 := As.mk (row_par HR5.out HI5.out hkk); have HQ6 := As.mk hr; have HI6 := As.mk hi; have HB6 := As.mk hb; have HK6 := As.mk (kp_then HK5.out hkk); clear hr hi hb hkk; obtain ⟨A6, c6, e6⟩ := Kd.R_slice HQ6.out; subst e6)
              | (go_at_call 46; (with_reducible refine (ppred_both.calls A c a A6 c6 r1.1 op a2 _ ?sd1 ?sd2 ?sd3 ?sd4 HBo.out).mono ?_); (case sd1 => exact (Kd.R_reads' HR6.out).2.2); (case sd2 => exact (Kd.R_reads' HR6.out).2.1); (case sd3 => exact (Kd.R_reads' HQ6.out).2.2); (case sd4 => exact (Kd.R_reads' HQ6.out).2.1); rintro e1 w7 ⟨v7, rfl, hr, hb⟩; have HR7 := As.mk (Kd.R_lower hr HK6.out.1); have HI7 := As.mk (HI6.out.below hb); have HB7 := As.mk (bwS HB6.out hb); have HK7 := As.mk (kp_below HK6.out hb); have hp7 := (blk_cell HI7.out.p 0).trans (show _ = some (.pointer (some ⟨gs, 0, none⟩)) from rfl); clear hr hb; obtain ⟨A7, c7, e7⟩ := Kd.R_slice HR7.out; subst e7)
              | (go_at_call 44; (with_reducible refine (peek_calls gs r1.2.1 w0 _ HI7.out.s HB7.out).mono ?_); rintro e1 w10 ⟨rfl, hb⟩; have HI10 := As.mk (HI7.out.below hb); have HB10 := As.mk (bwS HB7.out hb); have HK10 := As.mk (kp_below HK7.out hb); have HR10 := As.mk (Kd.R_below HR7.out hb); clear hb)
              | (go_at_call 43; (with_reducible refine (bin_calls (peekT r1.2.1) _).mono ?_); rintro e1 w11 ⟨rfl, hb⟩; have HI11 := As.mk (HI10.out.below hb); have HB11 := As.mk (bwS HB10.out hb); have HK11 := As.mk (kp_below HK10.out hb); have HR11 := As.mk (Kd.R_below HR10.out hb); clear hb; rw [HOP2.out, HST2.out]))
                    go_roundg k1
                    case measure => have := HKq.out; omega
                    case rel => exact ⟨a2, r1.2.1, r1.2.2, H', ⟨by have := HKq.out; omega⟩, HR11, HI11, HK11, HB11, HN3⟩
              · have h4z : (st == 4) = false := by simp [h4]
                rw [if_neg (fun hx => h4 hx.1)] at h
                have H' := As.mk h
                clear h h4
                go_wp2_with (first
              | (go_at_call 44; (with_reducible refine (peek_calls gs l2 w0 _ HI.out.s HB.out).mono ?_); rintro e1 w3 ⟨rfl, hb⟩; have HI3 := As.mk (HI.out.below hb); have HB3 := As.mk (bwS HB.out hb); have HK3 := As.mk (kp_below HK.out hb); have HR3 := As.mk (Kd.R_below HR.out hb); clear hb; rw [HT.out])
              | (go_at_call 43; (with_reducible refine (bin_calls t _).mono ?_); rintro e1 w4 ⟨rfl, hb⟩; have HI4 := As.mk (HI3.out.below hb); have HB4 := As.mk (bwS HB3.out hb); have HK4 := As.mk (kp_below HK3.out hb); have HR4 := As.mk (Kd.R_below HR3.out hb); have hp4 := (blk_cell HI4.out.p 0).trans (show _ = some (.pointer (some ⟨gs, 0, none⟩)) from rfl); clear hb; rw [HOP.out, HST.out])
              | (go_at_call 45; (with_reducible refine (next_calls gs l2 w0 _ HI4.out.s HB4.out).mono ?_); rintro e1 w5 ⟨rfl, hi, hb, hkk⟩; have HI5 := As.mk (HI4.out.src hi hkk); have HB5 := As.mk hb; have HK5 := As.mk (kp_src HK4.out hkk); have HR5 := As.mk (row_src HR4.out HI4.out.s hkk); clear hi hb hkk)
              | (go_at_call 29; (with_reducible refine (HO.out _ HI5.out HB5.out).mono ?_); rintro e1 w6 ⟨v6, rfl, hr, hi, hb, hkk⟩; have HR6 := As.mk (row_par HR5.out HI5.out hkk); have HQ6 := As.mk hr; have HI6 := As.mk hi; have HB6 := As.mk hb; have HK6 := As.mk (kp_then HK5.out hkk); clear hr hi hb hkk; obtain ⟨A6, c6, e6⟩ := Kd.R_slice HQ6.out; subst e6)
              | (go_at_call 46; (with_reducible refine (ppred_both.calls A c a A6 c6 r1.1 op a2 _ ?sd1 ?sd2 ?sd3 ?sd4 HBo.out).mono ?_); (case sd1 => exact (Kd.R_reads' HR6.out).2.2); (case sd2 => exact (Kd.R_reads' HR6.out).2.1); (case sd3 => exact (Kd.R_reads' HQ6.out).2.2); (case sd4 => exact (Kd.R_reads' HQ6.out).2.1); rintro e1 w7 ⟨v7, rfl, hr, hb⟩; have HR7 := As.mk (Kd.R_lower hr HK6.out.1); have HI7 := As.mk (HI6.out.below hb); have HB7 := As.mk (bwS HB6.out hb); have HK7 := As.mk (kp_below HK6.out hb); have hp7 := (blk_cell HI7.out.p 0).trans (show _ = some (.pointer (some ⟨gs, 0, none⟩)) from rfl); clear hr hb; obtain ⟨A7, c7, e7⟩ := Kd.R_slice HR7.out; subst e7))
                go_roundg k1
                case measure => have := HKq.out; omega
                case rel => exact ⟨a2, r1.2.1, r1.2.2, H', ⟨by have := HKq.out; omega⟩, HR7, HI7, HK7, HB7, HN3⟩
      · rw [if_neg he] at h
        have hez : (e2 == 0) = false := by simp [he]
        clear he
        obtain rfl := Option.some.inj h
        clear h
        go_wp2_with fail
        go_ret
        exact ⟨_, rfl, HR.out, HI.out, HB.out, HK.out⟩

theorem level_calls (k : Nat) (hk : k ≤ 100000) (HL : ∀ m, m < k → LevelC m) (H1 : OneC k) : LevelC (k + 1) := by
  intro w0 w g gs l e least depth r hI hB hd0 _ h
  simp only [levelF] at h
  by_cases hd : 140 < depth
  · rw [if_pos hd] at h
    obtain rfl := Option.some.inj h
    exact level_deep g gs l e least depth hd w0 w hI hB
  · rw [if_neg hd] at h
    obtain ⟨r0, hr0, h⟩ := Option.bind_eq_some_iff.mp h
    exact level_walk k hk HL H1 g gs l e least depth r0 r hd0 (by omega) hr0 h w0 w hI hB

theorem all_calls (k : Nat) (hk : k ≤ 100000) : LevelC k ∧ OneC k ∧ MinusC k := by
  induction k using Nat.strongRecOn with
  | _ k ih =>
    cases k with
    | zero =>
      exact ⟨fun _ _ _ _ _ _ _ _ _ _ _ _ _ h => by simp [levelF] at h, fun _ _ _ _ _ _ _ _ _ _ _ _ h => by simp [oneF] at h, fun _ _ _ _ _ _ _ _ _ _ _ _ h => by simp [minusF] at h⟩
    | succ k =>
      obtain ⟨a, b, c⟩ := ih k (Nat.lt_succ_self k) (by omega)
      exact ⟨level_calls k (by omega) (fun m hm => (ih m (by omega) (by omega)).1) b, one_calls k (by omega) a c, minus_calls k (by omega) b⟩

theorem infoClone67 : (Tryd.prog.info? 67).map (fun i => (i.zero, i.size, i.bytes)) = some (some (.agg #[(.int .i64 0), (.string ⟨#[]⟩), (.int .i64 0), (.int .i64 0)]), (k67).sz, 40) := by kernel_rfl

def slices_CloneTok.f (l : List S67) : Option (List S67) := if l.length ≤ 268435456 then some l else none

set_option maxHeartbeats 2000000 in
set_option maxRecDepth 100000 in
theorem slices_CloneTok.calls (A0 : Option Addr) (c0 : Nat) (l0 : List S67) (r : List S67) (w : World) (hr0 : Kd.C k67 w A0 l0.length l0) (hc0 : l0.length ≤ c0) (h : slices_CloneTok.f l0 = some r) :
    Calls Tryd.prog 30 #[.slice A0 l0.length c0] w fun e w' => ∃ v0_ : Value, e = .returned (v0_) ∧ Kd.R k67 67 w' w.heap.size (fun _ => True) v0_ r ∧ Below w.heap.size w w' := by
  unfold slices_CloneTok.f at h
  split at h
  · rename_i hl
    obtain rfl := Option.some.inj h
    have HR0 := As.mk hr0
    have HL := As.mk hl
    have HE := As.mk (fun (W : World) => Lib.run_eql_slice_nil (P := Tryd.prog) W 54 67 A0 l0.length c0 0 0 Tryd.underlying54)
    cases A0 with
    | none =>
      have hn : l0 = [] := by
        cases l0 with
        | nil => rfl
        | cons x l =>
          obtain ⟨ad, e, _⟩ := hr0.2.2 (by simp)
          cases e
      subst hn
      have hE : ∀ W : World, (binOp .eql 54 (.slice none 0 c0) (.slice none 0 0)).run Tryd.prog W = .ok (.bool true) W := fun W => HE.out W
      clear hr0 hc0 h hl
      go_enter Tryd.func30, Tryd.ntmps30
      go_wp2
      go_ret
      exact ⟨_, rfl, Kd.R_nil _ _ _ _ _, Below.refl _ _⟩
    | some ad =>
      have hE := fun (W : World) => HE.out W
      clear hr0 hc0 h hl
      go_enter Tryd.func30, Tryd.ntmps30
      go_wp2_with (first
        | ((with_reducible refine gate_dst (N := 5) rfl ?_); refine Kd.R_lit (w0 := w) k67 w.heap.size 67 ?hg (N := 5) ?hd (xs := ([] : List S67)) (inner := []) (ok := fun _ => True) (okp := fun _ => True) ?hr ?hp (fun _ hk => hk) trivial (Below.refl _ _) (Nat.le_refl _) (by simp) ?_; (case hd => rfl); (case hg => rfl); (case hr => first | (go_simp; done) | (go_simp; rfl)); (case hp => exact (Reps.none _ _)); intro v1 w1 ho hb hg_ hnew_; have HO1 := As.mk ho; have HB1 := As.mk hb; clear hg_ hnew_ ho hb)
        | ((with_reducible refine gaB (b := .append) (xs := #[.tmp 5, .tmp 6]) rfl ?_); at_builtin; refine Kd.R_append_rows k67 (w0 := w) w.heap.size rfl (.tmp 5) (.tmp 6) 54 67 _ 40 rfl Tryd.underlying54 infoClone67 rfl (by decide) (by omega) v1 [] l0 _ _ _ (fun _ => True) (fun _ => False) rfl rfl ?aO ?aR (fun _ _ h => h) (fun _ h => h.elim) ?aF ?aB ?aS ?aL ?_; (case aR => exact (Kd.C_below HR0.out HB1.out)); (case aB => exact HB1.out); (case aF => exact (fun _ _ => trivial)); (case aO => exact HO1.out); (case aS => exact HB1.out.size); (case aL => have := HL.out; simp only [List.length_nil]; omega); intro v2 w2 ho hb hg hat; have HO2 := As.mk ho; have HB2 := As.mk hb; clear ho hb hg hat))
      go_ret
      exact ⟨_, rfl, HO2.out, HB2.out⟩
  · cases h

/-- A source is made; u: the world behind which it lies. -/
theorem from_calls (A : Option Addr) (c : Nat) (l : List S67) (w : World) (hr : Kd.C k67 w A l.length l) (hc : l.length ≤ c) (hl : l.length ≤ 268435456) :
    Calls Tryd.prog 17 #[.slice A l.length c] w fun e w' => ∃ gs u, e = .returned (.pointer (some ⟨gs, 0, none⟩)) ∧ Src u w' gs l ∧ Below u.heap.size u w' ∧ Below w.heap.size w u ∧ Below w.heap.size w w' := by
  have HC := As.mk (slices_CloneTok.calls A c l l w hr hc (if_pos hl))
  clear hr hc hl
  go_enter Tryd.func17, Tryd.ntmps17
  go_wp2_with (first
    | (go_at_call 30; (with_reducible refine HC.out.mono ?_); rintro e1 w1 ⟨v1, rfl, hr, hb⟩; have HR1 := As.mk hr; have HB1 := As.mk hb; clear hr hb; obtain ⟨A1, c1, e1⟩ := Kd.R_slice HR1.out; subst e1)
    | ((with_reducible refine gate_dst (N := 6) rfl ?_); refine box_event ?hg (N := 6) ?hd (cs := #[.slice A1 l.length c1]) (t := 69) ?hr ?_; (case hd => rfl); (case hg => rfl); (case hr => first | (go_simp; done) | (go_simp; rfl)); intro g2 hg w2 hbox hb; have HX := As.mk hbox; have HB2 := As.mk hb; have HG := As.mk hg; clear hbox hb hg))
  go_ret
  exact ⟨g2, w1, rfl, ⟨A1, c1, HX.out, by rw [HG.out]; exact Nat.le_refl _, (Kd.R_reads' HR1.out).2.1, (Kd.R_reads' HR1.out).2.2⟩, HB2.out, HB1.out, bwS HB1.out HB2.out⟩

/-- What Take comes to, in so many rounds: parts, error, what is left. -/
def takeF (k : Nat) (l : List S67) : Option (List S53 × Int × List S67) :=
  (levelF k 1 0 l 0).bind fun r => if r.2.2 = 0 then (if 64 < r.1.length then some ([], 5, r.2.1) else some (r.1, 0, r.2.1)) else some ([], r.2.2, r.2.1)

theorem take_nil (w : World) : Calls Tryd.prog 16 #[.pointer none] w fun e w' => e = .returned (.tuple #[.slice none 0 0, .int .i64 2]) ∧ w = w' := by
  go_enter Tryd.func16, Tryd.ntmps16
  go_wp2
  go_ret2
  exact ⟨rfl, rfl⟩

def TPost (w0 w : World) (gs : Nat) (r : List S53) (er : Int) (l' : List S67) (e : Ending) (w' : World) : Prop :=
  ∃ v, e = .returned (.tuple #[v, .int .i64 er]) ∧ Kd.R k53 53 w' w.heap.size (fun _ => True) v r ∧ Src w0 w' gs l' ∧ Below w0.heap.size w0 w' ∧ KeepBut w w' gs none

theorem kp_src_of {w w1 w2 : World} {g gs : Nat} (hb : Below w.heap.size w w1) (hg : g = w.heap.size) (hk : KP w1 w2 g gs) : KeepBut w w2 gs none :=
  ⟨Nat.le_trans hb.size hk.1, fun i hi hn _ => (hk.2 i (Nat.lt_of_lt_of_le hi hb.size) (fun h => h.elim (fun e => by omega) hn)).trans (hb.block i hi)⟩

set_option maxHeartbeats 4000000 in
set_option maxRecDepth 100000 in
theorem take_calls (k : Nat) (hk : k ≤ 100000) (gs : Nat) (l : List S67) (r : List S53 × Int × List S67) (h : takeF k l = some r) (w0 w : World) (hI : Src w0 w gs l) (hB : Below w0.heap.size w0 w) :
    Calls Tryd.prog 16 #[.pointer (some ⟨gs, 0, none⟩)] w (TPost w0 w gs r.1 r.2.1 r.2.2) := by
  unfold takeF at h
  obtain ⟨r0, h0, h⟩ := Option.bind_eq_some_iff.mp h
  have HI0 := As.mk hI
  have HB0 := As.mk hB
  have HL := As.mk (fun (g : Nat) (w1 : World) (i1 : Pst w0 w1 g gs l 0) (b1 : Below w0.heap.size w0 w1) => (all_calls k hk).1 w0 w1 g gs l 0 1 0 r0 i1 b1 (by omega) (by omega) h0)
  clear hI hB h0
  by_cases he : r0.2.2 = 0
  · rw [if_pos he] at h
    have he1 : (r0.2.2 != 0) = false := by simp [he]
    clear he
    by_cases h64 : 64 < r0.1.length
    · rw [if_pos h64] at h
      have h6 : decide (64 < (r0.1.length : Int)) = true := decide_eq_true (by omega)
      have h6b : decide (64 < r0.1.length) = true := decide_eq_true h64
      clear h64
      obtain rfl := Option.some.inj h
      clear h
      go_enter Tryd.func16, Tryd.ntmps16
      go_wp2_with (first
        | ((with_reducible refine gate_dst (N := 10) rfl ?_); refine box_event ?hg (N := 10) ?hd (cs := #[.pointer (some ⟨gs, 0, none⟩), .int .i64 0]) (t := 63) ?hr ?_; (case hd => rfl); (case hg => rfl); (case hr => first | (go_simp; done) | (go_simp; rfl)); intro g hg w1 hbox hb; have HB1 := As.mk (bwS HB0.out hb); have HI1 := As.mk (show Pst w0 w1 g gs l 0 from ⟨hbox, by rw [hg]; exact HB0.out.size, HI0.out.below hb⟩); have HW := As.mk hb; have HG := As.mk hg; clear hbox hb hg)
        | (go_at_call 29; (with_reducible refine (HL.out _ _ HI1.out HB1.out).mono ?_); rintro e1 w2 ⟨v2, rfl, hr, hi, hb, hkk⟩; have HR2 := As.mk (Kd.R_lower hr HW.out.size); have HI2 := As.mk hi; have HB2 := As.mk hb; have HK2 := As.mk (kp_src_of HW.out HG.out hkk); have hp1 := (blk_cell hi.p 1).trans (show _ = some (.int .i64 r0.2.2) from rfl); clear hr hi hb hkk; obtain ⟨A2, c2, e2⟩ := Kd.R_slice HR2.out; subst e2))
      go_ret2
      exact ⟨_, rfl, Kd.R_nil _ _ _ _ _, HI2.out.s, HB2.out, HK2.out⟩
    · rw [if_neg h64] at h
      have h6 : decide (64 < (r0.1.length : Int)) = false := decide_eq_false (by omega)
      have h6b : decide (64 < r0.1.length) = false := decide_eq_false h64
      clear h64
      obtain rfl := Option.some.inj h
      clear h
      go_enter Tryd.func16, Tryd.ntmps16
      go_wp2_with (first
        | ((with_reducible refine gate_dst (N := 10) rfl ?_); refine box_event ?hg (N := 10) ?hd (cs := #[.pointer (some ⟨gs, 0, none⟩), .int .i64 0]) (t := 63) ?hr ?_; (case hd => rfl); (case hg => rfl); (case hr => first | (go_simp; done) | (go_simp; rfl)); intro g hg w1 hbox hb; have HB1 := As.mk (bwS HB0.out hb); have HI1 := As.mk (show Pst w0 w1 g gs l 0 from ⟨hbox, by rw [hg]; exact HB0.out.size, HI0.out.below hb⟩); have HW := As.mk hb; have HG := As.mk hg; clear hbox hb hg)
        | (go_at_call 29; (with_reducible refine (HL.out _ _ HI1.out HB1.out).mono ?_); rintro e1 w2 ⟨v2, rfl, hr, hi, hb, hkk⟩; have HR2 := As.mk (Kd.R_lower hr HW.out.size); have HI2 := As.mk hi; have HB2 := As.mk hb; have HK2 := As.mk (kp_src_of HW.out HG.out hkk); have hp1 := (blk_cell hi.p 1).trans (show _ = some (.int .i64 r0.2.2) from rfl); clear hr hi hb hkk; obtain ⟨A2, c2, e2⟩ := Kd.R_slice HR2.out; subst e2))
      go_ret2
      exact ⟨_, rfl, HR2.out, HI2.out.s, HB2.out, HK2.out⟩
  · rw [if_neg he] at h
    have he1 : (r0.2.2 != 0) = true := by simp [he]
    clear he
    obtain rfl := Option.some.inj h
    clear h
    go_enter Tryd.func16, Tryd.ntmps16
    go_wp2_with (first
      | ((with_reducible refine gate_dst (N := 10) rfl ?_); refine box_event ?hg (N := 10) ?hd (cs := #[.pointer (some ⟨gs, 0, none⟩), .int .i64 0]) (t := 63) ?hr ?_; (case hd => rfl); (case hg => rfl); (case hr => first | (go_simp; done) | (go_simp; rfl)); intro g hg w1 hbox hb; have HB1 := As.mk (bwS HB0.out hb); have HI1 := As.mk (show Pst w0 w1 g gs l 0 from ⟨hbox, by rw [hg]; exact HB0.out.size, HI0.out.below hb⟩); have HW := As.mk hb; have HG := As.mk hg; clear hbox hb hg)
      | (go_at_call 29; (with_reducible refine (HL.out _ _ HI1.out HB1.out).mono ?_); rintro e1 w2 ⟨v2, rfl, hr, hi, hb, hkk⟩; have HR2 := As.mk (Kd.R_lower hr HW.out.size); have HI2 := As.mk hi; have HB2 := As.mk hb; have HK2 := As.mk (kp_src_of HW.out HG.out hkk); have hp1 := (blk_cell hi.p 1).trans (show _ = some (.int .i64 r0.2.2) from rfl); clear hr hi hb hkk; obtain ⟨A2, c2, e2⟩ := Kd.R_slice HR2.out; subst e2))
    go_quiet (fail)
    go_wp2
    go_ret2
    exact ⟨_, rfl, Kd.R_nil _ _ _ _ _, HI2.out.s, by repeat (first | exact HB2.out | apply bwN), by repeat (first | exact HK2.out | apply kpN)⟩

end Go.Proofs.YtpijgeijflbmhaaDoor.P

