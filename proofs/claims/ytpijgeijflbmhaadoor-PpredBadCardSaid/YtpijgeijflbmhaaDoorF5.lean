/- The pieces of a text, in plain Lean: classes of bytes, runs, and one piece behind another. -/
import Derived.Test.YtpijgeijflbmhaaDoorF4
import Derived.Test.YtpijgeijflbmhaaDoorF1
namespace Go.Proofs.YtpijgeijflbmhaaDoor.P
open Go.RowKit Go.Proofs.YtpijgeijflbmhaaDoorW.PrintWords Go.Proofs.YtpijgeijflbmhaaDoorW.PrintLast Go.Proofs.YtpijgeijflbmhaaDoorW.PrintMore
set_option linter.unusedVariables false

theorem up {α : Type} (f : Nat → Option α) (mono : ∀ k, LeO (f k) (f (k + 1))) {a k : Nat} {r : α} (h : f a = some r) (hk : a ≤ k) : f k = some r := by
  induction hk with
  | refl => exact h
  | step _ ih => exact mono _ _ ih

abbrev Bs := List UInt8
def ofL (l : Bs) : ByteArray := ⟨l.toArray⟩
theorem ofL_size (l : Bs) : (ofL l).size = l.length := by simp [ofL, ByteArray.size]
theorem ofL_app (a b : Bs) : ofL a ++ ofL b = ofL (a ++ b) := by
  apply ByteArray.ext; simp [ofL, ByteArray.data_append]
theorem bt_ofL (l : Bs) (i : Nat) (h : i < l.length) : bt (ofL l) (i : Int) = (l[i].toNat : Int) := by
  have h2 : ((i : Int)).toNat < (ofL l).size := by rw [ofL_size]; simpa using h
  unfold bt
  rw [dif_pos h2]
  rfl
theorem ofL_extract (l : Bs) (a b : Nat) : (ofL l).extract a b = ofL ((l.take b).drop a) := by
  apply ByteArray.ext
  simp only [ofL, ByteArray.data_extract, List.extract_toArray, List.extract_eq_take_drop, List.drop_take]
theorem toL_ofL (l : Bs) : (ofL l).toList = l := by rw [ByteArray.toList_eq]; rfl
theorem w64 (x : Int) (h : -1000000000 ≤ x) (h2 : x ≤ 1000000000) : wrap64 x = x := by unfold wrap64; omega

def clsOf (b : UInt8) : Int := (text_Class.f 4 b.toNat).getD 0
theorem cls_all : ∀ n : Nat, n < 256 → (text_Class.f 4 (n : Int)).isSome = true := by decide +kernel
theorem cls_eq (b : UInt8) (k : Nat) (hk : 4 ≤ k) : text_Class.f k (b.toNat : Int) = some (clsOf b) := by
  have h := cls_all b.toNat (by have := b.toNat_lt; omega)
  refine up (fun k => text_Class.f k (b.toNat : Int)) (fun k => text_Class.mono _ k) (a := 4) ?_ hk
  unfold clsOf
  cases h2 : text_Class.f 4 (b.toNat : Int) with
  | none => rw [h2] at h; cases h
  | some r => rfl

theorem left_eq (s : Bs) (a : Nat) (ha : a ≤ s.length) (hs : s.length ≤ 100000) : text_Reader_Left.f (ofL s) a = some ((s.length : Int) - a, ofL s, (a : Int)) := by
  unfold text_Reader_Left.f
  rw [ofL_size, w64 _ (by omega) (by omega)]

theorem class_at (s : Bs) (a k : Nat) (hk : 4 ≤ k) (ha : a < s.length) (hs : s.length ≤ 100000) : text_Reader_Class.f k (ofL s) a = some (clsOf s[a], ofL s, (a : Int)) := by
  unfold text_Reader_Class.f
  rw [left_eq s _ (Nat.le_of_lt ha) hs]
  have h1 : ¬ ((s.length : Int) - a = 0) := by omega
  have h2 : (0 : Int) ≤ a := by omega
  have h3 : (a : Int) < ((ofL s).size : Int) := by rw [ofL_size]; omega
  simp only [Option.bind_some, if_neg h1, if_pos h2, if_pos h3]
  rw [bt_ofL s a ha, cls_eq _ k hk]
  rfl

def inCls (x1 : List Int) (b : UInt8) : Bool := x1.contains (clsOf b)

/-- The class of a byte is one of those of a run: the inner loop. -/
theorem l1_one (c e : Int) (k : Nat) (x5 : Int) (s : ByteArray) (a : Int) : text_Reader_Run.l1 (k + 2) [c] x5 e false [c] 1 0 s a = (if (c == e) = true then text_Reader_Run.l0 k [c] x5 s (wrap64 (a + 1)) else if 0 ≤ x5 then (if x5 ≤ a then (if a ≤ (s.size : Int) then some (s.extract x5.toNat a.toNat, s, a) else none) else none) else none) := by
  have h1 : wrap64 1 = 1 := w64 1 (by omega) (by omega)
  cases h : (c == e) <;> simp [text_Reader_Run.l1, rd, h, h1]
theorem l1_two (c d e : Int) (k : Nat) (x5 : Int) (s : ByteArray) (a : Int) : text_Reader_Run.l1 (k + 3) [c, d] x5 e false [c, d] 2 0 s a = (if (c == e || d == e) = true then text_Reader_Run.l0 k [c, d] x5 s (wrap64 (a + 1)) else if 0 ≤ x5 then (if x5 ≤ a then (if a ≤ (s.size : Int) then some (s.extract x5.toNat a.toNat, s, a) else none) else none) else none) := by
  have h1 : wrap64 1 = 1 := w64 1 (by omega) (by omega)
  have h2 : wrap64 2 = 2 := w64 2 (by omega) (by omega)
  cases h : (c == e) <;> cases h' : (d == e) <;> simp [text_Reader_Run.l1, rd, h, h', h1, h2]

/-- A run's bytes, and what stands behind. -/
theorem run_l0 (x1 : List Int) (hx : (∃ c, x1 = [c] ∧ c ≠ 0) ∨ ∃ c d, x1 = [c, d] ∧ c ≠ 0 ∧ d ≠ 0) (p : Bs) (st : Nat) : ∀ (u v q : Bs) (k : Nat), (∀ b ∈ u, inCls x1 b = true) → (∀ b, q.head? = some b → inCls x1 b = false) → 10 + 8 * u.length ≤ k → (p ++ v ++ u ++ q).length ≤ 100000 → st = p.length →
    text_Reader_Run.l0 k x1 st (ofL (p ++ v ++ u ++ q)) ((p ++ v).length : Nat) = some (ofL (v ++ u), ofL (p ++ v ++ u ++ q), (((p ++ v ++ u).length : Nat) : Int)) := by
  intro u
  induction u with
  | nil =>
    intro v q k hu hq hk hs hst
    obtain ⟨k, rfl⟩ : ∃ j, k = j + 10 := ⟨k - 10, by omega⟩
    simp only [List.append_nil] at hs ⊢
    have hx1 : ((ofL (p ++ v ++ q)).extract p.length (p ++ v).length) = ofL v := by
      rw [ofL_extract]; congr 1; rw [List.append_assoc, ← List.append_assoc, List.take_left' rfl, List.drop_left' rfl]
    rw [text_Reader_Run.l0, left_eq _ _ (by simp) hs]
    simp only [Option.bind_some]
    cases q with
    | nil =>
      subst hst
      rw [if_neg (by simp)]
      rw [if_pos (by omega), if_pos (by simp only [List.length_append]; omega), if_pos (by rw [ofL_size]; simp)]
      simp only [Int.toNat_natCast, hx1]
    | cons b q =>
      have hc := class_at (p ++ v ++ b :: q) (p ++ v).length (k + 9) (by omega) (by simp) hs
      rw [if_pos (by simp only [List.length_append, List.length_cons]; omega), hc]
      have hb : (p ++ v ++ b :: q)[(p ++ v).length]'(by simp) = b := by simp
      rw [hb]
      have hq' := hq b rfl
      subst hst
      simp only [Option.bind_some]
      obtain ⟨c, rfl, _⟩ | ⟨c, d, rfl, _, _⟩ := hx
      · have hne : ¬ ((c == clsOf b) = true) := by intro h; simp [inCls] at hq'; simp at h; exact hq' h.symm
        rw [show ((([c] : List Int).length : Nat) : Int) = 1 from rfl, l1_one, if_neg hne]
        rw [if_pos (by omega), if_pos (by simp only [List.length_append]; omega), if_pos (by rw [ofL_size]; simp only [List.length_append]; omega)]
        simp only [Int.toNat_natCast, hx1]
      · have hne : ¬ ((c == clsOf b || d == clsOf b) = true) := by
          intro h; simp [inCls] at hq'; simp at h; exact h.elim (fun e => hq'.1 e.symm) (fun e => hq'.2 e.symm)
        rw [show ((([c, d] : List Int).length : Nat) : Int) = 2 from rfl, l1_two, if_neg hne]
        rw [if_pos (by omega), if_pos (by simp only [List.length_append]; omega), if_pos (by rw [ofL_size]; simp only [List.length_append]; omega)]
        simp only [Int.toNat_natCast, hx1]
  | cons b u ih =>
    intro v q k hu hq hk hs hst
    simp only [List.length_cons] at hk
    obtain ⟨k, rfl⟩ : ∃ j, k = j + 10 := ⟨k - 10, by omega⟩
    have e1 : p ++ v ++ b :: u ++ q = p ++ (v ++ [b]) ++ u ++ q := by simp
    have hi := fun k hk => ih (v ++ [b]) q k (fun x hx => hu x (List.mem_cons_of_mem _ hx)) hq hk (by rw [← e1]; exact hs) hst
    rw [text_Reader_Run.l0, left_eq _ _ (by simp) hs]
    simp only [Option.bind_some]
    have hc := class_at (p ++ v ++ b :: u ++ q) (p ++ v).length (k + 9) (by omega) (by simp) hs
    rw [if_pos (by simp only [List.length_append, List.length_cons]; omega), hc]
    have hb : (p ++ v ++ b :: u ++ q)[(p ++ v).length]'(by simp) = b := by simp
    rw [hb]
    have hin := hu b (List.mem_cons_self ..)
    simp only [Option.bind_some]
    have hw : wrap64 (((p ++ v).length : Int) + 1) = (((p ++ (v ++ [b])).length : Nat) : Int) := by
      simp only [List.length_append, List.length_cons, List.length_nil] at hs ⊢
      rw [w64 _ (by omega) (by omega)]; omega
    obtain ⟨c, rfl, _⟩ | ⟨c, d, rfl, _, _⟩ := hx
    · have hh : (c == clsOf b) = true := by simp [inCls] at hin; simp [hin]
      rw [show ((([c] : List Int).length : Nat) : Int) = 1 from rfl, l1_one, if_pos hh, hw, e1, hi _ (by omega)]
      simp
    · have hh : (c == clsOf b || d == clsOf b) = true := by
        simp [inCls] at hin; simp; exact hin.elim (fun e => .inl e.symm) (fun e => .inr e.symm)
      rw [show ((([c, d] : List Int).length : Nat) : Int) = 2 from rfl, l1_two, if_pos hh, hw, e1, hi _ (by omega)]
      simp

theorem run_eq (x1 : List Int) (hx : (∃ c, x1 = [c] ∧ c ≠ 0) ∨ ∃ c d, x1 = [c, d] ∧ c ≠ 0 ∧ d ≠ 0) (p u q : Bs) (k : Nat) (hu : ∀ b ∈ u, inCls x1 b = true) (hq : ∀ b, q.head? = some b → inCls x1 b = false) (hk : 10 + 8 * u.length ≤ k) (hs : (p ++ u ++ q).length ≤ 100000) :
    text_Reader_Run.f k (ofL (p ++ u ++ q)) (p.length : Nat) x1 = some (ofL u, ofL (p ++ u ++ q), (((p ++ u).length : Nat) : Int)) := by
  unfold text_Reader_Run.f text_Reader_At.f
  have h := run_l0 x1 hx p p.length u [] q k hu hq hk (by simpa using hs) rfl
  simp only [List.append_nil, List.nil_append] at h
  simpa using h

/-- A piece, the blank ahead of it, and its bytes. -/
structure Pc where
  sp : Bool
  raw : Bs
  kind : Int
  S : Bs
  N : Int

def Pc.tok (c : Pc) (a : Int) : S67 := ⟨c.kind, ofL c.S, c.N, a⟩

/-- The lexer takes the piece, where such a byte stands behind it. -/
def LexOK (c : Pc) (n : Option UInt8) : Prop := ∀ (p q : Bs) (k : Nat), q.head? = n → 400 ≤ k → (p ++ c.raw ++ q).length ≤ 100000 →
  lex_next.f k (ofL (p ++ c.raw ++ q)) (p.length : Nat) = some (c.kind, ofL c.S, c.N, ((p.length : Nat) : Int), 0, ofL (p ++ c.raw ++ q), (((p ++ c.raw).length : Nat) : Int))

theorem next_head (raw p q : Bs) (b : UInt8) (u : Bs) (hr : raw = b :: u) (k : Nat) (hk : 4 ≤ k) (hs : (p ++ raw ++ q).length ≤ 100000) :
    text_Reader_Class.f k (ofL (p ++ raw ++ q)) (p.length : Nat) = some (clsOf b, ofL (p ++ raw ++ q), (p.length : Int)) := by
  subst hr
  have h := class_at (p ++ b :: u ++ q) p.length k hk (by simp) hs
  have hb : (p ++ b :: u ++ q)[p.length]'(by simp) = b := by simp
  rw [hb] at h
  exact h

theorem lex_wordlike (c : Pc) (n : Option UInt8) (b : UInt8) (u : Bs) (hr : c.raw = b :: u) (hb : clsOf b = 2) (hall : ∀ x ∈ c.raw, inCls [2, 3] x = true) (hn : ∀ x, n = some x → inCls [2, 3] x = false) (hl : c.raw.length ≤ 40) (hS : c.S = c.raw) (hN : c.N = 0)
    (hw : (c.kind = 2 ∧ lex_Word.f (ofL c.raw) = some true) ∨ (c.kind = 1 ∧ lex_Word.f (ofL c.raw) = some false ∧ schema_Name.f 300 (ofL c.raw) = some true)) : LexOK c n := by
  intro p q k hq hk hs
  unfold lex_next.f text_Reader_At.f
  simp only [Option.bind_some]
  rw [next_head c.raw p q b u hr k (by omega) hs]
  simp only [Option.bind_some]
  rw [if_pos hb, run_eq [2, 3] (.inr ⟨2, 3, rfl, by decide, by decide⟩) p c.raw q k hall (fun x hx => hn x (by rw [← hq]; exact hx)) (by omega) hs]
  simp only [Option.bind_some]
  obtain ⟨h1, h2⟩ | ⟨h1, h2, h3⟩ := hw
  · rw [h2, h1, hS, hN]; rfl
  · rw [h2, h1, hS, hN, Option.bind_some, if_neg (by decide), up (fun k => schema_Name.f k (ofL c.raw)) (fun k => schema_Name.mono _ k) h3 (by omega)]; rfl

theorem lex_number (c : Pc) (n : Option UInt8) (b : UInt8) (u : Bs) (hr : c.raw = b :: u) (hb : clsOf b = 3) (hall : ∀ x ∈ c.raw, inCls [3] x = true) (hn : ∀ x, n = some x → inCls [3] x = false) (hl : c.raw.length ≤ 40) (hS : c.S = c.raw) (hk1 : c.kind = 3)
    (hw : num_Parse.f 300 (ofL c.raw) = some (c.N, true)) : LexOK c n := by
  intro p q k hq hk hs
  unfold lex_next.f text_Reader_At.f
  simp only [Option.bind_some]
  rw [next_head c.raw p q b u hr k (by omega) hs]
  simp only [Option.bind_some]
  rw [if_neg (by rw [hb]; decide), if_pos hb, run_eq [3] (.inl ⟨3, rfl, by decide⟩) p c.raw q k hall (fun x hx => hn x (by rw [← hq]; exact hx)) (by omega) hs]
  simp only [Option.bind_some]
  rw [up (fun k => num_Parse.f k (ofL c.raw)) (fun k => num_Parse.mono _ k) hw (by omega), hS, hk1]
  rfl

theorem two_at (p r t : Bs) (hs : (p ++ r).length ≤ 100000) (ht : t.length = 2) :
    text_Reader_Two.f (ofL (p ++ r)) (p.length : Nat) (ofL t) = if r.take 2 = t then some (true, ofL (p ++ r), ((p.length + 2 : Nat) : Int)) else some (false, ofL (p ++ r), ((p.length : Nat) : Int)) := by
  unfold text_Reader_Two.f
  have hz : (ofL (p ++ r)).size = p.length + r.length := by rw [ofL_size, List.length_append]
  rw [if_pos ⟨by omega, by omega, by rw [hz]; simp only [List.length_append] at hs; omega, by rw [ofL_size]; exact ht⟩]
  by_cases h : ((ofL (p ++ r)).size : Int) - (p.length : Nat) < 2
  · rw [if_pos h, if_neg]
    intro e
    have := congrArg List.length e
    rw [List.length_take, ht] at this
    omega
  · rw [if_neg h]
    have e : ((ofL (p ++ r)).extract ((p.length : Nat) : Int).toNat (((p.length : Nat) : Int) + 2).toNat) = ofL (r.take 2) := by
      rw [ofL_extract, show (((p.length : Nat) : Int) + 2).toNat = p.length + 2 from by omega, Int.toNat_natCast, List.take_append, List.take_of_length_le (by omega), List.drop_left' rfl]
      congr 2; omega
    rw [e, toL_ofL, toL_ofL]
    by_cases h2 : r.take 2 = t
    · rw [if_pos h2, if_pos h2]; rfl
    · rw [if_neg h2, if_neg h2]

theorem twosL_eq : twosL = [ofL [33, 61], ofL [60, 61], ofL [62, 61]] := rfl

theorem byte_at (p r : Bs) (b : UInt8) (hs : (p ++ b :: r).length ≤ 100000) : text_Reader_Byte.f (ofL (p ++ b :: r)) (p.length : Nat) = some ((b.toNat : Int), ofL (p ++ b :: r), ((p.length + 1 : Nat) : Int)) := by
  unfold text_Reader_Byte.f
  have hl : (p ++ b :: r).length = p.length + r.length + 1 := by simp; omega
  rw [left_eq _ _ (by omega) hs]
  have hw : wrap64 (((p.length : Nat) : Int) + 1) = ((p.length + 1 : Nat) : Int) := by rw [w64 _ (by omega) (by omega)]; rfl
  have hw2 : wrap64 (((p.length + 1 : Nat) : Int) - 1) = ((p.length : Nat) : Int) := by rw [w64 _ (by omega) (by omega)]; omega
  have h0 : ¬ (((p ++ b :: r).length : Int) - (p.length : Nat) = 0) := by omega
  simp only [Option.bind_some, hw, hw2]
  rw [if_neg h0, if_pos (by omega), if_pos (by rw [ofL_size]; omega), bt_ofL _ _ (by omega)]
  simp

theorem lex_sign1 (c : Pc) (n : Option UInt8) (x : UInt8) (hr : c.raw = [x]) (hx : clsOf x = 4) (hn : ∀ y, n = some y → [x, y] ≠ [33, 61] ∧ [x, y] ≠ [60, 61] ∧ [x, y] ≠ [62, 61]) (hk1 : c.kind = 5) (hS : c.S = c.raw) (hN : c.N = 0) : LexOK c n := by
  intro p q k hq hk hs
  unfold lex_next.f text_Reader_At.f
  simp only [Option.bind_some]
  rw [next_head c.raw p q x [] hr k (by omega) hs]
  simp only [Option.bind_some]
  rw [if_neg (by rw [hx]; decide), if_neg (by rw [hx]; decide), if_neg (by rw [hx]; decide), if_pos hx]
  rw [hr] at hs ⊢
  have e0 : p ++ [x] ++ q = p ++ (x :: q) := by simp
  have hne : ∀ t : Bs, (t = [33, 61] ∨ t = [60, 61] ∨ t = [62, 61]) → ¬ ((x :: q).take 2 = t) := by
    intro t ht e
    cases q with
    | nil => rcases ht with rfl | rfl | rfl <;> simp at e
    | cons y q =>
      have h := hn y (by rw [← hq]; rfl)
      simp only [List.take_succ_cons, List.take_zero] at e
      rcases ht with rfl | rfl | rfl
      · exact h.1 e
      · exact h.2.1 e
      · exact h.2.2 e
  rw [e0] at hs ⊢
  unfold lex_sign.f
  rw [twosL_eq, signFrom, two_at p (x :: q) _ hs rfl, if_neg (hne _ (.inl rfl)), Option.bind_some, if_neg Bool.false_ne_true, signFrom, two_at p (x :: q) _ hs rfl, if_neg (hne _ (.inr (.inl rfl))), Option.bind_some, if_neg Bool.false_ne_true, signFrom, two_at p (x :: q) _ hs rfl, if_neg (hne _ (.inr (.inr rfl))), Option.bind_some, if_neg Bool.false_ne_true, signFrom, byte_at p q x hs]
  have e3 : strOfNums [(x.toNat : Int)] = ofL [x] := by simp [strOfNums, ofL]
  simp [hS, hN, hk1, hr, e3]

theorem lex_sign2 (c : Pc) (n : Option UInt8) (x y : UInt8) (hr : c.raw = [x, y]) (hx : clsOf x = 4) (hn : [x, y] = [33, 61] ∨ [x, y] = [60, 61] ∨ [x, y] = [62, 61]) (hk1 : c.kind = 5) (hS : c.S = c.raw) (hN : c.N = 0) : LexOK c n := by
  intro p q k hq hk hs
  unfold lex_next.f text_Reader_At.f
  simp only [Option.bind_some]
  rw [next_head c.raw p q x [y] hr k (by omega) hs]
  simp only [Option.bind_some]
  rw [if_neg (by rw [hx]; decide), if_neg (by rw [hx]; decide), if_neg (by rw [hx]; decide), if_pos hx]
  rw [hr] at hs ⊢
  have e0 : p ++ [x, y] ++ q = p ++ (x :: y :: q) := by simp
  rw [e0] at hs ⊢
  have e2 : (x :: y :: q).take 2 = [x, y] := by simp
  unfold lex_sign.f
  rcases hn with h | h | h <;>
  · simp only [List.cons.injEq, and_true] at h
    obtain ⟨rfl, rfl⟩ := h
    simp [twosL_eq, signFrom, two_at p _ _ hs, hS, hN, hk1, hr]

theorem span_of (f : UInt8 → Bool) : ∀ l : Bs, ∃ u q, l = u ++ q ∧ (∀ b ∈ u, f b = true) ∧ (∀ b, q.head? = some b → f b = false) ∧ (∀ b, l.head? = some b → f b = true → u ≠ []) := by
  intro l
  induction l with
  | nil => exact ⟨[], [], rfl, by simp, by simp, by simp⟩
  | cons b l ih =>
    obtain ⟨u, q, h1, h2, h3, h4⟩ := ih
    cases hb : f b with
    | true => exact ⟨b :: u, q, by rw [h1]; rfl, by intro x hx; cases hx with
        | head => exact hb
        | tail _ hx => exact h2 x hx, h3, by simp⟩
    | false => exact ⟨[], b :: l, rfl, by simp, by intro x hx; cases hx; exact hb, by intro x hx hf; cases hx; rw [hb] at hf; cases hf⟩

/-- A run anywhere in a text. -/
theorem run_total (x1 : List Int) (hx : (∃ c, x1 = [c] ∧ c ≠ 0) ∨ ∃ c d, x1 = [c, d] ∧ c ≠ 0 ∧ d ≠ 0) (s : Bs) (a k : Nat) (ha : a ≤ s.length) (hk : 10 + 8 * s.length ≤ k) (hs : s.length ≤ 100000) :
    ∃ u q : Bs, s.drop a = u ++ q ∧ text_Reader_Run.f k (ofL s) (a : Nat) x1 = some (ofL u, ofL s, ((a + u.length : Nat) : Int)) ∧ a + u.length ≤ s.length ∧ (∀ b ∈ u, inCls x1 b = true) ∧ (∀ b, (s.drop a).head? = some b → inCls x1 b = true → u ≠ []) := by
  obtain ⟨u, q, h1, h2, h3, h4⟩ := span_of (inCls x1) (s.drop a)
  have e : s.take a ++ u ++ q = s := by rw [List.append_assoc, ← h1, List.take_append_drop]
  have hl : (s.take a).length = a := by rw [List.length_take]; omega
  have hd := congrArg List.length e
  simp only [List.length_append, hl] at hd
  have h := run_eq x1 hx (s.take a) u q k h2 h3 (by omega) (by rw [e]; exact hs)
  rw [e, List.length_append, hl] at h
  exact ⟨u, q, h1, h, by omega, h2, h4⟩

theorem letter_total (v : Int) : ∃ b, schema_letter.f v = some b := by
  unfold schema_letter.f
  repeat' split
  all_goals exact ⟨_, rfl⟩

theorem name_l1 (x : ByteArray) (n : Nat) (hn : x.size = n) (h16 : n ≤ 16) : ∀ (d k i : Nat), i + d = 43 - n → d < k → ∃ b, schema_Name.l1 k x ((43 : Int) - n) (i : Nat) = some b := by
  intro d
  induction d with
  | zero =>
    intro k i hd hk
    obtain ⟨k, rfl⟩ : ∃ j, k = j + 1 := ⟨k - 1, by omega⟩
    rw [schema_Name.l1, if_neg (by omega)]
    exact ⟨_, rfl⟩
  | succ d ih =>
    intro k i hd hk
    obtain ⟨k, rfl⟩ : ∃ j, k = j + 1 := ⟨k - 1, by omega⟩
    rw [schema_Name.l1, if_pos (by omega), if_pos (by omega), hn, w64 ((i : Int) + n) (by omega) (by omega), w64 ((i : Int) + n + 2) (by omega) (by omega), if_pos (by omega), if_pos (by omega), if_pos (by omega),
      if_pos (by rw [ByteArray.size_append, hn]; exact (by decide +revert : ∀ n : Nat, n ≤ 16 → (1 : Nat) + n + 1 ≤ 9223372036854775807) n h16), w64 ((i : Int) + 1) (by omega) (by omega)]
    split
    · exact ⟨_, rfl⟩
    · exact ih k (i + 1) (by omega) (by omega)

theorem name_l0 (x : ByteArray) (n : Nat) (hn : x.size = n) (h16 : n ≤ 16) : ∀ (d k i : Nat), i + d = n → d + 50 < k → ∃ b, schema_Name.l0 k x (n : Nat) (i : Nat) = some b := by
  intro d
  induction d with
  | zero =>
    intro k i hd hk
    obtain ⟨k, rfl⟩ : ∃ j, k = j + 1 := ⟨k - 1, by omega⟩
    rw [schema_Name.l0, if_neg (by omega), hn, w64 ((44 : Int) - n) (by omega) (by omega), w64 ((44 : Int) - n - 1) (by omega) (by omega), show ((44 : Int) - n - 1) = 43 - n by omega]
    exact name_l1 x n hn h16 (43 - n) k 0 (by omega) (by omega)
  | succ d ih =>
    intro k i hd hk
    obtain ⟨k, rfl⟩ : ∃ j, k = j + 1 := ⟨k - 1, by omega⟩
    obtain ⟨b, hb⟩ := letter_total (bt x (i : Nat))
    have hi := ih k (i + 1) (by omega) (by omega)
    rw [schema_Name.l0, if_pos (by omega), if_pos (by omega), if_pos (by omega), hb, Option.bind_some, w64 ((i : Int) + 1) (by omega) (by omega)]
    repeat' split
    all_goals first
      | exact ⟨_, rfl⟩
      | exact hi

theorem name_total (x : Bs) (k : Nat) (hk : 80 ≤ k) : ∃ b, schema_Name.f k (ofL x) = some b := by
  obtain ⟨k, rfl⟩ : ∃ j, k = j + 1 := ⟨k - 1, by omega⟩
  unfold schema_Name.f
  have jt : ∃ b, schema_Name.j0 (k + 1) (ofL x) true = some b := ⟨false, by rw [schema_Name.j0, if_pos rfl]⟩
  rw [toL_ofL, ofL_size]
  by_cases h0 : x = []
  · rw [if_pos h0]; exact jt
  · rw [if_neg h0]
    by_cases h1 : (x.length : Int) > 16
    · rw [if_pos h1]; exact jt
    · have hp := List.length_pos_iff.mpr h0
      obtain ⟨b, hb⟩ := letter_total (bt (ofL x) 0)
      rw [if_neg h1, if_pos (by omega), hb, Option.bind_some]
      cases b with
      | false => exact jt
      | true =>
        rw [schema_Name.j0, if_neg (by decide), ofL_size]
        exact name_l0 (ofL x) x.length (ofL_size x) (by omega) x.length k 0 (by omega) (by omega)

theorem mul_total (x : Int) (k : Nat) (hk : 3 ≤ k) : ∃ r, num_Mul.f k x 10 = some r := by
  obtain ⟨k, rfl⟩ : ∃ j, k = j + 3 := ⟨k - 3, by omega⟩
  unfold num_Mul.f num_Mul.j0 num_Mul.j1
  repeat' split
  all_goals first
    | exact ⟨_, rfl⟩
    | omega

theorem sub_total (a b : Int) : ∃ r, num_Sub.f a b = some r := by
  unfold num_Sub.f
  repeat' split
  all_goals exact ⟨_, rfl⟩

theorem neg_total (a : Int) : ∃ r, num_Neg.f a = some r := by
  obtain ⟨r, hr⟩ := sub_total 0 a
  unfold num_Neg.f
  rw [hr]
  exact ⟨_, rfl⟩

theorem u64_in (x : Int) (h : 0 ≤ x) (h2 : x < 18446744073709551616) : IntKind.u64.wrap x = x := by
  rw [IntKind.wrap_u64]
  exact Int.emod_eq_of_lt h h2

theorem digits_l1 : ∀ (d k : Nat) (l : List Int) (i j : Int), (j - i).toNat ≤ d → d < k → 0 ≤ i → j < (l.length : Int) → l.length ≤ 100 → -1 ≤ j → ∃ r, num_Digits.l1 k l i j = some r := by
  intro d
  induction d with
  | zero =>
    intro k l i j hd hk h0 h1 hl hj
    obtain ⟨k, rfl⟩ : ∃ j, k = j + 1 := ⟨k - 1, by omega⟩
    rw [num_Digits.l1, if_neg (by omega)]
    exact ⟨_, rfl⟩
  | succ d ih =>
    intro k l i j hd hk h0 h1 hl hj
    obtain ⟨k, rfl⟩ : ∃ j, k = j + 1 := ⟨k - 1, by omega⟩
    rw [num_Digits.l1]
    by_cases h : i < j
    · rw [if_pos h, if_pos (by omega), if_pos h1, if_pos h0, if_pos (by omega), w64 (i + 1) (by omega) (by omega), w64 (j - 1) (by omega) (by omega)]
      exact ih k _ _ _ (by omega) (by omega) (by omega) (by simp only [List.length_set]; omega) (by simp only [List.length_set]; omega) (by omega)
    · rw [if_neg h]
      exact ⟨_, rfl⟩

theorem digits_j2 (l : List Int) (k : Nat) (hk : 120 ≤ k) (hl : l.length ≤ 100) : ∃ r, num_Digits.j2 k l = some r := by
  obtain ⟨k, rfl⟩ : ∃ j, k = j + 1 := ⟨k - 1, by omega⟩
  rw [num_Digits.j2, w64 ((l.length : Int) - 1) (by omega) (by omega)]
  exact digits_l1 101 k l 0 _ (by omega) (by omega) (by omega) (by omega) hl (by omega)

theorem digits_l0 (x0 : Int) : ∀ (d k : Nat) (l : List Int) (x : Int), 0 ≤ x → x < 10 ^ d → d ≤ 20 → d + 121 ≤ k → l.length + d ≤ 90 → x < 18446744073709551616 → ∃ r, num_Digits.l0 k x0 l x = some r := by
  intro d
  induction d with
  | zero =>
    intro k l x h0 h1 hd hk hl hx
    obtain ⟨k, rfl⟩ : ∃ j, k = j + 1 := ⟨k - 1, by omega⟩
    have hz : x = 0 := by simp at h1; omega
    rw [num_Digits.l0, if_neg (by omega), if_pos (Nat.lt_of_le_of_lt (show l.length ≤ 90 by omega) (by decide))]
    split
    · exact digits_j2 _ k (by omega) (by simp only [List.length_append, List.length_cons, List.length_nil]; omega)
    · exact digits_j2 _ k (by omega) (by omega)
  | succ d ih =>
    intro k l x h0 h1 hd hk hl hx
    obtain ⟨k, rfl⟩ : ∃ j, k = j + 1 := ⟨k - 1, by omega⟩
    have hlt : l.length < 140737488355328 := Nat.lt_of_le_of_lt (show l.length ≤ 90 by omega) (by decide)
    rw [num_Digits.l0, if_pos hlt, if_pos hlt]
    by_cases hp : x > 0
    · have e : Int.tdiv x 10 = x / 10 := Int.tdiv_eq_ediv_of_nonneg h0
      have hq : x / 10 < 10 ^ d := by
        have : (10 : Int) ^ (d + 1) = 10 ^ d * 10 := Int.pow_succ ..
        omega
      rw [if_pos hp, e, u64_in (x / 10) (by omega) (by omega)]
      exact ih k _ _ (by omega) hq (by omega) (by omega) (by simp only [List.length_append, List.length_cons, List.length_nil]; omega) (by omega)
    · rw [if_neg hp]
      split
      · exact digits_j2 _ k (by omega) (by simp only [List.length_append, List.length_cons, List.length_nil]; omega)
      · exact digits_j2 _ k (by omega) (by omega)

theorem u64_range (x : Int) : 0 ≤ IntKind.u64.wrap x ∧ IntKind.u64.wrap x < 18446744073709551616 := by
  rw [IntKind.wrap_u64]; omega

theorem digits_total (x : Int) (k : Nat) (hk : 150 ≤ k) : ∃ r, num_Digits.f k x = some r := by
  obtain ⟨k, rfl⟩ : ∃ j, k = j + 1 := ⟨k - 1, by omega⟩
  have hb : (18446744073709551616 : Int) < 10 ^ 20 := by decide
  unfold num_Digits.f
  split
  · exact ⟨_, rfl⟩
  · split
    · obtain ⟨h1, h2⟩ := u64_range (-(IntKind.u64.wrap x))
      rw [num_Digits.j0]
      exact digits_l0 x 20 k [] _ h1 (by omega) (by omega) (by omega) (by simp) h2
    · obtain ⟨h1, h2⟩ := u64_range x
      rw [num_Digits.j0]
      exact digits_l0 x 20 k [] _ h1 (by omega) (by omega) (by omega) (by simp) h2

theorem parse_l0 (x0 x5 : ByteArray) (x4 : Bool) (n : Nat) (hn : x5.size = n) (h19 : n ≤ 19) : ∀ (d k i : Nat) (x6 : Int), i + d = n → 2 * d + 160 ≤ k → ∃ r, num_Parse.l0 k x0 x4 x5 x6 (n : Nat) (i : Nat) = some r := by
  intro d
  induction d with
  | zero =>
    intro k i x6 hd hk
    obtain ⟨k, rfl⟩ : ∃ j, k = j + 1 := ⟨k - 1, by omega⟩
    obtain ⟨t, ht⟩ := digits_total x6 k (by omega)
    obtain ⟨g, hg⟩ := neg_total x6
    obtain ⟨t2, ht2⟩ := digits_total g.1 k (by omega)
    rw [num_Parse.l0, if_neg (by omega), ht, hg, Option.bind_some, Option.bind_some, ht2, Option.bind_some]
    repeat' split
    all_goals exact ⟨_, rfl⟩
  | succ d ih =>
    intro k i x6 hd hk
    obtain ⟨k, rfl⟩ : ∃ j, k = j + 2 := ⟨k - 2, by omega⟩
    have hj : ∀ b v, ∃ r, num_Parse.j4 (k + 1) x0 x4 x5 x6 v (n : Nat) (i : Nat) b = some r := by
      intro b v
      obtain ⟨m, hm⟩ := mul_total x6 k (by omega)
      obtain ⟨u, hu⟩ := sub_total m.1 ((v - 48) % 256)
      have hi := ih k (i + 1) u.1 (by omega) (by omega)
      rw [num_Parse.j4, hm, Option.bind_some, hu, Option.bind_some, w64 ((i : Int) + 1) (by omega) (by omega)]
      repeat' split
      all_goals first
        | exact ⟨_, rfl⟩
        | exact hi
    rw [num_Parse.l0, if_pos (by omega), if_pos (by omega), if_pos (by omega)]
    split <;> exact hj _ _

theorem nparse_total (x : Bs) (k : Nat) (hk : 210 ≤ k) : ∃ r, num_Parse.f k (ofL x) = some r := by
  obtain ⟨k, rfl⟩ : ∃ j, k = j + 3 := ⟨k - 3, by omega⟩
  have hj1 : ∀ (x0 : ByteArray) (b : Bool) (y : Bs), ∃ r, num_Parse.j1 (k + 2) x0 b (ofL y) = some r := by
    intro x0 b y
    rw [num_Parse.j1, toL_ofL, ofL_size]
    have jt : ∃ r, num_Parse.j2 (k + 1) x0 b (ofL y) true = some r := ⟨_, by rw [num_Parse.j2, if_pos rfl]⟩
    split
    · exact jt
    · by_cases h : (y.length : Int) > 19
      · rw [decide_eq_true h]; exact jt
      · rw [decide_eq_false h, num_Parse.j2, if_neg (by decide), ofL_size]
        exact parse_l0 x0 (ofL y) b y.length (ofL_size y) (by omega) y.length k 0 0 (by omega) (by omega)
  unfold num_Parse.f
  rw [toL_ofL, ofL_size]
  split
  · rw [num_Parse.j0, if_neg (by decide)]
    exact hj1 _ _ _
  · rename_i h0
    have hp := List.length_pos_iff.mpr h0
    rw [if_pos (by omega), num_Parse.j0, ofL_size, if_pos (by omega : (1 : Int) ≤ x.length)]
    split
    · rw [show (ofL x).extract 1 x.length = ofL ((x.take x.length).drop 1) from ofL_extract x 1 x.length]
      exact hj1 _ _ _
    · exact hj1 _ _ _

theorem quoted_l0 (s : Bs) (a : Nat) (hs : s.length ≤ 100000) : ∀ (d k i : Nat), s.length - i ≤ d → d < k → a < i → ∃ (r : Bs) (ok : Bool) (b : Nat), text_Reader_Quoted.l0 k (i : Nat) (ofL s) (a : Nat) = some (ofL r, ok, ofL s, (b : Int)) ∧ (ok = true → a < b ∧ b ≤ s.length ∧ r.length ≤ s.length) := by
  intro d
  induction d with
  | zero =>
    intro k i hd hk ha
    obtain ⟨k, rfl⟩ : ∃ j, k = j + 1 := ⟨k - 1, by omega⟩
    rw [text_Reader_Quoted.l0, if_neg (by rw [ofL_size]; omega)]
    exact ⟨[], false, a, rfl, by simp⟩
  | succ d ih =>
    intro k i hd hk ha
    obtain ⟨k, rfl⟩ : ∃ j, k = j + 1 := ⟨k - 1, by omega⟩
    by_cases hi : i < s.length
    · have hex : ∃ (r : Bs) (ok : Bool) (b : Nat), some ((ofL s).extract ((a : Nat) : Int).toNat ((i : Int) + 1).toNat, true, ofL s, (i : Int) + 1) = some (ofL r, ok, ofL s, (b : Int)) ∧ (ok = true → a < b ∧ b ≤ s.length ∧ r.length ≤ s.length) := by
        refine ⟨_, true, i + 1, by rw [ofL_extract]; rfl, fun _ => ⟨by omega, by omega, ?_⟩⟩
        simp only [List.length_drop, List.length_take]
        omega
      have i1 := ih k (i + 1) (by omega) (by omega) (by omega)
      have i2 := ih k (i + 2) (by omega) (by omega) (by omega)
      rw [text_Reader_Quoted.l0, ofL_size, if_pos (by omega), if_pos (by omega), w64 ((i : Int) + 1) (by omega) (by omega), w64 ((i : Int) + 1 + 1) (by omega) (by omega)]
      split
      · split
        · rw [if_pos (by omega)]
          split
          · exact i2
          · rw [if_pos (by omega), if_pos (by omega), if_pos (by omega)]
            exact hex
        · rw [if_pos (by omega), if_pos (by omega), if_pos (by omega)]
          exact hex
      · exact i1
    · rw [text_Reader_Quoted.l0, if_neg (by rw [ofL_size]; omega)]
      exact ⟨[], false, a, rfl, by simp⟩

theorem replaceK_len (old new : Bs) : ∀ (k : Nat) (s : Bs), (Lib.replaceK old new k s).length ≤ s.length + k * new.length := by
  intro k
  induction k with
  | zero => intro s; simp [Lib.replaceK]
  | succ k ih =>
    intro s
    rw [Lib.replaceK]
    split
    · omega
    · have h := ih (s.drop ((Lib.index s old).toNat + old.length))
      simp only [List.length_append, List.length_take, List.length_drop, Nat.add_mul] at h ⊢
      omega

theorem replaceAll_len (s old new : Bs) (hn : new.length ≤ 2) : (Lib.replaceAll s old new).length ≤ 3 * s.length + 2 := by
  unfold Lib.replaceAll Lib.replace
  split
  · omega
  · have h := replaceK_len old new (Lib.replaceNum s old (-1)) s
    have hc := Lib.count_le s old
    have e : Lib.replaceNum s old (-1) = Lib.count s old := by unfold Lib.replaceNum; rw [if_pos (.inl (by decide))]
    rw [e] at h ⊢
    have h2 := Nat.mul_le_mul hc hn
    generalize Lib.count s old * new.length = m at h h2
    generalize (Lib.replaceK old new (Lib.count s old) s).length = y at h ⊢
    omega

theorem ofL_toList (l : Bs) : (ofL l).data.toList = l := rfl

theorem replace_total (s old new : Bs) (hs : s.length ≤ 4000000) (ho : 1 ≤ old.length) (hn : new.length ≤ 2) : ∃ r : Bs, strings_ReplaceAll.f (ofL s) (ofL old) (ofL new) = some (ofL r) ∧ r.length ≤ 3 * s.length + 2 := by
  unfold strings_ReplaceAll.f
  rw [ofL_size, ofL_size, ofL_size, if_pos (by omega), ofL_toList, ofL_toList, ofL_toList]
  exact ⟨_, rfl, replaceAll_len s old new hn⟩

theorem unquote_total (x : Bs) (k : Nat) (hk : 1 ≤ k) (hx : x.length ≤ 100000) : ∃ (r : Bs) (b : Bool), value_Unquote.f k (ofL x) = some (ofL r, b) := by
  obtain ⟨k, rfl⟩ : ∃ j, k = j + 1 := ⟨k - 1, by omega⟩
  have jt : ∃ (r : Bs) (b : Bool), value_Unquote.j0 (k + 1) (ofL x) true = some (ofL r, b) := ⟨[], false, by rw [value_Unquote.j0, if_pos rfl]; rfl⟩
  unfold value_Unquote.f
  rw [ofL_size]
  by_cases h : (x.length : Int) < 2
  · rw [if_pos h]; exact jt
  · rw [if_neg h, if_pos (by omega)]
    split
    · rw [w64 ((x.length : Int) - 1) (by omega) (by omega), if_pos (by omega), if_pos (by omega)]
      cases hb : (bt (ofL x) ((x.length : Int) - 1) != 39) with
      | true => exact jt
      | false =>
        obtain ⟨t, ht, ht2⟩ := replace_total ((x.take ((x.length : Int) - 1).toNat).drop 1) [39, 39] [39] (by simp only [List.length_drop, List.length_take]; omega) (by simp) (by simp)
        have htl : t.length ≤ 3 * x.length + 2 := by simp only [List.length_drop, List.length_take] at ht2; omega
        obtain ⟨q, hq, hq2⟩ := replace_total t [39] [39, 39] (by omega) (by simp) (by simp)
        have hQ : ∃ y, value_Quote.f (ofL t) = some y := by
          unfold value_Quote.f
          rw [show (⟨#[39]⟩ : ByteArray) = ofL [39] from rfl, show (⟨#[39, 39]⟩ : ByteArray) = ofL [39, 39] from rfl, hq, Option.bind_some, ofL_app, ofL_size, ofL_size, if_pos (by omega), if_pos (by simp only [List.length_append, List.length_cons, List.length_nil]; omega)]
          exact ⟨_, rfl⟩
        obtain ⟨y, hy⟩ := hQ
        rw [value_Unquote.j0, if_neg (by decide), ofL_size, w64 ((x.length : Int) - 1) (by omega) (by omega), if_pos (by omega), if_pos (by omega), ofL_extract,
          show (⟨#[39]⟩ : ByteArray) = ofL [39] from rfl, show (⟨#[39, 39]⟩ : ByteArray) = ofL [39, 39] from rfl, ht, Option.bind_some, hy, Option.bind_some]
        split
        · exact ⟨_, _, rfl⟩
        · exact ⟨[], _, rfl⟩
    · exact jt

theorem byte_total (s : Bs) (a : Nat) (ha : a < s.length) (hs : s.length ≤ 100000) : ∃ v : Int, text_Reader_Byte.f (ofL s) (a : Nat) = some (v, ofL s, ((a + 1 : Nat) : Int)) := by
  have e : s = s.take a ++ s[a] :: s.drop (a + 1) := by rw [List.getElem_cons_drop, List.take_append_drop]
  have h := byte_at (s.take a) (s.drop (a + 1)) s[a] (by rw [← e]; exact hs)
  rw [← e, List.length_take, Nat.min_eq_left (Nat.le_of_lt ha)] at h
  exact ⟨_, h⟩

theorem sign_total (s : Bs) (a : Nat) (ha : a < s.length) (hs : s.length ≤ 100000) : ∀ (ts : List Bs), (∀ t ∈ ts, t.length = 2) → ∃ (r : ByteArray) (b : Nat), signFrom (ts.map ofL) (ofL s) (a : Nat) = some (r, ofL s, (b : Int)) ∧ a < b ∧ b ≤ s.length := by
  intro ts
  induction ts with
  | nil =>
    intro _
    obtain ⟨v, hv⟩ := byte_total s a ha hs
    rw [List.map_nil, signFrom, hv, Option.bind_some]
    exact ⟨_, a + 1, rfl, by omega, by omega⟩
  | cons t ts ih =>
    intro ht
    have hi := ih (fun x hx => ht x (List.mem_cons_of_mem _ hx))
    have h := two_at (s.take a) (s.drop a) t (by rw [List.take_append_drop]; exact hs) (ht t (List.mem_cons_self ..))
    rw [List.take_append_drop, List.length_take, Nat.min_eq_left (Nat.le_of_lt ha)] at h
    rw [List.map_cons, signFrom, h]
    split
    · rename_i h2
      rw [Option.bind_some, if_pos rfl]
      refine ⟨_, a + 2, rfl, by omega, ?_⟩
      have := congrArg List.length h2
      rw [List.length_take, List.length_drop, ht t (List.mem_cons_self ..)] at this
      omega
    · rw [Option.bind_some, if_neg (by simp)]
      exact hi

/-- One piece, or an error; what is taken is taken from the place on. -/
theorem next_total (s : Bs) (a k : Nat) (ha : a < s.length) (hs : s.length ≤ 10000) (hk : 300 + 8 * s.length ≤ k) : ∃ (c : Int) (S : ByteArray) (N A e : Int) (b : Nat), lex_next.f k (ofL s) (a : Nat) = some (c, S, N, A, e, ofL s, (b : Int)) ∧ (e = 0 → a < b ∧ b ≤ s.length ∧ c ≠ 0) := by
  have hcl := class_at s a k (by omega) ha (by omega)
  have hhd : (s.drop a).head? = some s[a] := by rw [List.head?_drop]; exact List.getElem?_eq_getElem ha
  unfold lex_next.f text_Reader_At.f
  simp only [Option.bind_some]
  rw [hcl, Option.bind_some]
  simp only
  by_cases h2 : clsOf s[a] = 2
  · rw [if_pos h2]
    obtain ⟨u, q, h1, hr, hl, hu, hne⟩ := run_total [2, 3] (.inr ⟨2, 3, rfl, by decide, by decide⟩) s a k (by omega) (by omega) (by omega)
    have hn := List.length_pos_iff.mpr (hne _ hhd (by simp [inCls, h2]))
    rw [hr, Option.bind_some]
    simp only [lex_Word.f, Option.bind_some]
    obtain ⟨b, hb⟩ := name_total u k (by omega)
    rw [hb]
    split
    · exact ⟨_, _, _, _, _, _, rfl, fun _ => ⟨by omega, by omega, by decide⟩⟩
    · rw [Option.bind_some]
      split
      · exact ⟨_, _, _, _, _, _, rfl, fun _ => ⟨by omega, by omega, by decide⟩⟩
      · exact ⟨_, _, _, _, _, _, rfl, fun h => absurd h (by decide)⟩
  · rw [if_neg h2]
    by_cases h3 : clsOf s[a] = 3
    · rw [if_pos h3]
      obtain ⟨u, q, h1, hr, hl, hu, hne⟩ := run_total [3] (.inl ⟨3, rfl, by decide⟩) s a k (by omega) (by omega) (by omega)
      have hn := List.length_pos_iff.mpr (hne _ hhd (by simp [inCls, h3]))
      obtain ⟨r, hb⟩ := nparse_total u k (by omega)
      rw [hr, Option.bind_some]
      simp only
      rw [hb, Option.bind_some]
      split
      · exact ⟨_, _, _, _, _, _, rfl, fun _ => ⟨by omega, by omega, by decide⟩⟩
      · exact ⟨_, _, _, _, _, _, rfl, fun h => absurd h (by decide)⟩
    · rw [if_neg h3]
      by_cases h5 : clsOf s[a] = 5
      · rw [if_pos h5]
        have hq : ∃ (r : Bs) (ok : Bool) (b : Nat), text_Reader_Quoted.f k (ofL s) (a : Nat) = some (ofL r, ok, ofL s, (b : Int)) ∧ (ok = true → a < b ∧ b ≤ s.length ∧ r.length ≤ s.length) := by
          unfold text_Reader_Quoted.f
          rw [hcl, Option.bind_some]
          simp only
          rw [if_pos h5, w64 ((a : Int) + 1) (by omega) (by omega)]
          exact quoted_l0 s a (by omega) s.length k (a + 1) (by omega) (by omega) (by omega)
        obtain ⟨r, ok, b, hr, hok⟩ := hq
        rw [hr, Option.bind_some]
        simp only
        cases ok with
        | false =>
          rw [if_neg (by decide)]
          exact ⟨_, _, _, _, _, _, rfl, fun h => absurd h (by decide)⟩
        | true =>
          obtain ⟨o1, o2, o3⟩ := hok rfl
          obtain ⟨t, ub, hU⟩ := unquote_total r k (by omega) (by omega)
          rw [if_pos rfl, hU, Option.bind_some]
          split
          · exact ⟨_, _, _, _, _, _, rfl, fun h => absurd h (by decide)⟩
          · exact ⟨_, _, _, _, _, _, rfl, fun _ => ⟨by omega, by omega, by decide⟩⟩
      · rw [if_neg h5]
        by_cases h4 : clsOf s[a] = 4
        · obtain ⟨r, b, hr, hb1, hb2⟩ := sign_total s a ha (by omega) [[33, 61], [60, 61], [62, 61]] (by decide)
          have hr' : lex_sign.f (ofL s) (a : Nat) = some (r, ofL s, (b : Int)) := hr
          rw [if_pos h4, hr', Option.bind_some]
          exact ⟨_, _, _, _, _, _, rfl, fun _ => ⟨by omega, by omega, by decide⟩⟩
        · rw [if_neg h4]
          exact ⟨_, _, _, _, _, _, rfl, fun h => absurd h (by decide)⟩

theorem textL_total (s : Bs) (hs : s.length ≤ 2000) : ∀ (d k a : Nat) (o : List S67), s.length - a ≤ d → a ≤ s.length → d + 310 + 8 * s.length ≤ k → o.length ≤ 400 →
    ∃ (l : List S67) (e : Int), textL k o (ofL s) (a : Nat) = some (l, e) ∧ (e = 0 ∨ l = []) ∧ l.length ≤ 400 := by
  intro d
  induction d with
  | zero =>
    intro k a o hd ha hk ho
    obtain ⟨k, rfl⟩ : ∃ j, k = j + 1 := ⟨k - 1, by omega⟩
    obtain ⟨u, q, h1, hr, hl, hu, hne⟩ := run_total [1] (.inl ⟨1, rfl, by decide⟩) s a k ha (by omega) (by omega)
    rw [textL, hr, Option.bind_some, left_eq s _ hl (by omega), Option.bind_some, if_pos (by simp only; omega)]
    exact ⟨_, _, rfl, .inl rfl, ho⟩
  | succ d ih =>
    intro k a o hd ha hk ho
    obtain ⟨k, rfl⟩ : ∃ j, k = j + 1 := ⟨k - 1, by omega⟩
    obtain ⟨u, q, h1, hr, hl, hu, hne⟩ := run_total [1] (.inl ⟨1, rfl, by decide⟩) s a k ha (by omega) (by omega)
    rw [textL, hr, Option.bind_some, left_eq s _ hl (by omega), Option.bind_some]
    by_cases h0 : (s.length : Int) - ((a + u.length : Nat) : Int) = 0
    · rw [if_pos h0]
      exact ⟨_, _, rfl, .inl rfl, ho⟩
    · rw [if_neg h0]
      obtain ⟨c, S, N, A, e, b, hn, hb⟩ := next_total s (a + u.length) k (by omega) (by omega) (by omega)
      rw [hn, Option.bind_some]
      simp only
      by_cases he : e = 0
      · obtain ⟨b1, b2, b3⟩ := hb he
        rw [if_pos he]
        by_cases h4 : 400 ≤ o.length
        · rw [if_pos h4]
          exact ⟨_, _, rfl, .inr rfl, by simp⟩
        · rw [if_neg h4]
          exact ih k b _ (by omega) (by omega) (by omega) (by simp only [List.length_append, List.length_cons, List.length_nil]; omega)
      · rw [if_neg he]
        exact ⟨_, _, rfl, .inr rfl, by simp⟩

theorem text_total (s : Bs) (k : Nat) (hk : 20000 ≤ k) : ∃ (l : List S67) (e : Int), lex_Text.f k (ofL s) = some (l, e) ∧ (e = 0 ∨ l = []) ∧ l.length ≤ 400 := by
  unfold lex_Text.f
  rw [ofL_size]
  by_cases h : 2000 < s.length
  · rw [if_pos h]; exact ⟨_, _, rfl, .inr rfl, by simp⟩
  · rw [if_neg h]
    exact textL_total s (by omega) s.length k 0 [] (by omega) (by omega) (by omega) (by simp)

def flat : List Pc → Bs
  | [] => []
  | c :: cs => (if c.sp then [32] else []) ++ c.raw ++ flat cs
def Pc.at_ (c : Pc) (a : Nat) : Nat := a + (if c.sp then [(32 : UInt8)] else []).length
def toks : Nat → List Pc → List S67
  | _, [] => []
  | a, c :: cs => c.tok (c.at_ a : Nat) :: toks (c.at_ a + c.raw.length) cs
def Good : List Pc → Prop
  | [] => True
  | c :: cs => (∃ b u, c.raw = b :: u ∧ clsOf b ≠ 1) ∧ LexOK c (flat cs).head? ∧ Good cs

theorem flat_append (a b : List Pc) : flat (a ++ b) = flat a ++ flat b := by
  induction a with
  | nil => rfl
  | cons c cs ih => simp [flat, ih]

theorem toks_length (a : Nat) (cs : List Pc) : (toks a cs).length = cs.length := by
  induction cs generalizing a with
  | nil => rfl
  | cons c cs ih => simp [toks, ih]

theorem cls32 : clsOf 32 = 1 := by decide +kernel

theorem textL_eq (cs : List Pc) : ∀ (p : Bs) (o : List S67) (k : Nat), Good cs → cs.length + 450 ≤ k → o.length + cs.length ≤ 400 → (p ++ flat cs).length ≤ 2000 →
    textL k o (ofL (p ++ flat cs)) ((p.length : Nat) : Int) = some (o ++ toks p.length cs, 0) := by
  induction cs with
  | nil =>
    intro p o k hg hk ho hs
    obtain ⟨k, rfl⟩ : ∃ j, k = j + 1 := ⟨k - 1, by omega⟩
    have hr := run_eq [1] (.inl ⟨1, rfl, by decide⟩) p [] [] k (by simp) (by simp) (by simp only [List.length_nil] at hk ⊢; omega) (by simp only [flat, List.append_nil] at hs ⊢; omega)
    simp only [flat, List.append_nil] at hs hr ⊢
    rw [textL, hr, Option.bind_some, left_eq p p.length (Nat.le_refl _) (by omega), Option.bind_some, if_pos (by simp)]
    simp [toks]
  | cons c cs ih =>
    intro p o k hg hk ho hs
    simp only [List.length_cons] at hk ho
    obtain ⟨k, rfl⟩ : ∃ j, k = j + 1 := ⟨k - 1, by omega⟩
    obtain ⟨⟨b, u, hr, hb⟩, hl, hg'⟩ := hg
    have hsp : ∀ x ∈ (if c.sp then [(32 : UInt8)] else []), inCls [1] x = true := by
      intro x hx; split at hx
      · simp at hx; subst hx; simp [inCls, cls32]
      · simp at hx
    have hspl : (if c.sp then [(32 : UInt8)] else []).length ≤ 1 := by split <;> simp
    have e0 : p ++ flat (c :: cs) = p ++ (if c.sp then [32] else []) ++ (c.raw ++ flat cs) := by simp [flat]
    have e1 : p ++ flat (c :: cs) = (p ++ (if c.sp then [32] else [])) ++ c.raw ++ flat cs := by simp [flat]
    have e2 : p ++ flat (c :: cs) = ((p ++ (if c.sp then [32] else [])) ++ c.raw) ++ flat cs := by simp [flat]
    have hrun := run_eq [1] (.inl ⟨1, rfl, by decide⟩) p _ (c.raw ++ flat cs) k hsp (by
      intro x hx; rw [hr] at hx; simp at hx; subst hx; simp [inCls, hb]) (by omega) (by rw [← e0]; omega)
    have hlex := hl (p ++ (if c.sp then [32] else [])) (flat cs) k rfl (by omega) (by rw [← e1]; omega)
    have hnx := ih ((p ++ (if c.sp then [32] else [])) ++ c.raw) (o ++ [c.tok (c.at_ p.length : Nat)]) k hg' (by omega) (by simp only [List.length_append, List.length_cons, List.length_nil]; omega) (by rw [← e2]; omega)
    rw [← e0] at hrun
    rw [← e1] at hlex
    rw [← e2] at hnx
    have hrl : 1 ≤ c.raw.length := by rw [hr]; simp
    have hlen : (p ++ flat (c :: cs)).length = (p ++ (if c.sp then [32] else [])).length + c.raw.length + (flat cs).length := by rw [e1]; simp only [List.length_append]
    rw [textL, hrun, Option.bind_some, left_eq _ _ (by rw [hlen]; omega) (by omega), Option.bind_some, if_neg (by simp only; rw [hlen]; omega)]
    simp only
    rw [hlex]
    simp only [Option.bind_some]
    rw [if_pos trivial, if_neg (by omega)]
    have e3 : (⟨c.kind, ofL c.S, c.N, (((p ++ (if c.sp then [32] else [])).length : Nat) : Int)⟩ : S67) = c.tok (c.at_ p.length : Nat) := by
      unfold Pc.tok Pc.at_; rw [List.length_append]
    rw [e3, hnx]
    have e4 : ((p ++ (if c.sp then [32] else [])) ++ c.raw).length = c.at_ p.length + c.raw.length := by unfold Pc.at_; rw [List.length_append, List.length_append]
    rw [e4]
    simp [toks]

theorem text_eq (cs : List Pc) (k : Nat) (hg : Good cs) (hk : 900 ≤ k) (hn : cs.length ≤ 400) (hs : (flat cs).length ≤ 2000) : lex_Text.f k (ofL (flat cs)) = some (toks 0 cs, 0) := by
  unfold lex_Text.f
  rw [if_neg (by rw [ofL_size]; omega)]
  have h := textL_eq cs [] [] k hg (by omega) (by simpa using hn) (by simpa using hs)
  simpa using h

/-- The figures of a small number. -/
def dig (n : Int) : Bs := if n < 10 then [UInt8.ofNat (48 + n.toNat)] else [UInt8.ofNat (48 + n.toNat / 10), UInt8.ofNat (48 + n.toNat % 10)]
def sgnB (op : Int) : Bs :=
  if op = 4 then [43] else if op = 5 then [45] else if op = 6 then [42] else if op = 7 then [61] else if op = 8 then [33, 61] else if op = 9 then [60]
  else if op = 10 then [60, 61] else if op = 11 then [62] else if op = 12 then [62, 61] else if op = 14 then [97, 110, 100] else [111, 114]

def sg (sp : Bool) (x : UInt8) : Pc := ⟨sp, [x], 5, [x], 0⟩
def numP (sp : Bool) (v : Int) : Pc := ⟨sp, dig v, 3, dig v, v⟩
def wordP (sp : Bool) (s : Bs) : Pc := ⟨sp, s, 2, s, 0⟩
def opP (op : Int) : Pc := ⟨true, sgnB op, if 14 ≤ op then 2 else 5, sgnB op, 0⟩

def Follow (n : Option UInt8) : Prop := n = none ∨ n = some 32 ∨ n = some 41 ∨ n = some 46

theorem follow_cls : inCls [2, 3] 32 = false ∧ inCls [2, 3] 41 = false ∧ inCls [2, 3] 46 = false ∧ inCls [3] 32 = false ∧ inCls [3] 41 = false ∧ inCls [3] 46 = false := by decide +kernel

theorem fol23 {n : Option UInt8} (h : Follow n) : ∀ x, n = some x → inCls [2, 3] x = false := by
  intro x hx; subst hx
  rcases h with h | h | h | h
  · cases h
  · cases h; exact follow_cls.1
  · cases h; exact follow_cls.2.1
  · cases h; exact follow_cls.2.2.1
theorem fol3 {n : Option UInt8} (h : Follow n) : ∀ x, n = some x → inCls [3] x = false := by
  intro x hx; subst hx
  rcases h with h | h | h | h
  · cases h
  · cases h; exact follow_cls.2.2.2.1
  · cases h; exact follow_cls.2.2.2.2.1
  · cases h; exact follow_cls.2.2.2.2.2

/-- A piece that is taken, whatever it is. -/
def Pok (c : Pc) (n : Option UInt8) : Prop := (∃ b u, c.raw = b :: u ∧ clsOf b ≠ 1) ∧ LexOK c n

theorem sg_ok (sp : Bool) (x : UInt8) (hx : x = 40 ∨ x = 41 ∨ x = 45 ∨ x = 46) (n : Option UInt8) : Pok (sg sp x) n := by
  have hc : clsOf x = 4 := by rcases hx with rfl | rfl | rfl | rfl <;> decide +kernel
  refine ⟨⟨x, [], rfl, by rw [hc]; decide⟩, lex_sign1 _ n x rfl hc ?_ rfl rfl rfl⟩
  rintro y -
  rcases hx with rfl | rfl | rfl | rfl <;> refine ⟨?_, ?_, ?_⟩ <;> intro e <;> simp at e

theorem dig_facts : ∀ n : Nat, n < 32 → (∃ b u, dig (n : Int) = b :: u ∧ clsOf b = 3) ∧ (dig (n : Int)).all (inCls [3]) = true ∧ (dig (n : Int)).length ≤ 40 ∧ num_Parse.f 300 (ofL (dig (n : Int))) = some ((n : Int), true) := by
  intro n hn
  have h1 : ∀ n : Nat, n < 32 → ((dig (n : Int)).head?.map clsOf = some 3 ∧ (dig (n : Int)).all (inCls [3]) = true ∧ (dig (n : Int)).length ≤ 40 ∧ num_Parse.f 300 (ofL (dig (n : Int))) = some ((n : Int), true)) := by decide +kernel
  obtain ⟨a, b, c, d⟩ := h1 n hn
  refine ⟨?_, b, c, d⟩
  cases h : dig (n : Int) with
  | nil => rw [h] at a; cases a
  | cons x u => rw [h] at a; exact ⟨x, u, rfl, by simpa using a⟩

theorem numP_ok (sp : Bool) (v : Int) (h0 : 0 ≤ v) (h1 : v ≤ 31) (n : Option UInt8) (hn : Follow n) : Pok (numP sp v) n := by
  obtain ⟨m, rfl⟩ : ∃ m : Nat, v = m := ⟨v.toNat, by omega⟩
  obtain ⟨⟨b, u, hr, hb⟩, h2, h3, h4⟩ := dig_facts m (by omega)
  exact ⟨⟨b, u, hr, by rw [hb]; decide⟩, lex_number _ n b u hr hb (fun x hx => List.all_eq_true.mp h2 x hx) (fol3 hn) h3 rfl rfl h4⟩

theorem words_facts : ∀ s ∈ ([[116, 114, 117, 101], [102, 97, 108, 115, 101], [110, 111, 116], [97, 110, 100], [111, 114]] : List Bs), s.head?.map clsOf = some 2 ∧ s.all (inCls [2, 3]) = true ∧ s.length ≤ 40 ∧ lex_Word.f (ofL s) = some true := by decide +kernel

theorem head_of {s : Bs} {z : Int} (h : s.head?.map clsOf = some z) : ∃ b u, s = b :: u ∧ clsOf b = z := by
  cases s with
  | nil => cases h
  | cons x u => exact ⟨x, u, rfl, by simpa using h⟩

theorem wordP_ok (sp : Bool) (s : Bs) (hs : s ∈ ([[116, 114, 117, 101], [102, 97, 108, 115, 101], [110, 111, 116], [97, 110, 100], [111, 114]] : List Bs)) (n : Option UInt8) (hn : Follow n) : Pok (wordP sp s) n := by
  obtain ⟨h1, h2, h3, h4⟩ := words_facts s hs
  obtain ⟨b, u, hr, hb⟩ := head_of h1
  exact ⟨⟨b, u, hr, by rw [hb]; decide⟩, lex_wordlike _ n b u hr hb (fun x hx => List.all_eq_true.mp h2 x hx) (fol23 hn) h3 rfl rfl (.inl ⟨rfl, h4⟩)⟩
theorem opP_ok (op : Int) (h : 4 ≤ op) (h2 : op ≤ 15) (h3 : op ≠ 13) : Pok (opP op) (some 32) := by
  have hc : ∀ x : UInt8, x = 43 ∨ x = 45 ∨ x = 42 ∨ x = 61 ∨ x = 33 ∨ x = 60 ∨ x = 62 → clsOf x = 4 := by
    rintro x (rfl | rfl | rfl | rfl | rfl | rfl | rfl) <;> decide +kernel
  have one : ∀ x : UInt8, x = 43 ∨ x = 45 ∨ x = 42 ∨ x = 61 ∨ x = 33 ∨ x = 60 ∨ x = 62 → Pok ⟨true, [x], 5, [x], 0⟩ (some 32) := by
    intro x hx
    refine ⟨⟨x, [], rfl, by rw [hc x hx]; decide⟩, lex_sign1 _ _ x rfl (hc x hx) ?_ rfl rfl rfl⟩
    intro y hy; cases hy
    refine ⟨?_, ?_, ?_⟩ <;> intro e <;> simp at e
  have two : ∀ x : UInt8, x = 43 ∨ x = 45 ∨ x = 42 ∨ x = 61 ∨ x = 33 ∨ x = 60 ∨ x = 62 → ([x, 61] : Bs) = [33, 61] ∨ ([x, 61] : Bs) = [60, 61] ∨ ([x, 61] : Bs) = [62, 61] → Pok ⟨true, [x, 61], 5, [x, 61], 0⟩ (some 32) := by
    intro x hx ht
    exact ⟨⟨x, [61], rfl, by rw [hc x hx]; decide⟩, lex_sign2 _ _ x 61 rfl (hc x hx) ht rfl rfl rfl⟩
  have : op = 4 ∨ op = 5 ∨ op = 6 ∨ op = 7 ∨ op = 8 ∨ op = 9 ∨ op = 10 ∨ op = 11 ∨ op = 12 ∨ op = 14 ∨ op = 15 := by omega
  rcases this with rfl | rfl | rfl | rfl | rfl | rfl | rfl | rfl | rfl | rfl | rfl
  · exact one 43 (by simp)
  · exact one 45 (by simp)
  · exact one 42 (by simp)
  · exact one 61 (by simp)
  · exact two 33 (by simp) (by simp)
  · exact one 60 (by simp)
  · exact two 60 (by simp) (by simp)
  · exact one 62 (by simp)
  · exact two 62 (by simp) (by simp)
  · exact wordP_ok true [97, 110, 100] (by simp) _ (.inr (.inl rfl))
  · exact wordP_ok true [111, 114] (by simp) _ (.inr (.inl rfl))

theorem good_cons {c : Pc} {cs : List Pc} (h : Pok c (flat cs).head?) (hg : Good cs) : Good (c :: cs) := ⟨h.1, h.2, hg⟩

set_option maxHeartbeats 4000000 in
set_option maxRecDepth 100000 in
theorem minus_num (g gs : Nat) (l : List S67) (e depth : Int) (t : S67) (ht : peekT l = t) (h3 : t.f0 = 3) (w0 w : World) (hI : Pst w0 w g gs l e) (hB : Below w0.heap.size w0 w) :
    Calls Tryd.prog 66 #[.pointer (some ⟨g, 0, none⟩), .int .i64 depth] w (PPost w0 w g gs [conNode 1 (wrap64 (-t.f2)) ⟨#[]⟩ false] (nextT l) e) := by
  have HI0 := As.mk hI
  have HB0 := As.mk hB
  have HLe := As.mk hB.size
  have HT := As.mk ht
  have hp0 : w.cell? ⟨g, 0, none⟩ = some (.pointer (some ⟨gs, 0, none⟩)) := (blk_cell hI.p 0).trans rfl
  have hz : (t.f0 == 3) = true := by simp [h3]
  clear hI hB ht h3
  go_enter Tryd.func66, Tryd.ntmps66
  go_wp2_with (first
    | (go_at_call 44; (with_reducible refine (peek_calls gs l w0 _ HI0.out.s HB0.out).mono ?_); rintro e1 w3 ⟨rfl, hb⟩; have HI3 := As.mk (HI0.out.below hb); have HB3 := As.mk (bwS HB0.out hb); have HK3 := As.mk (show KP w w3 g gs from Kept.of_below hb _); clear hb; rw [HT.out])
    | ((with_reducible refine gate_dst (N := 5) rfl ?_); refine box_event ?hgg3 (N := 5) ?hdg3 (cs := #[.int .i64 0, .string (⟨#[]⟩ : ByteArray), .int .i64 0, .int .i64 0]) (t := 67) ?hrg3 ?_; (case hdg3 => rfl); (case hgg3 => rfl); (case hrg3 => first | (go_simp; done) | (go_simp; rfl)); intro g3 hg5 w4 hbx5 hbl5; have HI4 := As.mk (HI3.out.below hbl5); have HB4 := As.mk (bwS HB3.out hbl5); have HK4 := As.mk (kp_below HK3.out hbl5); have Y4 := As.mk hbx5; have HG3 := As.mk (show g3 ≠ g ∧ g3 ≠ gs ∧ w.heap.size ≤ g3 from ⟨by rw [hg5]; exact Nat.ne_of_gt HI3.out.lt, by rw [hg5]; exact Nat.ne_of_gt HI3.out.s.lt, by rw [hg5]; exact HK3.out.1⟩); clear hbx5 hbl5 hg5)
    | ((with_reducible refine gaS (t := 67) (p := 5) (v := .tmp 10) rfl ?_); refine row_event rfl 67 (.tmp 5) (.tmp 10) rfl g3 #[.int .i64 t.f0, .string t.f1, .int .i64 t.f2, .int .i64 t.f3] rfl rfl 67 _ Y4.out (by kernel_rfl) rfl (by simp [Value.oneCell']) rfl ?_; intro w5 hbut hb5; have HI5 := As.mk (HI4.out.but hbut (Ne.symm HG3.out.1) (Ne.symm HG3.out.2.1)); have HB5 := As.mk (hbut.below HB4.out (Nat.le_trans HLe.out HG3.out.2.2)); have HK5 := As.mk (kp_but HK4.out hbut HG3.out.2.2); have hk0 : w5.cell? ⟨g3, 0, none⟩ = some (.int .i64 t.f0) := (blk_cell hb5 0).trans rfl; have Y5 := As.mk hb5; have hp5 : w5.cell? ⟨g, 0, none⟩ = some (.pointer (some ⟨gs, 0, none⟩)) := (blk_cell HI5.out.p 0).trans rfl; clear hb5 hbut)
    | (go_at_call 45; (with_reducible refine (next_calls gs l w0 _ HI5.out.s HB5.out).mono ?_); rintro e1 w6 ⟨rfl, hi, hb, hk⟩; have HI6 := As.mk (HI5.out.src hi hk); have HB6 := As.mk hb; have HK6 := As.mk (kp_src HK5.out hk); have Y6 := As.mk (hk.blk Y5.out HG3.out.2.1 (by simp)); have hk2 : w6.cell? ⟨g3, 2, none⟩ = some (.int .i64 t.f2) := (blk_cell Y6.out 2).trans rfl; clear hi hb hk)
    | (go_at_call 63; (with_reducible refine (value_Num.calls _ _ _ _ _ _ rfl).mono ?_); rintro e1 w7 ⟨rfl, hb⟩; have HI7 := As.mk (HI6.out.below hb); have HB7 := As.mk (bwS HB6.out hb); have HK7 := As.mk (kp_below HK6.out hb); clear hb)
    | ((with_reducible refine gate_dst (N := 24) rfl ?_); refine lit_event rfl (N := 24) rfl (conNode 1 (wrap64 (-t.f2)) ⟨#[]⟩ false) ?hr24 ?_; (case hr24 => first | (go_simp; done) | (go_simp; rfl)); intro v8 w8 hr hb; have HR8 := As.mk (Kd.R_lower hr HK7.out.1); have HI8 := As.mk (HI7.out.below hb); have HB8 := As.mk (bwS HB7.out hb); have HK8 := As.mk (kp_below HK7.out hb); clear hr hb))
  go_ret
  exact ⟨_, rfl, HR8.out, HI8.out, HB8.out, HK8.out⟩

set_option maxHeartbeats 4000000 in
set_option maxRecDepth 100000 in
theorem minus_one (k : Nat) (hk : k ≤ 100000) (H1 : OneC k) (g gs : Nat) (l : List S67) (e depth : Int) (t : S67) (ht : peekT l = t) (h3 : t.f0 ≠ 3) (r : List S53 × List S67 × Int) (hd0 : 0 ≤ depth) (hd1 : depth ≤ 140) (h : oneF k (depth + 1) l e = some r) (w0 w : World) (hI : Pst w0 w g gs l e) (hB : Below w0.heap.size w0 w) :
    Calls Tryd.prog 66 #[.pointer (some ⟨g, 0, none⟩), .int .i64 depth] w (PPost w0 w g gs (r.1 ++ [opNode 3]) r.2.1 r.2.2) := by
  have HI0 := As.mk hI
  have HB0 := As.mk hB
  have HLe := As.mk hB.size
  have HT := As.mk ht
  have HO := As.mk (fun (w1 : World) (i1 : Pst w0 w1 g gs l e) (b1 : Below w0.heap.size w0 w1) => H1 w0 w1 g gs l e (depth + 1) r i1 b1 (by omega) (by omega) h)
  have HLen := As.mk (show r.1.length < 1000000000 from by have := (len_all k).2.2.1 _ _ _ _ h; omega)
  have hp0 : w.cell? ⟨g, 0, none⟩ = some (.pointer (some ⟨gs, 0, none⟩)) := (blk_cell hI.p 0).trans rfl
  have hz : (t.f0 == 3) = false := by simp [h3]
  clear hI hB ht h3 H1 h hk
  go_enter Tryd.func66, Tryd.ntmps66
  go_wp2_with (first
    | (go_at_call 44; (with_reducible refine (peek_calls gs l w0 _ HI0.out.s HB0.out).mono ?_); rintro e1 w3 ⟨rfl, hb⟩; have HI3 := As.mk (HI0.out.below hb); have HB3 := As.mk (bwS HB0.out hb); have HK3 := As.mk (show KP w w3 g gs from Kept.of_below hb _); clear hb; rw [HT.out])
    | ((with_reducible refine gate_dst (N := 5) rfl ?_); refine box_event ?hgg3 (N := 5) ?hdg3 (cs := #[.int .i64 0, .string (⟨#[]⟩ : ByteArray), .int .i64 0, .int .i64 0]) (t := 67) ?hrg3 ?_; (case hdg3 => rfl); (case hgg3 => rfl); (case hrg3 => first | (go_simp; done) | (go_simp; rfl)); intro g3 hg5 w4 hbx5 hbl5; have HI4 := As.mk (HI3.out.below hbl5); have HB4 := As.mk (bwS HB3.out hbl5); have HK4 := As.mk (kp_below HK3.out hbl5); have Y4 := As.mk hbx5; have HG3 := As.mk (show g3 ≠ g ∧ g3 ≠ gs ∧ w.heap.size ≤ g3 from ⟨by rw [hg5]; exact Nat.ne_of_gt HI3.out.lt, by rw [hg5]; exact Nat.ne_of_gt HI3.out.s.lt, by rw [hg5]; exact HK3.out.1⟩); clear hbx5 hbl5 hg5)
    | ((with_reducible refine gaS (t := 67) (p := 5) (v := .tmp 10) rfl ?_); refine row_event rfl 67 (.tmp 5) (.tmp 10) rfl g3 #[.int .i64 t.f0, .string t.f1, .int .i64 t.f2, .int .i64 t.f3] rfl rfl 67 _ Y4.out (by kernel_rfl) rfl (by simp [Value.oneCell']) rfl ?_; intro w5 hbut hb5; have HI5 := As.mk (HI4.out.but hbut (Ne.symm HG3.out.1) (Ne.symm HG3.out.2.1)); have HB5 := As.mk (hbut.below HB4.out (Nat.le_trans HLe.out HG3.out.2.2)); have HK5 := As.mk (kp_but HK4.out hbut HG3.out.2.2); have hk0 : w5.cell? ⟨g3, 0, none⟩ = some (.int .i64 t.f0) := (blk_cell hb5 0).trans rfl; have Y5 := As.mk hb5; have hp5 : w5.cell? ⟨g, 0, none⟩ = some (.pointer (some ⟨gs, 0, none⟩)) := (blk_cell HI5.out.p 0).trans rfl; clear hb5 hbut)
    | (go_at_call 42; (with_reducible refine (HO.out _ HI5.out HB5.out).mono ?_); rintro e1 w6 ⟨v6, rfl, hr, hi, hb, hk⟩; have HR6 := As.mk (Kd.R_lower hr HK5.out.1); have HI6 := As.mk hi; have HB6 := As.mk hb; have HK6 := As.mk (kp_then HK5.out hk); clear hr hi hb hk)
    | ((with_reducible refine gaB (b := .append) (xs := #[.tmp 28, .tmp 30]) rfl ?_); at_builtin; refine app_event rfl (.tmp 28) (.tmp 30) rfl v6 r.1 (opNode 3) rfl rfl HR6.out HK6.out.1 HLen.out ?_; intro v7 w7 hr hg; have HR7 := As.mk hr; have HI7 := As.mk (HI6.out.grown hg HR6.out); have HB7 := As.mk (below_grownBy HB6.out hg (fun k e => Nat.le_trans HLe.out (Kd.R_base HR6.out k e))); have HK7 := As.mk (kp_grown HK6.out hg (fun k e => Kd.R_base HR6.out k e)); clear hr hg))
  go_ret
  exact ⟨_, rfl, HR7.out, HI7.out, HB7.out, HK7.out⟩

theorem minus_calls (k : Nat) (hk : k ≤ 100000) (H1 : OneC k) : MinusC (k + 1) := by
  intro w0 w g gs l e depth r hI hB h0 h1 h
  simp only [minusF] at h
  split at h
  · rename_i h3
    obtain rfl := Option.some.inj h
    exact minus_num g gs l e depth _ rfl h3 w0 w hI hB
  · rename_i h3
    obtain ⟨r1, hr1, h⟩ := Option.bind_eq_some_iff.mp h
    obtain rfl := Option.some.inj h
    exact minus_one k hk H1 g gs l e depth _ rfl h3 r1 h0 h1 hr1 w0 w hI hB

set_option maxHeartbeats 4000000 in
set_option maxRecDepth 100000 in
theorem one_num (g gs : Nat) (l : List S67) (e depth : Int) (hd0 : 0 ≤ depth) (hd1 : depth ≤ 140) (t : S67) (ht : peekT l = t) (h0 : t.f0 = 3) (w0 w : World) (hI : Pst w0 w g gs l e) (hB : Below w0.heap.size w0 w) :
    Calls Tryd.prog 42 #[.pointer (some ⟨g, 0, none⟩), .int .i64 depth] w (PPost w0 w g gs [conNode 1 t.f2 ⟨#[]⟩ false] (nextT l) e) := by
  have HI0 := As.mk hI
  have HB0 := As.mk hB
  have HLe := As.mk hB.size
  have HT := As.mk ht
  have hp0 : w.cell? ⟨g, 0, none⟩ = some (.pointer (some ⟨gs, 0, none⟩)) := (blk_cell hI.p 0).trans rfl
  have hdp : decide (140 < depth) = false := decide_eq_false (by omega)
  have hz3 : (t.f0 == 3) = true := by simp [h0]
  clear hI hB ht h0
  go_enter Tryd.func42, Tryd.ntmps42
  go_wp2_with (first
    | (go_at_call 45; (with_reducible refine (next_calls gs l w0 _ HI0.out.s HB0.out).mono ?_); rintro e1 w3 ⟨rfl, hi, hb, hk⟩; have HI3 := As.mk (HI0.out.src hi hk); have HB3 := As.mk hb; have HK3 := As.mk (kp_src (Kept.refl w (fun k => k = g ∨ k = gs)) hk); clear hi hb hk; rw [HT.out])
    | ((with_reducible refine gate_dst (N := 5) rfl ?_); refine box_event ?hgg3 (N := 5) ?hdg3 (cs := #[.int .i64 0, .string (⟨#[]⟩ : ByteArray), .int .i64 0, .int .i64 0]) (t := 67) ?hrg3 ?_; (case hdg3 => rfl); (case hgg3 => rfl); (case hrg3 => first | (go_simp; done) | (go_simp; rfl)); intro g3 hg5 w4 hbx5 hbl5; have HI4 := As.mk (HI3.out.below hbl5); have HB4 := As.mk (bwS HB3.out hbl5); have HK4 := As.mk (kp_below HK3.out hbl5); have Y4 := As.mk hbx5; have HG3 := As.mk (show g3 ≠ g ∧ g3 ≠ gs ∧ w.heap.size ≤ g3 from ⟨by rw [hg5]; exact Nat.ne_of_gt HI3.out.lt, by rw [hg5]; exact Nat.ne_of_gt HI3.out.s.lt, by rw [hg5]; exact HK3.out.1⟩); clear hbx5 hbl5 hg5)
    | ((with_reducible refine gaS (t := 67) (p := 5) (v := .tmp 16) rfl ?_); refine row_event rfl 67 (.tmp 5) (.tmp 16) rfl g3 #[.int .i64 t.f0, .string t.f1, .int .i64 t.f2, .int .i64 t.f3] rfl rfl 67 _ Y4.out (by kernel_rfl) rfl (by simp [Value.oneCell']) rfl ?_; intro w5 hbut hb5; have HI5 := As.mk (HI4.out.but hbut (Ne.symm HG3.out.1) (Ne.symm HG3.out.2.1)); have HB5 := As.mk (hbut.below HB4.out (Nat.le_trans HLe.out HG3.out.2.2)); have HK5 := As.mk (kp_but HK4.out hbut HG3.out.2.2); have hk0 : w5.cell? ⟨g3, 0, none⟩ = some (.int .i64 t.f0) := (blk_cell hb5 0).trans rfl; have hk1 : w5.cell? ⟨g3, 1, none⟩ = some (.string t.f1) := (blk_cell hb5 1).trans rfl; have hk2 : w5.cell? ⟨g3, 2, none⟩ = some (.int .i64 t.f2) := (blk_cell hb5 2).trans rfl; have Y5 := As.mk hb5; have hp5 : w5.cell? ⟨g, 0, none⟩ = some (.pointer (some ⟨gs, 0, none⟩)) := (blk_cell HI5.out.p 0).trans rfl; clear hb5 hbut)
    | (go_at_call 63; (with_reducible refine (value_Num.calls _ _ _ _ _ _ rfl).mono ?_); rintro e1 w7 ⟨rfl, hb⟩; have HI7 := As.mk (HI5.out.below hb); have HB7 := As.mk (bwS HB5.out hb); have HK7 := As.mk (kp_below HK5.out hb); clear hb)
    | ((with_reducible refine gate_dst (N := 25) rfl ?_); refine lit_event rfl (N := 25) rfl (conNode 1 t.f2 ⟨#[]⟩ false) ?hr25 ?_; (case hr25 => first | (go_simp; done) | (go_simp; rfl)); intro v8 w8 hr hb; have HR8 := As.mk (Kd.R_lower hr HK7.out.1); have HI8 := As.mk (HI7.out.below hb); have HB8 := As.mk (bwS HB7.out hb); have HK8 := As.mk (kp_below HK7.out hb); clear hr hb))
  go_ret
  exact ⟨_, rfl, HR8.out, HI8.out, HB8.out, HK8.out⟩

set_option maxHeartbeats 4000000 in
set_option maxRecDepth 100000 in
theorem one_str (g gs : Nat) (l : List S67) (e depth : Int) (hd0 : 0 ≤ depth) (hd1 : depth ≤ 140) (t : S67) (ht : peekT l = t) (h0 : t.f0 = 4) (w0 w : World) (hI : Pst w0 w g gs l e) (hB : Below w0.heap.size w0 w) :
    Calls Tryd.prog 42 #[.pointer (some ⟨g, 0, none⟩), .int .i64 depth] w (PPost w0 w g gs [conNode 2 0 t.f1 false] (nextT l) e) := by
  have HI0 := As.mk hI
  have HB0 := As.mk hB
  have HLe := As.mk hB.size
  have HT := As.mk ht
  have hp0 : w.cell? ⟨g, 0, none⟩ = some (.pointer (some ⟨gs, 0, none⟩)) := (blk_cell hI.p 0).trans rfl
  have hdp : decide (140 < depth) = false := decide_eq_false (by omega)
  have hz3 : (t.f0 == 3) = false := by simp [h0]
  have hz4 : (t.f0 == 4) = true := by simp [h0]
  clear hI hB ht h0
  go_enter Tryd.func42, Tryd.ntmps42
  go_wp2_with (first
    | (go_at_call 45; (with_reducible refine (next_calls gs l w0 _ HI0.out.s HB0.out).mono ?_); rintro e1 w3 ⟨rfl, hi, hb, hk⟩; have HI3 := As.mk (HI0.out.src hi hk); have HB3 := As.mk hb; have HK3 := As.mk (kp_src (Kept.refl w (fun k => k = g ∨ k = gs)) hk); clear hi hb hk; rw [HT.out])
    | ((with_reducible refine gate_dst (N := 5) rfl ?_); refine box_event ?hgg3 (N := 5) ?hdg3 (cs := #[.int .i64 0, .string (⟨#[]⟩ : ByteArray), .int .i64 0, .int .i64 0]) (t := 67) ?hrg3 ?_; (case hdg3 => rfl); (case hgg3 => rfl); (case hrg3 => first | (go_simp; done) | (go_simp; rfl)); intro g3 hg5 w4 hbx5 hbl5; have HI4 := As.mk (HI3.out.below hbl5); have HB4 := As.mk (bwS HB3.out hbl5); have HK4 := As.mk (kp_below HK3.out hbl5); have Y4 := As.mk hbx5; have HG3 := As.mk (show g3 ≠ g ∧ g3 ≠ gs ∧ w.heap.size ≤ g3 from ⟨by rw [hg5]; exact Nat.ne_of_gt HI3.out.lt, by rw [hg5]; exact Nat.ne_of_gt HI3.out.s.lt, by rw [hg5]; exact HK3.out.1⟩); clear hbx5 hbl5 hg5)
    | ((with_reducible refine gaS (t := 67) (p := 5) (v := .tmp 16) rfl ?_); refine row_event rfl 67 (.tmp 5) (.tmp 16) rfl g3 #[.int .i64 t.f0, .string t.f1, .int .i64 t.f2, .int .i64 t.f3] rfl rfl 67 _ Y4.out (by kernel_rfl) rfl (by simp [Value.oneCell']) rfl ?_; intro w5 hbut hb5; have HI5 := As.mk (HI4.out.but hbut (Ne.symm HG3.out.1) (Ne.symm HG3.out.2.1)); have HB5 := As.mk (hbut.below HB4.out (Nat.le_trans HLe.out HG3.out.2.2)); have HK5 := As.mk (kp_but HK4.out hbut HG3.out.2.2); have hk0 : w5.cell? ⟨g3, 0, none⟩ = some (.int .i64 t.f0) := (blk_cell hb5 0).trans rfl; have hk1 : w5.cell? ⟨g3, 1, none⟩ = some (.string t.f1) := (blk_cell hb5 1).trans rfl; have hk2 : w5.cell? ⟨g3, 2, none⟩ = some (.int .i64 t.f2) := (blk_cell hb5 2).trans rfl; have Y5 := As.mk hb5; have hp5 : w5.cell? ⟨g, 0, none⟩ = some (.pointer (some ⟨gs, 0, none⟩)) := (blk_cell HI5.out.p 0).trans rfl; clear hb5 hbut)
    | (go_at_call 64; (with_reducible refine (value_Text.calls _ _ _ _ _ _ rfl).mono ?_); rintro e1 w7 ⟨rfl, hb⟩; have HI7 := As.mk (HI5.out.below hb); have HB7 := As.mk (bwS HB5.out hb); have HK7 := As.mk (kp_below HK5.out hb); clear hb)
    | ((with_reducible refine gate_dst (N := 34) rfl ?_); refine lit_event rfl (N := 34) rfl (conNode 2 0 t.f1 false) ?hr34 ?_; (case hr34 => first | (go_simp; done) | (go_simp; rfl)); intro v8 w8 hr hb; have HR8 := As.mk (Kd.R_lower hr HK7.out.1); have HI8 := As.mk (HI7.out.below hb); have HB8 := As.mk (bwS HB7.out hb); have HK8 := As.mk (kp_below HK7.out hb); clear hr hb))
  go_ret
  exact ⟨_, rfl, HR8.out, HI8.out, HB8.out, HK8.out⟩

set_option maxHeartbeats 4000000 in
set_option maxRecDepth 100000 in
theorem one_tru (g gs : Nat) (l : List S67) (e depth : Int) (hd0 : 0 ≤ depth) (hd1 : depth ≤ 140) (t : S67) (ht : peekT l = t) (h0 : t.f0 = 2) (ht1 : t.f1 = ⟨#[116, 114, 117, 101]⟩) (w0 w : World) (hI : Pst w0 w g gs l e) (hB : Below w0.heap.size w0 w) :
    Calls Tryd.prog 42 #[.pointer (some ⟨g, 0, none⟩), .int .i64 depth] w (PPost w0 w g gs [conNode 3 0 ⟨#[]⟩ true] (nextT l) e) := by
  have HI0 := As.mk hI
  have HB0 := As.mk hB
  have HLe := As.mk hB.size
  have HT := As.mk ht
  have hp0 : w.cell? ⟨g, 0, none⟩ = some (.pointer (some ⟨gs, 0, none⟩)) := (blk_cell hI.p 0).trans rfl
  have hdp : decide (140 < depth) = false := decide_eq_false (by omega)
  have hz3 : (t.f0 == 3) = false := by simp [h0]
  have hz4 : (t.f0 == 4) = false := by simp [h0]
  have hz2 : (t.f0 == 2) = true := by simp [h0]
  have hx_tru : (t.f1.toList == [116, 114, 117, 101]) = true := by rw [ht1, ByteArray.toList_eq]; rfl
  have hx_fal : (t.f1.toList == [102, 97, 108, 115, 101]) = false := by rw [ht1, ByteArray.toList_eq]; rfl
  clear hI hB ht h0 ht1
  go_enter Tryd.func42, Tryd.ntmps42
  go_wp2_with (first
    | (go_at_call 45; (with_reducible refine (next_calls gs l w0 _ HI0.out.s HB0.out).mono ?_); rintro e1 w3 ⟨rfl, hi, hb, hk⟩; have HI3 := As.mk (HI0.out.src hi hk); have HB3 := As.mk hb; have HK3 := As.mk (kp_src (Kept.refl w (fun k => k = g ∨ k = gs)) hk); clear hi hb hk; rw [HT.out])
    | ((with_reducible refine gate_dst (N := 5) rfl ?_); refine box_event ?hgg3 (N := 5) ?hdg3 (cs := #[.int .i64 0, .string (⟨#[]⟩ : ByteArray), .int .i64 0, .int .i64 0]) (t := 67) ?hrg3 ?_; (case hdg3 => rfl); (case hgg3 => rfl); (case hrg3 => first | (go_simp; done) | (go_simp; rfl)); intro g3 hg5 w4 hbx5 hbl5; have HI4 := As.mk (HI3.out.below hbl5); have HB4 := As.mk (bwS HB3.out hbl5); have HK4 := As.mk (kp_below HK3.out hbl5); have Y4 := As.mk hbx5; have HG3 := As.mk (show g3 ≠ g ∧ g3 ≠ gs ∧ w.heap.size ≤ g3 from ⟨by rw [hg5]; exact Nat.ne_of_gt HI3.out.lt, by rw [hg5]; exact Nat.ne_of_gt HI3.out.s.lt, by rw [hg5]; exact HK3.out.1⟩); clear hbx5 hbl5 hg5)
    | ((with_reducible refine gaS (t := 67) (p := 5) (v := .tmp 16) rfl ?_); refine row_event rfl 67 (.tmp 5) (.tmp 16) rfl g3 #[.int .i64 t.f0, .string t.f1, .int .i64 t.f2, .int .i64 t.f3] rfl rfl 67 _ Y4.out (by kernel_rfl) rfl (by simp [Value.oneCell']) rfl ?_; intro w5 hbut hb5; have HI5 := As.mk (HI4.out.but hbut (Ne.symm HG3.out.1) (Ne.symm HG3.out.2.1)); have HB5 := As.mk (hbut.below HB4.out (Nat.le_trans HLe.out HG3.out.2.2)); have HK5 := As.mk (kp_but HK4.out hbut HG3.out.2.2); have hk0 : w5.cell? ⟨g3, 0, none⟩ = some (.int .i64 t.f0) := (blk_cell hb5 0).trans rfl; have hk1 : w5.cell? ⟨g3, 1, none⟩ = some (.string t.f1) := (blk_cell hb5 1).trans rfl; have hk2 : w5.cell? ⟨g3, 2, none⟩ = some (.int .i64 t.f2) := (blk_cell hb5 2).trans rfl; have Y5 := As.mk hb5; have hp5 : w5.cell? ⟨g, 0, none⟩ = some (.pointer (some ⟨gs, 0, none⟩)) := (blk_cell HI5.out.p 0).trans rfl; clear hb5 hbut)
    | (go_at_call 65; (with_reducible refine (value_Truth.calls _ _ _ _ _ _ rfl).mono ?_); rintro e1 w7 ⟨rfl, hb⟩; have HI7 := As.mk (HI5.out.below hb); have HB7 := As.mk (bwS HB5.out hb); have HK7 := As.mk (kp_below HK5.out hb); clear hb)
    | ((with_reducible refine gate_dst (N := 54) rfl ?_); refine lit_event rfl (N := 54) rfl (conNode 3 0 ⟨#[]⟩ true) ?hr54 ?_; (case hr54 => first | (go_simp; done) | (go_simp; rfl)); intro v8 w8 hr hb; have HR8 := As.mk (Kd.R_lower hr HK7.out.1); have HI8 := As.mk (HI7.out.below hb); have HB8 := As.mk (bwS HB7.out hb); have HK8 := As.mk (kp_below HK7.out hb); clear hr hb))
  go_ret
  exact ⟨_, rfl, HR8.out, HI8.out, HB8.out, HK8.out⟩

set_option maxHeartbeats 4000000 in
set_option maxRecDepth 100000 in
theorem one_fal (g gs : Nat) (l : List S67) (e depth : Int) (hd0 : 0 ≤ depth) (hd1 : depth ≤ 140) (t : S67) (ht : peekT l = t) (h0 : t.f0 = 2) (ht1 : t.f1 = ⟨#[102, 97, 108, 115, 101]⟩) (w0 w : World) (hI : Pst w0 w g gs l e) (hB : Below w0.heap.size w0 w) :
    Calls Tryd.prog 42 #[.pointer (some ⟨g, 0, none⟩), .int .i64 depth] w (PPost w0 w g gs [conNode 3 0 ⟨#[]⟩ false] (nextT l) e) := by
  have HI0 := As.mk hI
  have HB0 := As.mk hB
  have HLe := As.mk hB.size
  have HT := As.mk ht
  have hp0 : w.cell? ⟨g, 0, none⟩ = some (.pointer (some ⟨gs, 0, none⟩)) := (blk_cell hI.p 0).trans rfl
  have hdp : decide (140 < depth) = false := decide_eq_false (by omega)
  have hz3 : (t.f0 == 3) = false := by simp [h0]
  have hz4 : (t.f0 == 4) = false := by simp [h0]
  have hz2 : (t.f0 == 2) = true := by simp [h0]
  have hx_tru : (t.f1.toList == [116, 114, 117, 101]) = false := by rw [ht1, ByteArray.toList_eq]; rfl
  have hx_fal : (t.f1.toList == [102, 97, 108, 115, 101]) = true := by rw [ht1, ByteArray.toList_eq]; rfl
  clear hI hB ht h0 ht1
  go_enter Tryd.func42, Tryd.ntmps42
  go_wp2_with (first
    | (go_at_call 45; (with_reducible refine (next_calls gs l w0 _ HI0.out.s HB0.out).mono ?_); rintro e1 w3 ⟨rfl, hi, hb, hk⟩; have HI3 := As.mk (HI0.out.src hi hk); have HB3 := As.mk hb; have HK3 := As.mk (kp_src (Kept.refl w (fun k => k = g ∨ k = gs)) hk); clear hi hb hk; rw [HT.out])
    | ((with_reducible refine gate_dst (N := 5) rfl ?_); refine box_event ?hgg3 (N := 5) ?hdg3 (cs := #[.int .i64 0, .string (⟨#[]⟩ : ByteArray), .int .i64 0, .int .i64 0]) (t := 67) ?hrg3 ?_; (case hdg3 => rfl); (case hgg3 => rfl); (case hrg3 => first | (go_simp; done) | (go_simp; rfl)); intro g3 hg5 w4 hbx5 hbl5; have HI4 := As.mk (HI3.out.below hbl5); have HB4 := As.mk (bwS HB3.out hbl5); have HK4 := As.mk (kp_below HK3.out hbl5); have Y4 := As.mk hbx5; have HG3 := As.mk (show g3 ≠ g ∧ g3 ≠ gs ∧ w.heap.size ≤ g3 from ⟨by rw [hg5]; exact Nat.ne_of_gt HI3.out.lt, by rw [hg5]; exact Nat.ne_of_gt HI3.out.s.lt, by rw [hg5]; exact HK3.out.1⟩); clear hbx5 hbl5 hg5)
    | ((with_reducible refine gaS (t := 67) (p := 5) (v := .tmp 16) rfl ?_); refine row_event rfl 67 (.tmp 5) (.tmp 16) rfl g3 #[.int .i64 t.f0, .string t.f1, .int .i64 t.f2, .int .i64 t.f3] rfl rfl 67 _ Y4.out (by kernel_rfl) rfl (by simp [Value.oneCell']) rfl ?_; intro w5 hbut hb5; have HI5 := As.mk (HI4.out.but hbut (Ne.symm HG3.out.1) (Ne.symm HG3.out.2.1)); have HB5 := As.mk (hbut.below HB4.out (Nat.le_trans HLe.out HG3.out.2.2)); have HK5 := As.mk (kp_but HK4.out hbut HG3.out.2.2); have hk0 : w5.cell? ⟨g3, 0, none⟩ = some (.int .i64 t.f0) := (blk_cell hb5 0).trans rfl; have hk1 : w5.cell? ⟨g3, 1, none⟩ = some (.string t.f1) := (blk_cell hb5 1).trans rfl; have hk2 : w5.cell? ⟨g3, 2, none⟩ = some (.int .i64 t.f2) := (blk_cell hb5 2).trans rfl; have Y5 := As.mk hb5; have hp5 : w5.cell? ⟨g, 0, none⟩ = some (.pointer (some ⟨gs, 0, none⟩)) := (blk_cell HI5.out.p 0).trans rfl; clear hb5 hbut)
    | (go_at_call 65; (with_reducible refine (value_Truth.calls _ _ _ _ _ _ rfl).mono ?_); rintro e1 w7 ⟨rfl, hb⟩; have HI7 := As.mk (HI5.out.below hb); have HB7 := As.mk (bwS HB5.out hb); have HK7 := As.mk (kp_below HK5.out hb); clear hb)
    | ((with_reducible refine gate_dst (N := 54) rfl ?_); refine lit_event rfl (N := 54) rfl (conNode 3 0 ⟨#[]⟩ false) ?hr54 ?_; (case hr54 => first | (go_simp; done) | (go_simp; rfl)); intro v8 w8 hr hb; have HR8 := As.mk (Kd.R_lower hr HK7.out.1); have HI8 := As.mk (HI7.out.below hb); have HB8 := As.mk (bwS HB7.out hb); have HK8 := As.mk (kp_below HK7.out hb); clear hr hb))
  go_ret
  exact ⟨_, rfl, HR8.out, HI8.out, HB8.out, HK8.out⟩

set_option maxHeartbeats 4000000 in
set_option maxRecDepth 100000 in
theorem one_not (k : Nat) (hk : k ≤ 100000) (H1 : LevelC k) (r : List S53 × List S67 × Int) (g gs : Nat) (l : List S67) (e depth : Int) (hd0 : 0 ≤ depth) (hd1 : depth ≤ 140) (t : S67) (ht : peekT l = t) (h0 : t.f0 = 2) (ht1 : t.f1 = ⟨#[110, 111, 116]⟩) (h : levelF k 3 (depth + 1) (nextT l) e = some r) (w0 w : World) (hI : Pst w0 w g gs l e) (hB : Below w0.heap.size w0 w) :
    Calls Tryd.prog 42 #[.pointer (some ⟨g, 0, none⟩), .int .i64 depth] w (PPost w0 w g gs (r.1 ++ [opNode 13]) r.2.1 r.2.2) := by
  have HI0 := As.mk hI
  have HB0 := As.mk hB
  have HLe := As.mk hB.size
  have HT := As.mk ht
  have hp0 : w.cell? ⟨g, 0, none⟩ = some (.pointer (some ⟨gs, 0, none⟩)) := (blk_cell hI.p 0).trans rfl
  have hdp : decide (140 < depth) = false := decide_eq_false (by omega)
  have HO := As.mk (fun (w1 : World) (i1 : Pst w0 w1 g gs (nextT l) e) (b1 : Below w0.heap.size w0 w1) => H1 w0 w1 g gs (nextT l) e 3 (depth + 1) r i1 b1 (by omega) (by omega) h)
  have HLen := As.mk (show r.1.length < 1000000000 from by have := (len_all k).1 _ _ _ _ _ h; omega)
  clear H1 h hk
  have hz3 : (t.f0 == 3) = false := by simp [h0]
  have hz4 : (t.f0 == 4) = false := by simp [h0]
  have hz2 : (t.f0 == 2) = true := by simp [h0]
  have hx_tru : (t.f1.toList == [116, 114, 117, 101]) = false := by rw [ht1, ByteArray.toList_eq]; rfl
  have hx_fal : (t.f1.toList == [102, 97, 108, 115, 101]) = false := by rw [ht1, ByteArray.toList_eq]; rfl
  have hx_nt : (t.f1.toList == [110, 111, 116]) = true := by rw [ht1, ByteArray.toList_eq]; rfl
  clear hI hB ht h0 ht1
  go_enter Tryd.func42, Tryd.ntmps42
  go_wp2_with (first
    | (go_at_call 45; (with_reducible refine (next_calls gs l w0 _ HI0.out.s HB0.out).mono ?_); rintro e1 w3 ⟨rfl, hi, hb, hk⟩; have HI3 := As.mk (HI0.out.src hi hk); have HB3 := As.mk hb; have HK3 := As.mk (kp_src (Kept.refl w (fun k => k = g ∨ k = gs)) hk); clear hi hb hk; rw [HT.out])
    | ((with_reducible refine gate_dst (N := 5) rfl ?_); refine box_event ?hgg3 (N := 5) ?hdg3 (cs := #[.int .i64 0, .string (⟨#[]⟩ : ByteArray), .int .i64 0, .int .i64 0]) (t := 67) ?hrg3 ?_; (case hdg3 => rfl); (case hgg3 => rfl); (case hrg3 => first | (go_simp; done) | (go_simp; rfl)); intro g3 hg5 w4 hbx5 hbl5; have HI4 := As.mk (HI3.out.below hbl5); have HB4 := As.mk (bwS HB3.out hbl5); have HK4 := As.mk (kp_below HK3.out hbl5); have Y4 := As.mk hbx5; have HG3 := As.mk (show g3 ≠ g ∧ g3 ≠ gs ∧ w.heap.size ≤ g3 from ⟨by rw [hg5]; exact Nat.ne_of_gt HI3.out.lt, by rw [hg5]; exact Nat.ne_of_gt HI3.out.s.lt, by rw [hg5]; exact HK3.out.1⟩); clear hbx5 hbl5 hg5)
    | ((with_reducible refine gaS (t := 67) (p := 5) (v := .tmp 16) rfl ?_); refine row_event rfl 67 (.tmp 5) (.tmp 16) rfl g3 #[.int .i64 t.f0, .string t.f1, .int .i64 t.f2, .int .i64 t.f3] rfl rfl 67 _ Y4.out (by kernel_rfl) rfl (by simp [Value.oneCell']) rfl ?_; intro w5 hbut hb5; have HI5 := As.mk (HI4.out.but hbut (Ne.symm HG3.out.1) (Ne.symm HG3.out.2.1)); have HB5 := As.mk (hbut.below HB4.out (Nat.le_trans HLe.out HG3.out.2.2)); have HK5 := As.mk (kp_but HK4.out hbut HG3.out.2.2); have hk0 : w5.cell? ⟨g3, 0, none⟩ = some (.int .i64 t.f0) := (blk_cell hb5 0).trans rfl; have hk1 : w5.cell? ⟨g3, 1, none⟩ = some (.string t.f1) := (blk_cell hb5 1).trans rfl; have hk2 : w5.cell? ⟨g3, 2, none⟩ = some (.int .i64 t.f2) := (blk_cell hb5 2).trans rfl; have Y5 := As.mk hb5; have hp5 : w5.cell? ⟨g, 0, none⟩ = some (.pointer (some ⟨gs, 0, none⟩)) := (blk_cell HI5.out.p 0).trans rfl; clear hb5 hbut)
    | (go_at_call 29; (with_reducible refine (HO.out _ HI5.out HB5.out).mono ?_); rintro e1 w6 ⟨v6, rfl, hr, hi, hb, hk⟩; have HR6 := As.mk (Kd.R_lower hr HK5.out.1); have HI6 := As.mk hi; have HB6 := As.mk hb; have HK6 := As.mk (kp_then HK5.out hk); clear hr hi hb hk)
    | ((with_reducible refine gaB (b := .append) (xs := #[.tmp 67, .tmp 69]) rfl ?_); at_builtin; refine app_event rfl (.tmp 67) (.tmp 69) rfl v6 r.1 (opNode 13) rfl rfl HR6.out HK6.out.1 HLen.out ?_; intro v8 w8 hr hg; have HR8 := As.mk hr; have HI8 := As.mk (HI6.out.grown hg HR6.out); have HB8 := As.mk (below_grownBy HB6.out hg (fun k e => Nat.le_trans HLe.out (Kd.R_base HR6.out k e))); have HK8 := As.mk (kp_grown HK6.out hg (fun k e => Kd.R_base HR6.out k e)); clear hr hg))
  go_ret
  exact ⟨_, rfl, HR8.out, HI8.out, HB8.out, HK8.out⟩

set_option maxHeartbeats 4000000 in
set_option maxRecDepth 100000 in
theorem one_word (g gs : Nat) (l : List S67) (e depth : Int) (hd0 : 0 ≤ depth) (hd1 : depth ≤ 140) (t : S67) (ht : peekT l = t) (h0 : t.f0 = 2) (hs_tru : t.f1 ≠ ⟨#[116, 114, 117, 101]⟩) (hs_fal : t.f1 ≠ ⟨#[102, 97, 108, 115, 101]⟩) (hs_nt : t.f1 ≠ ⟨#[110, 111, 116]⟩) (w0 w : World) (hI : Pst w0 w g gs l e) (hB : Below w0.heap.size w0 w) :
    Calls Tryd.prog 42 #[.pointer (some ⟨g, 0, none⟩), .int .i64 depth] w (PPost w0 w g gs [] (nextT l) (wr e 2)) := by
  have HI0 := As.mk hI
  have HB0 := As.mk hB
  have HLe := As.mk hB.size
  have HT := As.mk ht
  have hp0 : w.cell? ⟨g, 0, none⟩ = some (.pointer (some ⟨gs, 0, none⟩)) := (blk_cell hI.p 0).trans rfl
  have hdp : decide (140 < depth) = false := decide_eq_false (by omega)
  have hz3 : (t.f0 == 3) = false := by simp [h0]
  have hz4 : (t.f0 == 4) = false := by simp [h0]
  have hz2 : (t.f0 == 2) = true := by simp [h0]
  have hz5 : (t.f0 == 5) = false := by simp [h0]
  have hz1 : (t.f0 == 1) = false := by simp [h0]
  have hx_tru : (t.f1.toList == [116, 114, 117, 101]) = false := by rw [beq_eq_false_iff_ne]; exact fun h => hs_tru (bytes_eq (h.trans (by rw [ByteArray.toList_eq])))
  have hx_fal : (t.f1.toList == [102, 97, 108, 115, 101]) = false := by rw [beq_eq_false_iff_ne]; exact fun h => hs_fal (bytes_eq (h.trans (by rw [ByteArray.toList_eq])))
  have hx_nt : (t.f1.toList == [110, 111, 116]) = false := by rw [beq_eq_false_iff_ne]; exact fun h => hs_nt (bytes_eq (h.trans (by rw [ByteArray.toList_eq])))
  clear hI hB ht h0 hs_tru hs_fal hs_nt
  go_enter Tryd.func42, Tryd.ntmps42
  go_wp2_with (first
    | (go_at_call 45; (with_reducible refine (next_calls gs l w0 _ HI0.out.s HB0.out).mono ?_); rintro e1 w3 ⟨rfl, hi, hb, hk⟩; have HI3 := As.mk (HI0.out.src hi hk); have HB3 := As.mk hb; have HK3 := As.mk (kp_src (Kept.refl w (fun k => k = g ∨ k = gs)) hk); clear hi hb hk; rw [HT.out])
    | ((with_reducible refine gate_dst (N := 5) rfl ?_); refine box_event ?hgg3 (N := 5) ?hdg3 (cs := #[.int .i64 0, .string (⟨#[]⟩ : ByteArray), .int .i64 0, .int .i64 0]) (t := 67) ?hrg3 ?_; (case hdg3 => rfl); (case hgg3 => rfl); (case hrg3 => first | (go_simp; done) | (go_simp; rfl)); intro g3 hg5 w4 hbx5 hbl5; have HI4 := As.mk (HI3.out.below hbl5); have HB4 := As.mk (bwS HB3.out hbl5); have HK4 := As.mk (kp_below HK3.out hbl5); have Y4 := As.mk hbx5; have HG3 := As.mk (show g3 ≠ g ∧ g3 ≠ gs ∧ w.heap.size ≤ g3 from ⟨by rw [hg5]; exact Nat.ne_of_gt HI3.out.lt, by rw [hg5]; exact Nat.ne_of_gt HI3.out.s.lt, by rw [hg5]; exact HK3.out.1⟩); clear hbx5 hbl5 hg5)
    | ((with_reducible refine gaS (t := 67) (p := 5) (v := .tmp 16) rfl ?_); refine row_event rfl 67 (.tmp 5) (.tmp 16) rfl g3 #[.int .i64 t.f0, .string t.f1, .int .i64 t.f2, .int .i64 t.f3] rfl rfl 67 _ Y4.out (by kernel_rfl) rfl (by simp [Value.oneCell']) rfl ?_; intro w5 hbut hb5; have HI5 := As.mk (HI4.out.but hbut (Ne.symm HG3.out.1) (Ne.symm HG3.out.2.1)); have HB5 := As.mk (hbut.below HB4.out (Nat.le_trans HLe.out HG3.out.2.2)); have HK5 := As.mk (kp_but HK4.out hbut HG3.out.2.2); have hk0 : w5.cell? ⟨g3, 0, none⟩ = some (.int .i64 t.f0) := (blk_cell hb5 0).trans rfl; have hk1 : w5.cell? ⟨g3, 1, none⟩ = some (.string t.f1) := (blk_cell hb5 1).trans rfl; have hk2 : w5.cell? ⟨g3, 2, none⟩ = some (.int .i64 t.f2) := (blk_cell hb5 2).trans rfl; have Y5 := As.mk hb5; have hp5 : w5.cell? ⟨g, 0, none⟩ = some (.pointer (some ⟨gs, 0, none⟩)) := (blk_cell HI5.out.p 0).trans rfl; clear hb5 hbut)
    | (go_at_call 41; (with_reducible refine (wrong_calls g gs (nextT l) e 2 w0 _ HI5.out HB5.out).mono ?_); rintro e1 w9 ⟨rfl, hi, hb, hk⟩; have HI9 := As.mk hi; have HB9 := As.mk hb; have HK9 := As.mk (kp_then HK5.out hk); clear hi hb hk))
  go_ret
  exact ⟨_, rfl, Kd.R_nil _ _ _ _ _, HI9.out, HB9.out, HK9.out⟩

set_option maxHeartbeats 4000000 in
set_option maxRecDepth 100000 in
theorem one_minus (k : Nat) (H1 : MinusC k) (r : List S53 × List S67 × Int) (g gs : Nat) (l : List S67) (e depth : Int) (hd0 : 0 ≤ depth) (hd1 : depth ≤ 140) (t : S67) (ht : peekT l = t) (h0 : t.f0 = 5) (ht1 : t.f1 = ⟨#[45]⟩) (h : minusF k depth (nextT l) e = some r) (w0 w : World) (hI : Pst w0 w g gs l e) (hB : Below w0.heap.size w0 w) :
    Calls Tryd.prog 42 #[.pointer (some ⟨g, 0, none⟩), .int .i64 depth] w (PPost w0 w g gs r.1 r.2.1 r.2.2) := by
  have HI0 := As.mk hI
  have HB0 := As.mk hB
  have HLe := As.mk hB.size
  have HT := As.mk ht
  have hp0 : w.cell? ⟨g, 0, none⟩ = some (.pointer (some ⟨gs, 0, none⟩)) := (blk_cell hI.p 0).trans rfl
  have hdp : decide (140 < depth) = false := decide_eq_false (by omega)
  have HO := As.mk (fun (w1 : World) (i1 : Pst w0 w1 g gs (nextT l) e) (b1 : Below w0.heap.size w0 w1) => H1 w0 w1 g gs (nextT l) e depth r i1 b1 (by omega) (by omega) h)
  clear H1 h
  have hz3 : (t.f0 == 3) = false := by simp [h0]
  have hz4 : (t.f0 == 4) = false := by simp [h0]
  have hz2 : (t.f0 == 2) = false := by simp [h0]
  have hz5 : (t.f0 == 5) = true := by simp [h0]
  have hx_mi : (t.f1.toList == [45]) = true := by rw [ht1, ByteArray.toList_eq]; rfl
  clear hI hB ht h0 ht1
  go_enter Tryd.func42, Tryd.ntmps42
  go_wp2_with (first
    | (go_at_call 45; (with_reducible refine (next_calls gs l w0 _ HI0.out.s HB0.out).mono ?_); rintro e1 w3 ⟨rfl, hi, hb, hk⟩; have HI3 := As.mk (HI0.out.src hi hk); have HB3 := As.mk hb; have HK3 := As.mk (kp_src (Kept.refl w (fun k => k = g ∨ k = gs)) hk); clear hi hb hk; rw [HT.out])
    | ((with_reducible refine gate_dst (N := 5) rfl ?_); refine box_event ?hgg3 (N := 5) ?hdg3 (cs := #[.int .i64 0, .string (⟨#[]⟩ : ByteArray), .int .i64 0, .int .i64 0]) (t := 67) ?hrg3 ?_; (case hdg3 => rfl); (case hgg3 => rfl); (case hrg3 => first | (go_simp; done) | (go_simp; rfl)); intro g3 hg5 w4 hbx5 hbl5; have HI4 := As.mk (HI3.out.below hbl5); have HB4 := As.mk (bwS HB3.out hbl5); have HK4 := As.mk (kp_below HK3.out hbl5); have Y4 := As.mk hbx5; have HG3 := As.mk (show g3 ≠ g ∧ g3 ≠ gs ∧ w.heap.size ≤ g3 from ⟨by rw [hg5]; exact Nat.ne_of_gt HI3.out.lt, by rw [hg5]; exact Nat.ne_of_gt HI3.out.s.lt, by rw [hg5]; exact HK3.out.1⟩); clear hbx5 hbl5 hg5)
    | ((with_reducible refine gaS (t := 67) (p := 5) (v := .tmp 16) rfl ?_); refine row_event rfl 67 (.tmp 5) (.tmp 16) rfl g3 #[.int .i64 t.f0, .string t.f1, .int .i64 t.f2, .int .i64 t.f3] rfl rfl 67 _ Y4.out (by kernel_rfl) rfl (by simp [Value.oneCell']) rfl ?_; intro w5 hbut hb5; have HI5 := As.mk (HI4.out.but hbut (Ne.symm HG3.out.1) (Ne.symm HG3.out.2.1)); have HB5 := As.mk (hbut.below HB4.out (Nat.le_trans HLe.out HG3.out.2.2)); have HK5 := As.mk (kp_but HK4.out hbut HG3.out.2.2); have hk0 : w5.cell? ⟨g3, 0, none⟩ = some (.int .i64 t.f0) := (blk_cell hb5 0).trans rfl; have hk1 : w5.cell? ⟨g3, 1, none⟩ = some (.string t.f1) := (blk_cell hb5 1).trans rfl; have hk2 : w5.cell? ⟨g3, 2, none⟩ = some (.int .i64 t.f2) := (blk_cell hb5 2).trans rfl; have Y5 := As.mk hb5; have hp5 : w5.cell? ⟨g, 0, none⟩ = some (.pointer (some ⟨gs, 0, none⟩)) := (blk_cell HI5.out.p 0).trans rfl; clear hb5 hbut)
    | (go_at_call 66; (with_reducible refine (HO.out _ HI5.out HB5.out).mono ?_); rintro e1 w6 ⟨v6, rfl, hr, hi, hb, hk⟩; have HR6 := As.mk (Kd.R_lower hr HK5.out.1); have HI6 := As.mk hi; have HB6 := As.mk hb; have HK6 := As.mk (kp_then HK5.out hk); clear hr hi hb hk))
  go_ret
  exact ⟨_, rfl, HR6.out, HI6.out, HB6.out, HK6.out⟩

set_option maxHeartbeats 4000000 in
set_option maxRecDepth 100000 in
theorem one_par_yes (k : Nat) (hk : k ≤ 100000) (H1 : LevelC k) (r : List S53 × List S67 × Int) (g gs : Nat) (l : List S67) (e depth : Int) (hd0 : 0 ≤ depth) (hd1 : depth ≤ 140) (t : S67) (ht : peekT l = t) (h0 : t.f0 = 5) (ht1 : t.f1 = ⟨#[40]⟩) (h : levelF k 1 (depth + 1) (nextT l) e = some r) (hq : isB r.2.1 5 ⟨#[41]⟩ = true) (w0 w : World) (hI : Pst w0 w g gs l e) (hB : Below w0.heap.size w0 w) :
    Calls Tryd.prog 42 #[.pointer (some ⟨g, 0, none⟩), .int .i64 depth] w (PPost w0 w g gs r.1 (nextT r.2.1) r.2.2) := by
  have HI0 := As.mk hI
  have HB0 := As.mk hB
  have HLe := As.mk hB.size
  have HT := As.mk ht
  have hp0 : w.cell? ⟨g, 0, none⟩ = some (.pointer (some ⟨gs, 0, none⟩)) := (blk_cell hI.p 0).trans rfl
  have hdp : decide (140 < depth) = false := decide_eq_false (by omega)
  have HO := As.mk (fun (w1 : World) (i1 : Pst w0 w1 g gs (nextT l) e) (b1 : Below w0.heap.size w0 w1) => H1 w0 w1 g gs (nextT l) e 1 (depth + 1) r i1 b1 (by omega) (by omega) h)
  have HLen := As.mk (show r.1.length < 1000000000 from by have := (len_all k).1 _ _ _ _ _ h; omega)
  clear H1 h hk
  have HQ := As.mk hq
  have hz3 : (t.f0 == 3) = false := by simp [h0]
  have hz4 : (t.f0 == 4) = false := by simp [h0]
  have hz2 : (t.f0 == 2) = false := by simp [h0]
  have hz5 : (t.f0 == 5) = true := by simp [h0]
  have hx_mi : (t.f1.toList == [45]) = false := by rw [ht1, ByteArray.toList_eq]; rfl
  have hx_pa : (t.f1.toList == [40]) = true := by rw [ht1, ByteArray.toList_eq]; rfl
  clear hI hB ht h0 ht1 hq
  go_enter Tryd.func42, Tryd.ntmps42
  go_wp2_with (first
    | (go_at_call 45; (with_reducible refine (next_calls gs l w0 _ HI0.out.s HB0.out).mono ?_); rintro e1 w3 ⟨rfl, hi, hb, hk⟩; have HI3 := As.mk (HI0.out.src hi hk); have HB3 := As.mk hb; have HK3 := As.mk (kp_src (Kept.refl w (fun k => k = g ∨ k = gs)) hk); clear hi hb hk; rw [HT.out])
    | ((with_reducible refine gate_dst (N := 5) rfl ?_); refine box_event ?hgg3 (N := 5) ?hdg3 (cs := #[.int .i64 0, .string (⟨#[]⟩ : ByteArray), .int .i64 0, .int .i64 0]) (t := 67) ?hrg3 ?_; (case hdg3 => rfl); (case hgg3 => rfl); (case hrg3 => first | (go_simp; done) | (go_simp; rfl)); intro g3 hg5 w4 hbx5 hbl5; have HI4 := As.mk (HI3.out.below hbl5); have HB4 := As.mk (bwS HB3.out hbl5); have HK4 := As.mk (kp_below HK3.out hbl5); have Y4 := As.mk hbx5; have HG3 := As.mk (show g3 ≠ g ∧ g3 ≠ gs ∧ w.heap.size ≤ g3 from ⟨by rw [hg5]; exact Nat.ne_of_gt HI3.out.lt, by rw [hg5]; exact Nat.ne_of_gt HI3.out.s.lt, by rw [hg5]; exact HK3.out.1⟩); clear hbx5 hbl5 hg5)
    | ((with_reducible refine gaS (t := 67) (p := 5) (v := .tmp 16) rfl ?_); refine row_event rfl 67 (.tmp 5) (.tmp 16) rfl g3 #[.int .i64 t.f0, .string t.f1, .int .i64 t.f2, .int .i64 t.f3] rfl rfl 67 _ Y4.out (by kernel_rfl) rfl (by simp [Value.oneCell']) rfl ?_; intro w5 hbut hb5; have HI5 := As.mk (HI4.out.but hbut (Ne.symm HG3.out.1) (Ne.symm HG3.out.2.1)); have HB5 := As.mk (hbut.below HB4.out (Nat.le_trans HLe.out HG3.out.2.2)); have HK5 := As.mk (kp_but HK4.out hbut HG3.out.2.2); have hk0 : w5.cell? ⟨g3, 0, none⟩ = some (.int .i64 t.f0) := (blk_cell hb5 0).trans rfl; have hk1 : w5.cell? ⟨g3, 1, none⟩ = some (.string t.f1) := (blk_cell hb5 1).trans rfl; have hk2 : w5.cell? ⟨g3, 2, none⟩ = some (.int .i64 t.f2) := (blk_cell hb5 2).trans rfl; have Y5 := As.mk hb5; have hp5 : w5.cell? ⟨g, 0, none⟩ = some (.pointer (some ⟨gs, 0, none⟩)) := (blk_cell HI5.out.p 0).trans rfl; clear hb5 hbut)
    | (go_at_call 29; (with_reducible refine (HO.out _ HI5.out HB5.out).mono ?_); rintro e1 w6 ⟨v6, rfl, hr, hi, hb, hk⟩; have HR6 := As.mk (Kd.R_lower hr HK5.out.1); have HI6 := As.mk hi; have HB6 := As.mk hb; have HK6 := As.mk (kp_then HK5.out hk); clear hr hi hb hk; have hp6 : w6.cell? ⟨g, 0, none⟩ = some (.pointer (some ⟨gs, 0, none⟩)) := (blk_cell HI6.out.p 0).trans rfl)
    | (go_at_call 52; (with_reducible refine (is_calls gs r.2.1 5 ⟨#[41]⟩ (by decide) w0 _ HI6.out.s HB6.out).mono ?_); rintro e1 w7 ⟨rfl, hi, hb, hk⟩; rw [HQ.out]; rw [HQ.out] at hi; have HI7 := As.mk (HI6.out.src hi hk); have HB7 := As.mk hb; have HK7 := As.mk (kp_src HK6.out hk); have HR7 := As.mk (row_src HR6.out HI6.out.s hk); clear hi hb hk))
  go_ret
  exact ⟨_, rfl, HR7.out, HI7.out, HB7.out, HK7.out⟩

set_option maxHeartbeats 4000000 in
set_option maxRecDepth 100000 in
theorem one_par_no (k : Nat) (hk : k ≤ 100000) (H1 : LevelC k) (r : List S53 × List S67 × Int) (g gs : Nat) (l : List S67) (e depth : Int) (hd0 : 0 ≤ depth) (hd1 : depth ≤ 140) (t : S67) (ht : peekT l = t) (h0 : t.f0 = 5) (ht1 : t.f1 = ⟨#[40]⟩) (h : levelF k 1 (depth + 1) (nextT l) e = some r) (hq : isB r.2.1 5 ⟨#[41]⟩ = false) (w0 w : World) (hI : Pst w0 w g gs l e) (hB : Below w0.heap.size w0 w) :
    Calls Tryd.prog 42 #[.pointer (some ⟨g, 0, none⟩), .int .i64 depth] w (PPost w0 w g gs [] r.2.1 (wr r.2.2 2)) := by
  have HI0 := As.mk hI
  have HB0 := As.mk hB
  have HLe := As.mk hB.size
  have HT := As.mk ht
  have hp0 : w.cell? ⟨g, 0, none⟩ = some (.pointer (some ⟨gs, 0, none⟩)) := (blk_cell hI.p 0).trans rfl
  have hdp : decide (140 < depth) = false := decide_eq_false (by omega)
  have HO := As.mk (fun (w1 : World) (i1 : Pst w0 w1 g gs (nextT l) e) (b1 : Below w0.heap.size w0 w1) => H1 w0 w1 g gs (nextT l) e 1 (depth + 1) r i1 b1 (by omega) (by omega) h)
  have HLen := As.mk (show r.1.length < 1000000000 from by have := (len_all k).1 _ _ _ _ _ h; omega)
  clear H1 h hk
  have HQ := As.mk hq
  have hz3 : (t.f0 == 3) = false := by simp [h0]
  have hz4 : (t.f0 == 4) = false := by simp [h0]
  have hz2 : (t.f0 == 2) = false := by simp [h0]
  have hz5 : (t.f0 == 5) = true := by simp [h0]
  have hx_mi : (t.f1.toList == [45]) = false := by rw [ht1, ByteArray.toList_eq]; rfl
  have hx_pa : (t.f1.toList == [40]) = true := by rw [ht1, ByteArray.toList_eq]; rfl
  clear hI hB ht h0 ht1 hq
  go_enter Tryd.func42, Tryd.ntmps42
  go_wp2_with (first
    | (go_at_call 45; (with_reducible refine (next_calls gs l w0 _ HI0.out.s HB0.out).mono ?_); rintro e1 w3 ⟨rfl, hi, hb, hk⟩; have HI3 := As.mk (HI0.out.src hi hk); have HB3 := As.mk hb; have HK3 := As.mk (kp_src (Kept.refl w (fun k => k = g ∨ k = gs)) hk); clear hi hb hk; rw [HT.out])
    | ((with_reducible refine gate_dst (N := 5) rfl ?_); refine box_event ?hgg3 (N := 5) ?hdg3 (cs := #[.int .i64 0, .string (⟨#[]⟩ : ByteArray), .int .i64 0, .int .i64 0]) (t := 67) ?hrg3 ?_; (case hdg3 => rfl); (case hgg3 => rfl); (case hrg3 => first | (go_simp; done) | (go_simp; rfl)); intro g3 hg5 w4 hbx5 hbl5; have HI4 := As.mk (HI3.out.below hbl5); have HB4 := As.mk (bwS HB3.out hbl5); have HK4 := As.mk (kp_below HK3.out hbl5); have Y4 := As.mk hbx5; have HG3 := As.mk (show g3 ≠ g ∧ g3 ≠ gs ∧ w.heap.size ≤ g3 from ⟨by rw [hg5]; exact Nat.ne_of_gt HI3.out.lt, by rw [hg5]; exact Nat.ne_of_gt HI3.out.s.lt, by rw [hg5]; exact HK3.out.1⟩); clear hbx5 hbl5 hg5)
    | ((with_reducible refine gaS (t := 67) (p := 5) (v := .tmp 16) rfl ?_); refine row_event rfl 67 (.tmp 5) (.tmp 16) rfl g3 #[.int .i64 t.f0, .string t.f1, .int .i64 t.f2, .int .i64 t.f3] rfl rfl 67 _ Y4.out (by kernel_rfl) rfl (by simp [Value.oneCell']) rfl ?_; intro w5 hbut hb5; have HI5 := As.mk (HI4.out.but hbut (Ne.symm HG3.out.1) (Ne.symm HG3.out.2.1)); have HB5 := As.mk (hbut.below HB4.out (Nat.le_trans HLe.out HG3.out.2.2)); have HK5 := As.mk (kp_but HK4.out hbut HG3.out.2.2); have hk0 : w5.cell? ⟨g3, 0, none⟩ = some (.int .i64 t.f0) := (blk_cell hb5 0).trans rfl; have hk1 : w5.cell? ⟨g3, 1, none⟩ = some (.string t.f1) := (blk_cell hb5 1).trans rfl; have hk2 : w5.cell? ⟨g3, 2, none⟩ = some (.int .i64 t.f2) := (blk_cell hb5 2).trans rfl; have Y5 := As.mk hb5; have hp5 : w5.cell? ⟨g, 0, none⟩ = some (.pointer (some ⟨gs, 0, none⟩)) := (blk_cell HI5.out.p 0).trans rfl; clear hb5 hbut)
    | (go_at_call 29; (with_reducible refine (HO.out _ HI5.out HB5.out).mono ?_); rintro e1 w6 ⟨v6, rfl, hr, hi, hb, hk⟩; have HR6 := As.mk (Kd.R_lower hr HK5.out.1); have HI6 := As.mk hi; have HB6 := As.mk hb; have HK6 := As.mk (kp_then HK5.out hk); clear hr hi hb hk; have hp6 : w6.cell? ⟨g, 0, none⟩ = some (.pointer (some ⟨gs, 0, none⟩)) := (blk_cell HI6.out.p 0).trans rfl)
    | (go_at_call 52; (with_reducible refine (is_calls gs r.2.1 5 ⟨#[41]⟩ (by decide) w0 _ HI6.out.s HB6.out).mono ?_); rintro e1 w7 ⟨rfl, hi, hb, hk⟩; rw [HQ.out]; rw [HQ.out] at hi; have HI7 := As.mk (HI6.out.src hi hk); have HB7 := As.mk hb; have HK7 := As.mk (kp_src HK6.out hk); clear hi hb hk)
    | (go_at_call 41; (with_reducible refine (wrong_calls g gs r.2.1 r.2.2 2 w0 _ HI7.out HB7.out).mono ?_); rintro e1 w9 ⟨rfl, hi, hb, hk⟩; have HI9 := As.mk hi; have HB9 := As.mk hb; have HK9 := As.mk (kp_then HK7.out hk); clear hi hb hk))
  go_ret
  exact ⟨_, rfl, Kd.R_nil _ _ _ _ _, HI9.out, HB9.out, HK9.out⟩

set_option maxHeartbeats 4000000 in
set_option maxRecDepth 100000 in
theorem one_sign (g gs : Nat) (l : List S67) (e depth : Int) (hd0 : 0 ≤ depth) (hd1 : depth ≤ 140) (t : S67) (ht : peekT l = t) (h0 : t.f0 = 5) (hs_mi : t.f1 ≠ ⟨#[45]⟩) (hs_pa : t.f1 ≠ ⟨#[40]⟩) (w0 w : World) (hI : Pst w0 w g gs l e) (hB : Below w0.heap.size w0 w) :
    Calls Tryd.prog 42 #[.pointer (some ⟨g, 0, none⟩), .int .i64 depth] w (PPost w0 w g gs [] (nextT l) (wr e 2)) := by
  have HI0 := As.mk hI
  have HB0 := As.mk hB
  have HLe := As.mk hB.size
  have HT := As.mk ht
  have hp0 : w.cell? ⟨g, 0, none⟩ = some (.pointer (some ⟨gs, 0, none⟩)) := (blk_cell hI.p 0).trans rfl
  have hdp : decide (140 < depth) = false := decide_eq_false (by omega)
  have hz3 : (t.f0 == 3) = false := by simp [h0]
  have hz4 : (t.f0 == 4) = false := by simp [h0]
  have hz2 : (t.f0 == 2) = false := by simp [h0]
  have hz5 : (t.f0 == 5) = true := by simp [h0]
  have hz1 : (t.f0 == 1) = false := by simp [h0]
  have hx_mi : (t.f1.toList == [45]) = false := by rw [beq_eq_false_iff_ne]; exact fun h => hs_mi (bytes_eq (h.trans (by rw [ByteArray.toList_eq])))
  have hx_pa : (t.f1.toList == [40]) = false := by rw [beq_eq_false_iff_ne]; exact fun h => hs_pa (bytes_eq (h.trans (by rw [ByteArray.toList_eq])))
  clear hI hB ht h0 hs_mi hs_pa
  go_enter Tryd.func42, Tryd.ntmps42
  go_wp2_with (first
    | (go_at_call 45; (with_reducible refine (next_calls gs l w0 _ HI0.out.s HB0.out).mono ?_); rintro e1 w3 ⟨rfl, hi, hb, hk⟩; have HI3 := As.mk (HI0.out.src hi hk); have HB3 := As.mk hb; have HK3 := As.mk (kp_src (Kept.refl w (fun k => k = g ∨ k = gs)) hk); clear hi hb hk; rw [HT.out])
    | ((with_reducible refine gate_dst (N := 5) rfl ?_); refine box_event ?hgg3 (N := 5) ?hdg3 (cs := #[.int .i64 0, .string (⟨#[]⟩ : ByteArray), .int .i64 0, .int .i64 0]) (t := 67) ?hrg3 ?_; (case hdg3 => rfl); (case hgg3 => rfl); (case hrg3 => first | (go_simp; done) | (go_simp; rfl)); intro g3 hg5 w4 hbx5 hbl5; have HI4 := As.mk (HI3.out.below hbl5); have HB4 := As.mk (bwS HB3.out hbl5); have HK4 := As.mk (kp_below HK3.out hbl5); have Y4 := As.mk hbx5; have HG3 := As.mk (show g3 ≠ g ∧ g3 ≠ gs ∧ w.heap.size ≤ g3 from ⟨by rw [hg5]; exact Nat.ne_of_gt HI3.out.lt, by rw [hg5]; exact Nat.ne_of_gt HI3.out.s.lt, by rw [hg5]; exact HK3.out.1⟩); clear hbx5 hbl5 hg5)
    | ((with_reducible refine gaS (t := 67) (p := 5) (v := .tmp 16) rfl ?_); refine row_event rfl 67 (.tmp 5) (.tmp 16) rfl g3 #[.int .i64 t.f0, .string t.f1, .int .i64 t.f2, .int .i64 t.f3] rfl rfl 67 _ Y4.out (by kernel_rfl) rfl (by simp [Value.oneCell']) rfl ?_; intro w5 hbut hb5; have HI5 := As.mk (HI4.out.but hbut (Ne.symm HG3.out.1) (Ne.symm HG3.out.2.1)); have HB5 := As.mk (hbut.below HB4.out (Nat.le_trans HLe.out HG3.out.2.2)); have HK5 := As.mk (kp_but HK4.out hbut HG3.out.2.2); have hk0 : w5.cell? ⟨g3, 0, none⟩ = some (.int .i64 t.f0) := (blk_cell hb5 0).trans rfl; have hk1 : w5.cell? ⟨g3, 1, none⟩ = some (.string t.f1) := (blk_cell hb5 1).trans rfl; have hk2 : w5.cell? ⟨g3, 2, none⟩ = some (.int .i64 t.f2) := (blk_cell hb5 2).trans rfl; have Y5 := As.mk hb5; have hp5 : w5.cell? ⟨g, 0, none⟩ = some (.pointer (some ⟨gs, 0, none⟩)) := (blk_cell HI5.out.p 0).trans rfl; clear hb5 hbut)
    | (go_at_call 41; (with_reducible refine (wrong_calls g gs (nextT l) e 2 w0 _ HI5.out HB5.out).mono ?_); rintro e1 w9 ⟨rfl, hi, hb, hk⟩; have HI9 := As.mk hi; have HB9 := As.mk hb; have HK9 := As.mk (kp_then HK5.out hk); clear hi hb hk))
  go_ret
  exact ⟨_, rfl, Kd.R_nil _ _ _ _ _, HI9.out, HB9.out, HK9.out⟩

set_option maxHeartbeats 4000000 in
set_option maxRecDepth 100000 in
theorem one_name_no (g gs : Nat) (l : List S67) (e depth : Int) (hd0 : 0 ≤ depth) (hd1 : depth ≤ 140) (t : S67) (ht : peekT l = t) (h0 : t.f0 = 1) (hq : isB (nextT l) 5 ⟨#[46]⟩ = false) (w0 w : World) (hI : Pst w0 w g gs l e) (hB : Below w0.heap.size w0 w) :
    Calls Tryd.prog 42 #[.pointer (some ⟨g, 0, none⟩), .int .i64 depth] w (PPost w0 w g gs [] (nextT l) (wr e 2)) := by
  have HI0 := As.mk hI
  have HB0 := As.mk hB
  have HLe := As.mk hB.size
  have HT := As.mk ht
  have hp0 : w.cell? ⟨g, 0, none⟩ = some (.pointer (some ⟨gs, 0, none⟩)) := (blk_cell hI.p 0).trans rfl
  have hdp : decide (140 < depth) = false := decide_eq_false (by omega)
  have HQ := As.mk hq
  have hz3 : (t.f0 == 3) = false := by simp [h0]
  have hz4 : (t.f0 == 4) = false := by simp [h0]
  have hz2 : (t.f0 == 2) = false := by simp [h0]
  have hz5 : (t.f0 == 5) = false := by simp [h0]
  have hz1 : (t.f0 == 1) = true := by simp [h0]
  clear hI hB ht h0 hq
  go_enter Tryd.func42, Tryd.ntmps42
  go_wp2_with (first
    | (go_at_call 45; (with_reducible refine (next_calls gs l w0 _ HI0.out.s HB0.out).mono ?_); rintro e1 w3 ⟨rfl, hi, hb, hk⟩; have HI3 := As.mk (HI0.out.src hi hk); have HB3 := As.mk hb; have HK3 := As.mk (kp_src (Kept.refl w (fun k => k = g ∨ k = gs)) hk); clear hi hb hk; rw [HT.out])
    | ((with_reducible refine gate_dst (N := 5) rfl ?_); refine box_event ?hgg3 (N := 5) ?hdg3 (cs := #[.int .i64 0, .string (⟨#[]⟩ : ByteArray), .int .i64 0, .int .i64 0]) (t := 67) ?hrg3 ?_; (case hdg3 => rfl); (case hgg3 => rfl); (case hrg3 => first | (go_simp; done) | (go_simp; rfl)); intro g3 hg5 w4 hbx5 hbl5; have HI4 := As.mk (HI3.out.below hbl5); have HB4 := As.mk (bwS HB3.out hbl5); have HK4 := As.mk (kp_below HK3.out hbl5); have Y4 := As.mk hbx5; have HG3 := As.mk (show g3 ≠ g ∧ g3 ≠ gs ∧ w.heap.size ≤ g3 from ⟨by rw [hg5]; exact Nat.ne_of_gt HI3.out.lt, by rw [hg5]; exact Nat.ne_of_gt HI3.out.s.lt, by rw [hg5]; exact HK3.out.1⟩); clear hbx5 hbl5 hg5)
    | ((with_reducible refine gaS (t := 67) (p := 5) (v := .tmp 16) rfl ?_); refine row_event rfl 67 (.tmp 5) (.tmp 16) rfl g3 #[.int .i64 t.f0, .string t.f1, .int .i64 t.f2, .int .i64 t.f3] rfl rfl 67 _ Y4.out (by kernel_rfl) rfl (by simp [Value.oneCell']) rfl ?_; intro w5 hbut hb5; have HI5 := As.mk (HI4.out.but hbut (Ne.symm HG3.out.1) (Ne.symm HG3.out.2.1)); have HB5 := As.mk (hbut.below HB4.out (Nat.le_trans HLe.out HG3.out.2.2)); have HK5 := As.mk (kp_but HK4.out hbut HG3.out.2.2); have hk0 : w5.cell? ⟨g3, 0, none⟩ = some (.int .i64 t.f0) := (blk_cell hb5 0).trans rfl; have hk1 : w5.cell? ⟨g3, 1, none⟩ = some (.string t.f1) := (blk_cell hb5 1).trans rfl; have hk2 : w5.cell? ⟨g3, 2, none⟩ = some (.int .i64 t.f2) := (blk_cell hb5 2).trans rfl; have Y5 := As.mk hb5; have hp5 : w5.cell? ⟨g, 0, none⟩ = some (.pointer (some ⟨gs, 0, none⟩)) := (blk_cell HI5.out.p 0).trans rfl; clear hb5 hbut)
    | (go_at_call 52; (with_reducible refine (is_calls gs (nextT l) 5 ⟨#[46]⟩ (by decide) w0 _ HI5.out.s HB5.out).mono ?_); rintro e1 w7 ⟨rfl, hi, hb, hk⟩; rw [HQ.out]; rw [HQ.out] at hi; have HI7 := As.mk (HI5.out.src hi hk); have HB7 := As.mk hb; have HK7 := As.mk (kp_src HK5.out hk); clear hi hb hk)
    | (go_at_call 41; (with_reducible refine (wrong_calls g gs (nextT l) e 2 w0 _ HI7.out HB7.out).mono ?_); rintro e1 w9 ⟨rfl, hi, hb, hk⟩; have HI9 := As.mk hi; have HB9 := As.mk hb; have HK9 := As.mk (kp_then HK7.out hk); clear hi hb hk))
  go_ret
  exact ⟨_, rfl, Kd.R_nil _ _ _ _ _, HI9.out, HB9.out, HK9.out⟩

set_option maxHeartbeats 4000000 in
set_option maxRecDepth 100000 in
theorem one_name_fld (g gs : Nat) (l : List S67) (e depth : Int) (hd0 : 0 ≤ depth) (hd1 : depth ≤ 140) (t : S67) (ht : peekT l = t) (h0 : t.f0 = 1) (hq : isB (nextT l) 5 ⟨#[46]⟩ = true) (u : S67) (hu : peekT (nextT (nextT l)) = u) (hu1 : u.f0 = 1) (w0 w : World) (hI : Pst w0 w g gs l e) (hB : Below w0.heap.size w0 w) :
    Calls Tryd.prog 42 #[.pointer (some ⟨g, 0, none⟩), .int .i64 depth] w (PPost w0 w g gs [fldNode t.f1 u.f1] (nextT (nextT (nextT l))) e) := by
  have HI0 := As.mk hI
  have HB0 := As.mk hB
  have HLe := As.mk hB.size
  have HT := As.mk ht
  have hp0 : w.cell? ⟨g, 0, none⟩ = some (.pointer (some ⟨gs, 0, none⟩)) := (blk_cell hI.p 0).trans rfl
  have hdp : decide (140 < depth) = false := decide_eq_false (by omega)
  have HQ := As.mk hq
  have HU := As.mk hu
  have hu2 : (u.f0 != 1) = false := by simp [hu1]
  have hu3 : (u.f0 == 1) = true := by simp [hu1]
  have hz3 : (t.f0 == 3) = false := by simp [h0]
  have hz4 : (t.f0 == 4) = false := by simp [h0]
  have hz2 : (t.f0 == 2) = false := by simp [h0]
  have hz5 : (t.f0 == 5) = false := by simp [h0]
  have hz1 : (t.f0 == 1) = true := by simp [h0]
  clear hI hB ht h0 hq hu hu1
  go_enter Tryd.func42, Tryd.ntmps42
  go_wp2_with (first
    | (go_at_call 45; (with_reducible refine (next_calls gs l w0 _ HI0.out.s HB0.out).mono ?_); rintro e1 w3 ⟨rfl, hi, hb, hk⟩; have HI3 := As.mk (HI0.out.src hi hk); have HB3 := As.mk hb; have HK3 := As.mk (kp_src (Kept.refl w (fun k => k = g ∨ k = gs)) hk); clear hi hb hk; rw [HT.out])
    | ((with_reducible refine gate_dst (N := 5) rfl ?_); refine box_event ?hgg3 (N := 5) ?hdg3 (cs := #[.int .i64 0, .string (⟨#[]⟩ : ByteArray), .int .i64 0, .int .i64 0]) (t := 67) ?hrg3 ?_; (case hdg3 => rfl); (case hgg3 => rfl); (case hrg3 => first | (go_simp; done) | (go_simp; rfl)); intro g3 hg5 w4 hbx5 hbl5; have HI4 := As.mk (HI3.out.below hbl5); have HB4 := As.mk (bwS HB3.out hbl5); have HK4 := As.mk (kp_below HK3.out hbl5); have Y4 := As.mk hbx5; have HG3 := As.mk (show g3 ≠ g ∧ g3 ≠ gs ∧ w.heap.size ≤ g3 from ⟨by rw [hg5]; exact Nat.ne_of_gt HI3.out.lt, by rw [hg5]; exact Nat.ne_of_gt HI3.out.s.lt, by rw [hg5]; exact HK3.out.1⟩); clear hbx5 hbl5 hg5)
    | ((with_reducible refine gaS (t := 67) (p := 5) (v := .tmp 16) rfl ?_); refine row_event rfl 67 (.tmp 5) (.tmp 16) rfl g3 #[.int .i64 t.f0, .string t.f1, .int .i64 t.f2, .int .i64 t.f3] rfl rfl 67 _ Y4.out (by kernel_rfl) rfl (by simp [Value.oneCell']) rfl ?_; intro w5 hbut hb5; have HI5 := As.mk (HI4.out.but hbut (Ne.symm HG3.out.1) (Ne.symm HG3.out.2.1)); have HB5 := As.mk (hbut.below HB4.out (Nat.le_trans HLe.out HG3.out.2.2)); have HK5 := As.mk (kp_but HK4.out hbut HG3.out.2.2); have hk0 : w5.cell? ⟨g3, 0, none⟩ = some (.int .i64 t.f0) := (blk_cell hb5 0).trans rfl; have hk1 : w5.cell? ⟨g3, 1, none⟩ = some (.string t.f1) := (blk_cell hb5 1).trans rfl; have hk2 : w5.cell? ⟨g3, 2, none⟩ = some (.int .i64 t.f2) := (blk_cell hb5 2).trans rfl; have Y5 := As.mk hb5; have hp5 : w5.cell? ⟨g, 0, none⟩ = some (.pointer (some ⟨gs, 0, none⟩)) := (blk_cell HI5.out.p 0).trans rfl; clear hb5 hbut)
    | (go_at_call 52; (with_reducible refine (is_calls gs (nextT l) 5 ⟨#[46]⟩ (by decide) w0 _ HI5.out.s HB5.out).mono ?_); rintro e1 w7 ⟨rfl, hi, hb, hk⟩; rw [HQ.out]; rw [HQ.out] at hi; have HI7 := As.mk (HI5.out.src hi hk); have HB7 := As.mk hb; have HK7 := As.mk (kp_src HK5.out hk); have Y7 := As.mk (hk.blk Y5.out HG3.out.2.1 (by simp)); have hp7 : w7.cell? ⟨g, 0, none⟩ = some (.pointer (some ⟨gs, 0, none⟩)) := (blk_cell HI7.out.p 0).trans rfl; clear hi hb hk)
    | (go_at_call 45; (with_reducible refine (next_calls gs (nextT (nextT l)) w0 _ HI7.out.s HB7.out).mono ?_); rintro e1 w10 ⟨rfl, hi, hb, hk⟩; have HI10 := As.mk (HI7.out.src hi hk); have HB10 := As.mk hb; have HK10 := As.mk (kp_src HK7.out hk); have Y10 := As.mk (hk.blk Y7.out HG3.out.2.1 (by simp)); clear hi hb hk; rw [HU.out])
    | ((with_reducible refine gate_dst (N := 7) rfl ?_); refine box_event ?hgg7 (N := 7) ?hdg7 (cs := #[.int .i64 0, .string (⟨#[]⟩ : ByteArray), .int .i64 0, .int .i64 0]) (t := 67) ?hrg7 ?_; (case hdg7 => rfl); (case hgg7 => rfl); (case hrg7 => first | (go_simp; done) | (go_simp; rfl)); intro g7 hg7 w11 hbx7 hbl7; have HI11 := As.mk (HI10.out.below hbl7); have HB11 := As.mk (bwS HB10.out hbl7); have HK11 := As.mk (kp_below HK10.out hbl7); have Y11 := As.mk ((hbl7.block _ (blk_lt Y10.out)).trans Y10.out); have Z11 := As.mk hbx7; have HG7 := As.mk (show g7 ≠ g ∧ g7 ≠ gs ∧ w.heap.size ≤ g7 ∧ g3 ≠ g7 from ⟨by rw [hg7]; exact Nat.ne_of_gt HI10.out.lt, by rw [hg7]; exact Nat.ne_of_gt HI10.out.s.lt, by rw [hg7]; exact HK10.out.1, by rw [hg7]; exact Nat.ne_of_lt (blk_lt Y10.out)⟩); clear hbx7 hbl7 hg7)
    | ((with_reducible refine gaS (t := 67) (p := 7) (v := .tmp 120) rfl ?_); refine row_event rfl 67 (.tmp 7) (.tmp 120) rfl g7 #[.int .i64 u.f0, .string u.f1, .int .i64 u.f2, .int .i64 u.f3] rfl rfl 67 _ Z11.out (by kernel_rfl) rfl (by simp [Value.oneCell']) rfl ?_; intro w12 hbut hb5; have HI12 := As.mk (HI11.out.but hbut (Ne.symm HG7.out.1) (Ne.symm HG7.out.2.1)); have HB12 := As.mk (hbut.below HB11.out (Nat.le_trans HLe.out HG7.out.2.2.1)); have HK12 := As.mk (kp_but HK11.out hbut HG7.out.2.2.1); have hq0 : w12.cell? ⟨g7, 0, none⟩ = some (.int .i64 u.f0) := (blk_cell hb5 0).trans rfl; have hq1 : w12.cell? ⟨g7, 1, none⟩ = some (.string u.f1) := (blk_cell hb5 1).trans rfl; have Y12 := As.mk ((hbut.blk _ HG7.out.2.2.2).trans Y11.out); have hy1 : w12.cell? ⟨g3, 1, none⟩ = some (.string t.f1) := (blk_cell Y12.out 1).trans rfl; clear hb5 hbut)
    | ((with_reducible refine gate_dst (N := 131) rfl ?_); refine lit_event rfl (N := 131) rfl (fldNode t.f1 u.f1) ?hr131 ?_; (case hr131 => first | (go_simp; done) | (go_simp; rfl)); intro v8 w8 hr hb; have HR8 := As.mk (Kd.R_lower hr HK12.out.1); have HI8 := As.mk (HI12.out.below hb); have HB8 := As.mk (bwS HB12.out hb); have HK8 := As.mk (kp_below HK12.out hb); clear hr hb))
  go_ret
  exact ⟨_, rfl, HR8.out, HI8.out, HB8.out, HK8.out⟩

set_option maxHeartbeats 4000000 in
set_option maxRecDepth 100000 in
theorem one_name_nofld (g gs : Nat) (l : List S67) (e depth : Int) (hd0 : 0 ≤ depth) (hd1 : depth ≤ 140) (t : S67) (ht : peekT l = t) (h0 : t.f0 = 1) (hq : isB (nextT l) 5 ⟨#[46]⟩ = true) (u : S67) (hu : peekT (nextT (nextT l)) = u) (hu1 : u.f0 ≠ 1) (w0 w : World) (hI : Pst w0 w g gs l e) (hB : Below w0.heap.size w0 w) :
    Calls Tryd.prog 42 #[.pointer (some ⟨g, 0, none⟩), .int .i64 depth] w (PPost w0 w g gs [] (nextT (nextT (nextT l))) (wr e 2)) := by
  have HI0 := As.mk hI
  have HB0 := As.mk hB
  have HLe := As.mk hB.size
  have HT := As.mk ht
  have hp0 : w.cell? ⟨g, 0, none⟩ = some (.pointer (some ⟨gs, 0, none⟩)) := (blk_cell hI.p 0).trans rfl
  have hdp : decide (140 < depth) = false := decide_eq_false (by omega)
  have HQ := As.mk hq
  have HU := As.mk hu
  have hu2 : (u.f0 != 1) = true := by simp [hu1]
  have hu3 : (u.f0 == 1) = false := by simp [hu1]
  have hz3 : (t.f0 == 3) = false := by simp [h0]
  have hz4 : (t.f0 == 4) = false := by simp [h0]
  have hz2 : (t.f0 == 2) = false := by simp [h0]
  have hz5 : (t.f0 == 5) = false := by simp [h0]
  have hz1 : (t.f0 == 1) = true := by simp [h0]
  clear hI hB ht h0 hq hu hu1
  go_enter Tryd.func42, Tryd.ntmps42
  go_wp2_with (first
    | (go_at_call 45; (with_reducible refine (next_calls gs l w0 _ HI0.out.s HB0.out).mono ?_); rintro e1 w3 ⟨rfl, hi, hb, hk⟩; have HI3 := As.mk (HI0.out.src hi hk); have HB3 := As.mk hb; have HK3 := As.mk (kp_src (Kept.refl w (fun k => k = g ∨ k = gs)) hk); clear hi hb hk; rw [HT.out])
    | ((with_reducible refine gate_dst (N := 5) rfl ?_); refine box_event ?hgg3 (N := 5) ?hdg3 (cs := #[.int .i64 0, .string (⟨#[]⟩ : ByteArray), .int .i64 0, .int .i64 0]) (t := 67) ?hrg3 ?_; (case hdg3 => rfl); (case hgg3 => rfl); (case hrg3 => first | (go_simp; done) | (go_simp; rfl)); intro g3 hg5 w4 hbx5 hbl5; have HI4 := As.mk (HI3.out.below hbl5); have HB4 := As.mk (bwS HB3.out hbl5); have HK4 := As.mk (kp_below HK3.out hbl5); have Y4 := As.mk hbx5; have HG3 := As.mk (show g3 ≠ g ∧ g3 ≠ gs ∧ w.heap.size ≤ g3 from ⟨by rw [hg5]; exact Nat.ne_of_gt HI3.out.lt, by rw [hg5]; exact Nat.ne_of_gt HI3.out.s.lt, by rw [hg5]; exact HK3.out.1⟩); clear hbx5 hbl5 hg5)
    | ((with_reducible refine gaS (t := 67) (p := 5) (v := .tmp 16) rfl ?_); refine row_event rfl 67 (.tmp 5) (.tmp 16) rfl g3 #[.int .i64 t.f0, .string t.f1, .int .i64 t.f2, .int .i64 t.f3] rfl rfl 67 _ Y4.out (by kernel_rfl) rfl (by simp [Value.oneCell']) rfl ?_; intro w5 hbut hb5; have HI5 := As.mk (HI4.out.but hbut (Ne.symm HG3.out.1) (Ne.symm HG3.out.2.1)); have HB5 := As.mk (hbut.below HB4.out (Nat.le_trans HLe.out HG3.out.2.2)); have HK5 := As.mk (kp_but HK4.out hbut HG3.out.2.2); have hk0 : w5.cell? ⟨g3, 0, none⟩ = some (.int .i64 t.f0) := (blk_cell hb5 0).trans rfl; have hk1 : w5.cell? ⟨g3, 1, none⟩ = some (.string t.f1) := (blk_cell hb5 1).trans rfl; have hk2 : w5.cell? ⟨g3, 2, none⟩ = some (.int .i64 t.f2) := (blk_cell hb5 2).trans rfl; have Y5 := As.mk hb5; have hp5 : w5.cell? ⟨g, 0, none⟩ = some (.pointer (some ⟨gs, 0, none⟩)) := (blk_cell HI5.out.p 0).trans rfl; clear hb5 hbut)
    | (go_at_call 52; (with_reducible refine (is_calls gs (nextT l) 5 ⟨#[46]⟩ (by decide) w0 _ HI5.out.s HB5.out).mono ?_); rintro e1 w7 ⟨rfl, hi, hb, hk⟩; rw [HQ.out]; rw [HQ.out] at hi; have HI7 := As.mk (HI5.out.src hi hk); have HB7 := As.mk hb; have HK7 := As.mk (kp_src HK5.out hk); have Y7 := As.mk (hk.blk Y5.out HG3.out.2.1 (by simp)); have hp7 : w7.cell? ⟨g, 0, none⟩ = some (.pointer (some ⟨gs, 0, none⟩)) := (blk_cell HI7.out.p 0).trans rfl; clear hi hb hk)
    | (go_at_call 45; (with_reducible refine (next_calls gs (nextT (nextT l)) w0 _ HI7.out.s HB7.out).mono ?_); rintro e1 w10 ⟨rfl, hi, hb, hk⟩; have HI10 := As.mk (HI7.out.src hi hk); have HB10 := As.mk hb; have HK10 := As.mk (kp_src HK7.out hk); have Y10 := As.mk (hk.blk Y7.out HG3.out.2.1 (by simp)); clear hi hb hk; rw [HU.out])
    | ((with_reducible refine gate_dst (N := 7) rfl ?_); refine box_event ?hgg7 (N := 7) ?hdg7 (cs := #[.int .i64 0, .string (⟨#[]⟩ : ByteArray), .int .i64 0, .int .i64 0]) (t := 67) ?hrg7 ?_; (case hdg7 => rfl); (case hgg7 => rfl); (case hrg7 => first | (go_simp; done) | (go_simp; rfl)); intro g7 hg7 w11 hbx7 hbl7; have HI11 := As.mk (HI10.out.below hbl7); have HB11 := As.mk (bwS HB10.out hbl7); have HK11 := As.mk (kp_below HK10.out hbl7); have Y11 := As.mk ((hbl7.block _ (blk_lt Y10.out)).trans Y10.out); have Z11 := As.mk hbx7; have HG7 := As.mk (show g7 ≠ g ∧ g7 ≠ gs ∧ w.heap.size ≤ g7 ∧ g3 ≠ g7 from ⟨by rw [hg7]; exact Nat.ne_of_gt HI10.out.lt, by rw [hg7]; exact Nat.ne_of_gt HI10.out.s.lt, by rw [hg7]; exact HK10.out.1, by rw [hg7]; exact Nat.ne_of_lt (blk_lt Y10.out)⟩); clear hbx7 hbl7 hg7)
    | ((with_reducible refine gaS (t := 67) (p := 7) (v := .tmp 120) rfl ?_); refine row_event rfl 67 (.tmp 7) (.tmp 120) rfl g7 #[.int .i64 u.f0, .string u.f1, .int .i64 u.f2, .int .i64 u.f3] rfl rfl 67 _ Z11.out (by kernel_rfl) rfl (by simp [Value.oneCell']) rfl ?_; intro w12 hbut hb5; have HI12 := As.mk (HI11.out.but hbut (Ne.symm HG7.out.1) (Ne.symm HG7.out.2.1)); have HB12 := As.mk (hbut.below HB11.out (Nat.le_trans HLe.out HG7.out.2.2.1)); have HK12 := As.mk (kp_but HK11.out hbut HG7.out.2.2.1); have hq0 : w12.cell? ⟨g7, 0, none⟩ = some (.int .i64 u.f0) := (blk_cell hb5 0).trans rfl; have hq1 : w12.cell? ⟨g7, 1, none⟩ = some (.string u.f1) := (blk_cell hb5 1).trans rfl; have Y12 := As.mk ((hbut.blk _ HG7.out.2.2.2).trans Y11.out); have hy1 : w12.cell? ⟨g3, 1, none⟩ = some (.string t.f1) := (blk_cell Y12.out 1).trans rfl; clear hb5 hbut)
    | (go_at_call 41; (with_reducible refine (wrong_calls g gs (nextT (nextT (nextT l))) e 2 w0 _ HI12.out HB12.out).mono ?_); rintro e1 w9 ⟨rfl, hi, hb, hk⟩; have HI9 := As.mk hi; have HB9 := As.mk hb; have HK9 := As.mk (kp_then HK12.out hk); clear hi hb hk))
  go_ret
  exact ⟨_, rfl, Kd.R_nil _ _ _ _ _, HI9.out, HB9.out, HK9.out⟩

set_option maxHeartbeats 4000000 in
set_option maxRecDepth 100000 in
theorem one_none (g gs : Nat) (l : List S67) (e depth : Int) (hd0 : 0 ≤ depth) (hd1 : depth ≤ 140) (t : S67) (ht : peekT l = t) (h3 : t.f0 ≠ 3) (h4 : t.f0 ≠ 4) (h2 : t.f0 ≠ 2) (h5 : t.f0 ≠ 5) (h1 : t.f0 ≠ 1) (w0 w : World) (hI : Pst w0 w g gs l e) (hB : Below w0.heap.size w0 w) :
    Calls Tryd.prog 42 #[.pointer (some ⟨g, 0, none⟩), .int .i64 depth] w (PPost w0 w g gs [] (nextT l) (wr e 2)) := by
  have HI0 := As.mk hI
  have HB0 := As.mk hB
  have HLe := As.mk hB.size
  have HT := As.mk ht
  have hp0 : w.cell? ⟨g, 0, none⟩ = some (.pointer (some ⟨gs, 0, none⟩)) := (blk_cell hI.p 0).trans rfl
  have hdp : decide (140 < depth) = false := decide_eq_false (by omega)
  have hz3 : (t.f0 == 3) = false := by simp [h3]
  have hz4 : (t.f0 == 4) = false := by simp [h4]
  have hz2 : (t.f0 == 2) = false := by simp [h2]
  have hz5 : (t.f0 == 5) = false := by simp [h5]
  have hz1 : (t.f0 == 1) = false := by simp [h1]
  clear hI hB ht h3 h4 h2 h5 h1
  go_enter Tryd.func42, Tryd.ntmps42
  go_wp2_with (first
    | (go_at_call 45; (with_reducible refine (next_calls gs l w0 _ HI0.out.s HB0.out).mono ?_); rintro e1 w3 ⟨rfl, hi, hb, hk⟩; have HI3 := As.mk (HI0.out.src hi hk); have HB3 := As.mk hb; have HK3 := As.mk (kp_src (Kept.refl w (fun k => k = g ∨ k = gs)) hk); clear hi hb hk; rw [HT.out])
    | ((with_reducible refine gate_dst (N := 5) rfl ?_); refine box_event ?hgg3 (N := 5) ?hdg3 (cs := #[.int .i64 0, .string (⟨#[]⟩ : ByteArray), .int .i64 0, .int .i64 0]) (t := 67) ?hrg3 ?_; (case hdg3 => rfl); (case hgg3 => rfl); (case hrg3 => first | (go_simp; done) | (go_simp; rfl)); intro g3 hg5 w4 hbx5 hbl5; have HI4 := As.mk (HI3.out.below hbl5); have HB4 := As.mk (bwS HB3.out hbl5); have HK4 := As.mk (kp_below HK3.out hbl5); have Y4 := As.mk hbx5; have HG3 := As.mk (show g3 ≠ g ∧ g3 ≠ gs ∧ w.heap.size ≤ g3 from ⟨by rw [hg5]; exact Nat.ne_of_gt HI3.out.lt, by rw [hg5]; exact Nat.ne_of_gt HI3.out.s.lt, by rw [hg5]; exact HK3.out.1⟩); clear hbx5 hbl5 hg5)
    | ((with_reducible refine gaS (t := 67) (p := 5) (v := .tmp 16) rfl ?_); refine row_event rfl 67 (.tmp 5) (.tmp 16) rfl g3 #[.int .i64 t.f0, .string t.f1, .int .i64 t.f2, .int .i64 t.f3] rfl rfl 67 _ Y4.out (by kernel_rfl) rfl (by simp [Value.oneCell']) rfl ?_; intro w5 hbut hb5; have HI5 := As.mk (HI4.out.but hbut (Ne.symm HG3.out.1) (Ne.symm HG3.out.2.1)); have HB5 := As.mk (hbut.below HB4.out (Nat.le_trans HLe.out HG3.out.2.2)); have HK5 := As.mk (kp_but HK4.out hbut HG3.out.2.2); have hk0 : w5.cell? ⟨g3, 0, none⟩ = some (.int .i64 t.f0) := (blk_cell hb5 0).trans rfl; have hk1 : w5.cell? ⟨g3, 1, none⟩ = some (.string t.f1) := (blk_cell hb5 1).trans rfl; have hk2 : w5.cell? ⟨g3, 2, none⟩ = some (.int .i64 t.f2) := (blk_cell hb5 2).trans rfl; have Y5 := As.mk hb5; have hp5 : w5.cell? ⟨g, 0, none⟩ = some (.pointer (some ⟨gs, 0, none⟩)) := (blk_cell HI5.out.p 0).trans rfl; clear hb5 hbut)
    | (go_at_call 41; (with_reducible refine (wrong_calls g gs (nextT l) e 2 w0 _ HI5.out HB5.out).mono ?_); rintro e1 w9 ⟨rfl, hi, hb, hk⟩; have HI9 := As.mk hi; have HB9 := As.mk hb; have HK9 := As.mk (kp_then HK5.out hk); clear hi hb hk))
  go_ret
  exact ⟨_, rfl, Kd.R_nil _ _ _ _ _, HI9.out, HB9.out, HK9.out⟩

theorem one_deep (g gs : Nat) (l : List S67) (e depth : Int) (hd : 140 < depth) (w0 w : World) (hI : Pst w0 w g gs l e) (hB : Below w0.heap.size w0 w) :
    Calls Tryd.prog 42 #[.pointer (some ⟨g, 0, none⟩), .int .i64 depth] w (PPost w0 w g gs [] l (wr e 5)) := by
  have HI0 := As.mk hI
  have HB0 := As.mk hB
  have hdp : decide (140 < depth) = true := decide_eq_true hd
  clear hI hB
  go_enter Tryd.func42, Tryd.ntmps42
  go_wp2_with (go_at_call 41; (with_reducible refine (wrong_calls g gs l e 5 w0 _ HI0.out HB0.out).mono ?_); rintro e1 w9 ⟨rfl, hi, hb, hk⟩; have HI9 := As.mk hi; have HB9 := As.mk hb; have HK9 := As.mk hk; clear hi hb hk)
  go_ret
  exact ⟨_, rfl, Kd.R_nil _ _ _ _ _, HI9.out, HB9.out, HK9.out⟩

theorem one_calls (k : Nat) (hk : k ≤ 100000) (H1 : LevelC k) (H2 : MinusC k) : OneC (k + 1) := by
  intro w0 w g gs l e depth r hI hB hd0 _ h
  simp only [oneF] at h
  by_cases hd : 140 < depth
  · rw [if_pos hd] at h
    obtain rfl := Option.some.inj h
    exact one_deep g gs l e depth hd w0 w hI hB
  have hd1 : depth ≤ 140 := by omega
  rw [if_neg hd] at h
  by_cases h3 : (peekT l).f0 = 3
  · rw [if_pos h3] at h
    obtain rfl := Option.some.inj h
    exact one_num g gs l e depth hd0 hd1 _ rfl h3 w0 w hI hB
  rw [if_neg h3] at h
  by_cases h4 : (peekT l).f0 = 4
  · rw [if_pos h4] at h
    obtain rfl := Option.some.inj h
    exact one_str g gs l e depth hd0 hd1 _ rfl h4 w0 w hI hB
  rw [if_neg h4] at h
  by_cases h2 : (peekT l).f0 = 2
  · rw [if_pos h2] at h
    by_cases ha : (peekT l).f1 = ⟨#[116, 114, 117, 101]⟩
    · rw [if_pos ha] at h
      obtain rfl := Option.some.inj h
      exact one_tru g gs l e depth hd0 hd1 _ rfl h2 ha w0 w hI hB
    rw [if_neg ha] at h
    by_cases hb : (peekT l).f1 = ⟨#[102, 97, 108, 115, 101]⟩
    · rw [if_pos hb] at h
      obtain rfl := Option.some.inj h
      exact one_fal g gs l e depth hd0 hd1 _ rfl h2 hb w0 w hI hB
    rw [if_neg hb] at h
    by_cases hc : (peekT l).f1 = ⟨#[110, 111, 116]⟩
    · rw [if_pos hc] at h
      obtain ⟨r1, hr1, h⟩ := Option.bind_eq_some_iff.mp h
      obtain rfl := Option.some.inj h
      exact one_not k hk H1 r1 g gs l e depth hd0 hd1 _ rfl h2 hc hr1 w0 w hI hB
    rw [if_neg hc] at h
    obtain rfl := Option.some.inj h
    exact one_word g gs l e depth hd0 hd1 _ rfl h2 ha hb hc w0 w hI hB
  rw [if_neg h2] at h
  by_cases h5 : (peekT l).f0 = 5
  · rw [if_pos h5] at h
    by_cases ha : (peekT l).f1 = ⟨#[45]⟩
    · rw [if_pos ha] at h
      exact one_minus k H2 r g gs l e depth hd0 hd1 _ rfl h5 ha h w0 w hI hB
    rw [if_neg ha] at h
    by_cases hb : (peekT l).f1 = ⟨#[40]⟩
    · rw [if_pos hb] at h
      obtain ⟨r1, hr1, h⟩ := Option.bind_eq_some_iff.mp h
      by_cases hq : isB r1.2.1 5 ⟨#[41]⟩ = true
      · rw [if_pos hq] at h
        obtain rfl := Option.some.inj h
        exact one_par_yes k hk H1 r1 g gs l e depth hd0 hd1 _ rfl h5 hb hr1 hq w0 w hI hB
      · rw [if_neg hq] at h
        obtain rfl := Option.some.inj h
        exact one_par_no k hk H1 r1 g gs l e depth hd0 hd1 _ rfl h5 hb hr1 (by simpa using hq) w0 w hI hB
    rw [if_neg hb] at h
    obtain rfl := Option.some.inj h
    exact one_sign g gs l e depth hd0 hd1 _ rfl h5 ha hb w0 w hI hB
  rw [if_neg h5] at h
  by_cases h1 : (peekT l).f0 = 1
  · rw [if_pos h1] at h
    by_cases hq : isB (nextT l) 5 ⟨#[46]⟩ = true
    · rw [if_pos hq] at h
      by_cases hu : (peekT (nextT (nextT l))).f0 = 1
      · rw [if_pos hu] at h
        obtain rfl := Option.some.inj h
        exact one_name_fld g gs l e depth hd0 hd1 _ rfl h1 hq _ rfl hu w0 w hI hB
      · rw [if_neg hu] at h
        obtain rfl := Option.some.inj h
        exact one_name_nofld g gs l e depth hd0 hd1 _ rfl h1 hq _ rfl hu w0 w hI hB
    · rw [if_neg hq] at h
      obtain rfl := Option.some.inj h
      exact one_name_no g gs l e depth hd0 hd1 _ rfl h1 (by simpa using hq) w0 w hI hB
  rw [if_neg h1] at h
  obtain rfl := Option.some.inj h
  exact one_none g gs l e depth hd0 hd1 _ rfl h3 h4 h2 h5 h1 w0 w hI hB

theorem level_deep (g gs : Nat) (l : List S67) (e least depth : Int) (hd : 140 < depth) (w0 w : World) (hI : Pst w0 w g gs l e) (hB : Below w0.heap.size w0 w) :
    Calls Tryd.prog 29 #[.pointer (some ⟨g, 0, none⟩), .int .i64 least, .int .i64 depth] w (PPost w0 w g gs [] l (wr e 5)) := by
  have HI0 := As.mk hI
  have HB0 := As.mk hB
  have hdp : decide (140 < depth) = true := decide_eq_true hd
  clear hI hB
  go_enter Tryd.func29, Tryd.ntmps29
  go_wp2_with (go_at_call 41; (with_reducible refine (wrong_calls g gs l e 5 w0 _ HI0.out HB0.out).mono ?_); rintro e1 w9 ⟨rfl, hi, hb, hk⟩; have HI9 := As.mk hi; have HB9 := As.mk hb; have HK9 := As.mk hk; clear hi hb hk)
  go_ret
  exact ⟨_, rfl, Kd.R_nil _ _ _ _ _, HI9.out, HB9.out, HK9.out⟩

set_option maxHeartbeats 8000000 in
set_option maxRecDepth 100000 in
theorem level_walk (k : Nat) (hk : k ≤ 100000) (HL : ∀ m, m < k → LevelC m) (H1 : OneC k) (g gs : Nat) (l : List S67) (e least depth : Int) (r0 r : List S53 × List S67 × Int) (hd0 : 0 ≤ depth) (hd1 : depth ≤ 140) (h0 : oneF k depth l e = some r0) (h : loopF k least depth r0.1 r0.2.1 r0.2.2 = some r) (w0 w : World) (hI : Pst w0 w g gs l e) (hB : Below w0.heap.size w0 w) :
    Calls Tryd.prog 29 #[.pointer (some ⟨g, 0, none⟩), .int .i64 least, .int .i64 depth] w (PPost w0 w g gs r.1 r.2.1 r.2.2) := by
  have HI0 := As.mk hI
  have HB0 := As.mk hB
  have HLe := As.mk hB.size
  have HLL := As.mk HL
  have HO := As.mk (fun (w1 : World) (i1 : Pst w0 w1 g gs l e) (b1 : Below w0.heap.size w0 w1) => H1 w0 w1 g gs l e depth r0 i1 b1 hd0 (by omega) h0)
  have H := As.mk h
  have HN0 := As.mk (show r0.1.length ≤ 200000 from by have := (len_all k).2.2.1 _ _ _ _ h0; omega)
  have HK00 := As.mk hk
  have hdp : decide (140 < depth) = false := decide_eq_false (by omega)
  clear hI hB HL H1 h0 h hk
  go_enter Tryd.func29, Tryd.ntmps29
  go_wp2_with (go_at_call 42; (with_reducible refine (HO.out _ HI0.out HB0.out).mono ?_); rintro e1 w2 ⟨v2, rfl, hr, hi, hb, hkk⟩; have HR2 := As.mk hr; have HI2 := As.mk hi; have HB2 := As.mk hb; have HK2 := As.mk hkk; clear hr hi hb hkk)
  go_loopg [7] k (fun kq v7 w' => ∃ (a : List S53) (l : List S67) (e : Int), As (loopF kq least depth a l e = some r) ∧ As (kq ≤ k) ∧ As (Kd.R k53 53 w' w.heap.size (fun _ => True) v7 a) ∧ As (Pst w0 w' g gs l e) ∧ As (KP w w' g gs) ∧ As (Below w0.heap.size w0 w') ∧ As (a.length ≤ 200000))
  case atStart => exact ⟨r0.1, r0.2.1, r0.2.2, H, ⟨Nat.le_refl _⟩, HR2, HI2, HK2, HB2, HN0⟩
  case round =>
    clear HI2 HR2 HB2 HK2 HN0 H HO
    obtain ⟨a, l2, e2, HA, HKq, HR, HI, HK, HB, HN⟩ := hrel
    obtain ⟨A, c, rfl⟩ := Kd.R_slice HR.out
    cases gk with
    | zero => exact absurd HA.out (by simp [loopF])
    | succ k1 =>
      have hp0 := (blk_cell HI.out.p 0).trans (show _ = some (.pointer (some ⟨gs, 0, none⟩)) from rfl)
      have hp1 := (blk_cell HI.out.p 1).trans (show _ = some (.int .i64 e2) from rfl)
      have h := HA.out
      clear HA
      simp only [loopF] at h
      by_cases he : e2 = 0
      · rw [if_pos he] at h
        have hez : (e2 == 0) = true := by simp [he]
        clear he
        have hbr := bin_range (peekT l2)
        obtain ⟨t, ht⟩ : ∃ t, peekT l2 = t := ⟨_, rfl⟩
        rw [ht] at h hbr
        have HT := As.mk ht
        clear ht
        obtain ⟨op, hop⟩ : ∃ op, (binF t).1 = op := ⟨_, rfl⟩
        obtain ⟨st, hst⟩ : ∃ st, (binF t).2 = st := ⟨_, rfl⟩
        rw [hop, hst] at h hbr
        have HOP := As.mk hop
        have HST := As.mk hst
        clear hop hst
        obtain ⟨o0, o1, s0, s1, HBR⟩ := hbr
        replace HBR := As.mk HBR
        by_cases ho : op = 0
        · rw [if_pos ho] at h
          have hoz : (op == 0) = true := by simp [ho]
          clear ho
          obtain rfl := Option.some.inj h
          clear h
          go_wp2_with (first
              | (go_at_call 44; (with_reducible refine (peek_calls gs l2 w0 _ HI.out.s HB.out).mono ?_); rintro e1 w3 ⟨rfl, hb⟩; have HI3 := As.mk (HI.out.below hb); have HB3 := As.mk (bwS HB.out hb); have HK3 := As.mk (kp_below HK.out hb); have HR3 := As.mk (Kd.R_below HR.out hb); clear hb; rw [HT.out])
              | (go_at_call 43; (with_reducible refine (bin_calls t _).mono ?_); rintro e1 w4 ⟨rfl, hb⟩; have HI4 := As.mk (HI3.out.below hb); have HB4 := As.mk (bwS HB3.out hb); have HK4 := As.mk (kp_below HK3.out hb); have HR4 := As.mk (Kd.R_below HR3.out hb); have hp4 := (blk_cell HI4.out.p 0).trans (show _ = some (.pointer (some ⟨gs, 0, none⟩)) from rfl); clear hb; rw [HOP.out, HST.out]))
          go_ret
          exact ⟨_, rfl, HR4.out, HI4.out, HB4.out, HK4.out⟩
        · rw [if_neg ho] at h
          have hoz : (op == 0) = false := by simp [ho]
          clear ho
          by_cases hs : st < least
          · rw [if_pos hs] at h
            have hsz : decide (st < least) = true := decide_eq_true hs
            clear hs
            obtain rfl := Option.some.inj h
            clear h
            go_wp2_with (first
              | (go_at_call 44; (with_reducible refine (peek_calls gs l2 w0 _ HI.out.s HB.out).mono ?_); rintro e1 w3 ⟨rfl, hb⟩; have HI3 := As.mk (HI.out.below hb); have HB3 := As.mk (bwS HB.out hb); have HK3 := As.mk (kp_below HK.out hb); have HR3 := As.mk (Kd.R_below HR.out hb); clear hb; rw [HT.out])
              | (go_at_call 43; (with_reducible refine (bin_calls t _).mono ?_); rintro e1 w4 ⟨rfl, hb⟩; have HI4 := As.mk (HI3.out.below hb); have HB4 := As.mk (bwS HB3.out hb); have HK4 := As.mk (kp_below HK3.out hb); have HR4 := As.mk (Kd.R_below HR3.out hb); have hp4 := (blk_cell HI4.out.p 0).trans (show _ = some (.pointer (some ⟨gs, 0, none⟩)) from rfl); clear hb; rw [HOP.out, HST.out]))
            go_ret
            exact ⟨_, rfl, HR4.out, HI4.out, HB4.out, HK4.out⟩
          · rw [if_neg hs] at h
            have hsz : decide (st < least) = false := decide_eq_false hs
            clear hs
            obtain ⟨r1, hr1, h⟩ := Option.bind_eq_some_iff.mp h
            have HO := As.mk (fun (w1 : World) (i1 : Pst w0 w1 g gs (nextT l2) e2) (b1 : Below w0.heap.size w0 w1) => HLL.out k1 (by have := HKq.out; omega) w0 w1 g gs (nextT l2) e2 (st + 1) (depth + 1) r1 i1 b1 (by omega) (by omega) hr1)
            have hlen : r1.1.length ≤ 64 + k1 := (len_all k1).1 _ _ _ _ _ hr1
            clear hr1
            have HBo := As.mk (both_f a r1.1 op (by have := HN.out; have := HKq.out; have := HK00.out; omega))
            have HN2 := As.mk (show (a ++ r1.1 ++ [opNode op]).length ≤ 64 → (a ++ r1.1 ++ [opNode op]).length ≤ 200000 from fun h => by omega)
            clear hlen
            obtain ⟨a2, ha2⟩ : ∃ a2, a ++ r1.1 ++ [opNode op] = a2 := ⟨_, rfl⟩
            rw [ha2] at h HBo HN2
            clear ha2
            by_cases h64 : 64 < a2.length
            · rw [if_pos h64] at h
              have h6 : decide (64 < (a2.length : Int)) = true := decide_eq_true (by omega)
              have h6b : decide (64 < a2.length) = true := decide_eq_true h64
              clear h64
              obtain rfl := Option.some.inj h
              clear h
              go_wp2_with (first
              | (go_at_call 44; (with_reducible refine (peek_calls gs l2 w0 _ HI.out.s HB.out).mono ?_); rintro e1 w3 ⟨rfl, hb⟩; have HI3 := As.mk (HI.out.below hb); have HB3 := As.mk (bwS HB.out hb); have HK3 := As.mk (kp_below HK.out hb); have HR3 := As.mk (Kd.R_below HR.out hb); clear hb; rw [HT.out])
              | (go_at_call 43; (with_reducible refine (bin_calls t _).mono ?_); rintro e1 w4 ⟨rfl, hb⟩; have HI4 := As.mk (HI3.out.below hb); have HB4 := As.mk (bwS HB3.out hb); have HK4 := As.mk (kp_below HK3.out hb); have HR4 := As.mk (Kd.R_below HR3.out hb); have hp4 := (blk_cell HI4.out.p 0).trans (show _ = some (.pointer (some ⟨gs, 0, none⟩)) from rfl); clear hb; rw [HOP.out, HST.out])
              | (go_at_call 45; (with_reducible refine (next_calls gs l2 w0 _ HI4.out.s HB4.out).mono ?_); rintro e1 w5 ⟨rfl, hi, hb, hkk⟩; have HI5 := As.mk (HI4.out.src hi hkk); have HB5 := As.mk hb; have HK5 := As.mk (kp_src HK4.out hkk); have HR5 := As.mk (row_src HR4.out HI4.out.s hkk); clear hi hb hkk)
              | (go_at_call 29; (with_reducible refine (HO.out _ HI5.out HB5.out).mono ?_); rintro e1 w6 ⟨v6, rfl, hr, hi, hb, hkk⟩; have HR6 := As.mk (row_par HR5.out HI5.out hkk); have HQ6 := As.mk hr; have HI6 := As.mk hi; have HB6 := As.mk hb; have HK6 := As.mk (kp_then HK5.out hkk); clear hr hi hb hkk; obtain ⟨A6, c6, e6⟩ := Kd.R_slice HQ6.out; subst e6)
              | (go_at_call 46; (with_reducible refine (ppred_both.calls A c a A6 c6 r1.1 op a2 _ ?sd1 ?sd2 ?sd3 ?sd4 HBo.out).mono ?_); (case sd1 => exact (Kd.R_reads' HR6.out).2.2); (case sd2 => exact (Kd.R_reads' HR6.out).2.1); (case sd3 => exact (Kd.R_reads' HQ6.out).2.2); (case sd4 => exact (Kd.R_reads' HQ6.out).2.1); rintro e1 w7 ⟨v7, rfl, hr, hb⟩; have HR7 := As.mk (Kd.R_lower hr HK6.out.1); have HI7 := As.mk (HI6.out.below hb); have HB7 := As.mk (bwS HB6.out hb); have HK7 := As.mk (kp_below HK6.out hb); have hp7 := (blk_cell HI7.out.p 0).trans (show _ = some (.pointer (some ⟨gs, 0, none⟩)) from rfl); clear hr hb; obtain ⟨A7, c7, e7⟩ := Kd.R_slice HR7.out; subst e7)
              | (go_at_call 41; (with_reducible refine (wrong_calls g gs r1.2.1 r1.2.2 5 w0 _ HI7.out HB7.out).mono ?_); rintro e1 w9 ⟨rfl, hi, hb, hkk⟩; have HI9 := As.mk hi; have HB9 := As.mk hb; have HK9 := As.mk (kp_then HK7.out hkk); clear hi hb hkk))
              go_ret
              exact ⟨_, rfl, Kd.R_nil _ _ _ _ _, HI9.out, HB9.out, HK9.out⟩
            · rw [if_neg h64] at h
              have h6 : decide (64 < (a2.length : Int)) = false := decide_eq_false (by omega)
              have h6b : decide (64 < a2.length) = false := decide_eq_false h64
              have HN3 := As.mk (HN2.out (by omega))
              clear h64
              by_cases h4 : st = 4
              · have h4z : (st == 4) = true := by simp [h4]
                by_cases hq : (binF (peekT r1.2.1)).2 = 4
                · rw [if_pos ⟨h4, hq⟩] at h
                  have hqo := (bin_range (peekT r1.2.1)).2.2.2.2 hq
                  obtain ⟨op2, hop2⟩ : ∃ x, (binF (peekT r1.2.1)).1 = x := ⟨_, rfl⟩
                  obtain ⟨st2, hst2⟩ : ∃ x, (binF (peekT r1.2.1)).2 = x := ⟨_, rfl⟩
                  rw [hst2] at hq
                  rw [hop2] at hqo
                  have HOP2 := As.mk hop2
                  have HST2 := As.mk hst2
                  have ho2 : (op2 != 0) = true := by simp [hqo]
                  have hs2 : (st2 == 4) = true := by simp [hq]
                  clear hop2 hst2 hq hqo h4
                  obtain rfl := Option.some.inj h
                  clear h
                  go_wp2_with (first
              | (go_at_call 44; (with_reducible refine (peek_calls gs l2 w0 _ HI.out.s HB.out).mono ?_); rintro e1 w3 ⟨rfl, hb⟩; have HI3 := As.mk (HI.out.below hb); have HB3 := As.mk (bwS HB.out hb); have HK3 := As.mk (kp_below HK.out hb); have HR3 := As.mk (Kd.R_below HR.out hb); clear hb; rw [HT.out])
              | (go_at_call 43; (with_reducible refine (bin_calls t _).mono ?_); rintro e1 w4 ⟨rfl, hb⟩; have HI4 := As.mk (HI3.out.below hb); have HB4 := As.mk (bwS HB3.out hb); have HK4 := As.mk (kp_below HK3.out hb); have HR4 := As.mk (Kd.R_below HR3.out hb); have hp4 := (blk_cell HI4.out.p 0).trans (show _ = some (.pointer (some ⟨gs, 0, none⟩)) from rfl); clear hb; rw [HOP.out, HST.out])
              | (go_at_call 45; (with_reducible refine (next_calls gs l2 w0 _ HI4.out.s HB4.out).mono ?_); rintro e1 w5 ⟨rfl, hi, hb, hkk⟩; have HI5 := As.mk (HI4.out.src hi hkk); have HB5 := As.mk hb; have HK5 := As.mk (kp_src HK4.out hkk); have HR5 := As.mk (row_src HR4.out HI4.out.s hkk); clear hi hb hkk)
              | (go_at_call 29; (with_reducible refine (HO.out _ HI5.out HB5.out).mono ?_); rintro e1 w6 ⟨v6, rfl, hr, hi, hb, hkk⟩; have HR6 := As.mk (row_par HR5.out HI5.out hkk); have HQ6 := As.mk hr; have HI6 := As.mk hi; have HB6 := As.mk hb; have HK6 := As.mk (kp_then HK5.out hkk); clear hr hi hb hkk; obtain ⟨A6, c6, e6⟩ := Kd.R_slice HQ6.out; subst e6)
              | (go_at_call 46; (with_reducible refine (ppred_both.calls A c a A6 c6 r1.1 op a2 _ ?sd1 ?sd2 ?sd3 ?sd4 HBo.out).mono ?_); (case sd1 => exact (Kd.R_reads' HR6.out).2.2); (case sd2 => exact (Kd.R_reads' HR6.out).2.1); (case sd3 => exact (Kd.R_reads' HQ6.out).2.2); (case sd4 => exact (Kd.R_reads' HQ6.out).2.1); rintro e1 w7 ⟨v7, rfl, hr, hb⟩; have HR7 := As.mk (Kd.R_lower hr HK6.out.1); have HI7 := As.mk (HI6.out.below hb); have HB7 := As.mk (bwS HB6.out hb); have HK7 := As.mk (kp_below HK6.out hb); have hp7 := (blk_cell HI7.out.p 0).trans (show _ = some (.pointer (some ⟨gs, 0, none⟩)) from rfl); clear hr hb; obtain ⟨A7, c7, e7⟩ := Kd.R_slice HR7.out; subst e7)
              | (go_at_call 44; (with_reducible refine (peek_calls gs r1.2.1 w0 _ HI7.out.s HB7.out).mono ?_); rintro e1 w10 ⟨rfl, hb⟩; have HI10 := As.mk (HI7.out.below hb); have HB10 := As.mk (bwS HB7.out hb); have HK10 := As.mk (kp_below HK7.out hb); have HR10 := As.mk (Kd.R_below HR7.out hb); clear hb)
              | (go_at_call 43; (with_reducible refine (bin_calls (peekT r1.2.1) _).mono ?_); rintro e1 w11 ⟨rfl, hb⟩; have HI11 := As.mk (HI10.out.below hb); have HB11 := As.mk (bwS HB10.out hb); have HK11 := As.mk (kp_below HK10.out hb); have HR11 := As.mk (Kd.R_below HR10.out hb); clear hb; rw [HOP2.out, HST2.out])
              | (go_at_call 41; (with_reducible refine (wrong_calls g gs r1.2.1 r1.2.2 2 w0 _ HI11.out HB11.out).mono ?_); rintro e1 w9 ⟨rfl, hi, hb, hkk⟩; have HI9 := As.mk hi; have HB9 := As.mk hb; have HK9 := As.mk (kp_then HK11.out hkk); clear hi hb hkk))
                  go_ret
                  exact ⟨_, rfl, Kd.R_nil _ _ _ _ _, HI9.out, HB9.out, HK9.out⟩
                · rw [if_neg (fun hx => hq hx.2)] at h
                  obtain ⟨op2, hop2⟩ : ∃ x, (binF (peekT r1.2.1)).1 = x := ⟨_, rfl⟩
                  obtain ⟨st2, hst2⟩ : ∃ x, (binF (peekT r1.2.1)).2 = x := ⟨_, rfl⟩
                  rw [hst2] at hq
                  have HOP2 := As.mk hop2
                  have HST2 := As.mk hst2
                  have hs2 : (st2 == 4) = false := by simp [hq]
                  clear hop2 hst2 hq h4
                  have H' := As.mk h
                  clear h
                  by_cases ho2 : op2 = 0
                  · have ho2z : (op2 != 0) = false := by simp [ho2]
                    clear ho2
                    go_wp2_with (first
              | (go_at_call 44; (with_reducible refine (peek_calls gs l2 w0 _ HI.out.s HB.out).mono ?_); rintro e1 w3 ⟨rfl, hb⟩; have HI3 := As.mk (HI.out.below hb); have HB3 := As.mk (bwS HB.out hb); have HK3 := As.mk (kp_below HK.out hb); have HR3 := As.mk (Kd.R_below HR.out hb); clear hb; rw [HT.out])
              | (go_at_call 43; (with_reducible refine (bin_calls t _).mono ?_); rintro e1 w4 ⟨rfl, hb⟩; have HI4 := As.mk (HI3.out.below hb); have HB4 := As.mk (bwS HB3.out hb); have HK4 := As.mk (kp_below HK3.out hb); have HR4 := As.mk (Kd.R_below HR3.out hb); have hp4 := (blk_cell HI4.out.p 0).trans (show _ = some (.pointer (some ⟨gs, 0, none⟩)) from rfl); clear hb; rw [HOP.out, HST.out])
              | (go_at_call 45; (with_reducible refine (next_calls gs l2 w0 _ HI4.out.s HB4.out).mono ?_); rintro e1 w5 ⟨rfl, hi, hb, hkk⟩; have HI5 := As.mk (HI4.out.src hi hkk); have HB5 := As.mk hb; have HK5 := As.mk (kp_src HK4.out hkk); have HR5 := As.mk (row_src HR4.out HI4.out.s hkk); clear hi hb hkk)
              | (go_at_call 29; (with_reducible refine (HO.out _ HI5.out HB5.out).mono ?_); rintro e1 w6 ⟨v6, rfl, hr, hi, hb, hkk⟩; have HR6 := As.mk (row_par HR5.out HI5.out hkk); have HQ6 := As.mk hr; have HI6 := As.mk hi; have HB6 := As.mk hb; have HK6 := As.mk (kp_then HK5.out hkk); clear hr hi hb hkk; obtain ⟨A6, c6, e6⟩ := Kd.R_slice HQ6.out; subst e6)
              | (go_at_call 46; (with_reducible refine (ppred_both.calls A c a A6 c6 r1.1 op a2 _ ?sd1 ?sd2 ?sd3 ?sd4 HBo.out).mono ?_); (case sd1 => exact (Kd.R_reads' HR6.out).2.2); (case sd2 => exact (Kd.R_reads' HR6.out).2.1); (case sd3 => exact (Kd.R_reads' HQ6.out).2.2); (case sd4 => exact (Kd.R_reads' HQ6.out).2.1); rintro e1 w7 ⟨v7, rfl, hr, hb⟩; have HR7 := As.mk (Kd.R_lower hr HK6.out.1); have HI7 := As.mk (HI6.out.below hb); have HB7 := As.mk (bwS HB6.out hb); have HK7 := As.mk (kp_below HK6.out hb); have hp7 := (blk_cell HI7.out.p 0).trans (show _ = some (.pointer (some ⟨gs, 0, none⟩)) from rfl); clear hr hb; obtain ⟨A7, c7, e7⟩ := Kd.R_slice HR7.out; subst e7)
              | (go_at_call 44; (with_reducible refine (peek_calls gs r1.2.1 w0 _ HI7.out.s HB7.out).mono ?_); rintro e1 w10 ⟨rfl, hb⟩; have HI10 := As.mk (HI7.out.below hb); have HB10 := As.mk (bwS HB7.out hb); have HK10 := As.mk (kp_below HK7.out hb); have HR10 := As.mk (Kd.R_below HR7.out hb); clear hb)
              | (go_at_call 43; (with_reducible refine (bin_calls (peekT r1.2.1) _).mono ?_); rintro e1 w11 ⟨rfl, hb⟩; have HI11 := As.mk (HI10.out.below hb); have HB11 := As.mk (bwS HB10.out hb); have HK11 := As.mk (kp_below HK10.out hb); have HR11 := As.mk (Kd.R_below HR10.out hb); clear hb; rw [HOP2.out, HST2.out]))
                    go_roundg k1
                    case measure => have := HKq.out; omega
                    case rel => exact ⟨a2, r1.2.1, r1.2.2, H', ⟨by have := HKq.out; omega⟩, HR11, HI11, HK11, HB11, HN3⟩
                  · have ho2z : (op2 != 0) = true := by simp [ho2]
                    clear ho2
                    go_wp2_with (first
              | (go_at_call 44; (with_reducible refine (peek_calls gs l2 w0 _ HI.out.s HB.out).mono ?_); rintro e1 w3 ⟨rfl, hb⟩; have HI3 := As.mk (HI.out.below hb); have HB3 := As.mk (bwS HB.out hb); have HK3 := As.mk (kp_below HK.out hb); have HR3 := As.mk (Kd.R_below HR.out hb); clear hb; rw [HT.out])
              | (go_at_call 43; (with_reducible refine (bin_calls t _).mono ?_); rintro e1 w4 ⟨rfl, hb⟩; have HI4 := As.mk (HI3.out.below hb); have HB4 := As.mk (bwS HB3.out hb); have HK4 := As.mk (kp_below HK3.out hb); have HR4 := As.mk (Kd.R_below HR3.out hb); have hp4 := (blk_cell HI4.out.p 0).trans (show _ = some (.pointer (some ⟨gs, 0, none⟩)) from rfl); clear hb; rw [HOP.out, HST.out])
              | (go_at_call 45; (with_reducible refine (next_calls gs l2 w0 _ HI4.out.s HB4.out).mono ?_); rintro e1 w5 ⟨rfl, hi, hb, hkk⟩; have HI5 := As.mk (HI4.out.src hi hkk); have HB5 := As.mk hb; have HK5 := As.mk (kp_src HK4.out hkk); have HR5 := As.mk (row_src HR4.out HI4.out.s hkk); clear hi hb hkk)
              | (go_at_call 29; (with_reducible refine (HO.out _ HI5.out HB5.out).mono ?_); rintro e1 w6 ⟨v6, rfl, hr, hi, hb, hkk⟩; have HR6 := As.mk (row_par HR5.out HI5.out hkk); have HQ6 := As.mk hr; have HI6 := As.mk hi; have HB6 := As.mk hb; have HK6 := As.mk (kp_then HK5.out hkk); clear hr hi hb hkk; obtain ⟨A6, c6, e6⟩ := Kd.R_slice HQ6.out; subst e6)
              | (go_at_call 46; (with_reducible refine (ppred_both.calls A c a A6 c6 r1.1 op a2 _ ?sd1 ?sd2 ?sd3 ?sd4 HBo.out).mono ?_); (case sd1 => exact (Kd.R_reads' HR6.out).2.2); (case sd2 => exact (Kd.R_reads' HR6.out).2.1); (case sd3 => exact (Kd.R_reads' HQ6.out).2.2); (case sd4 => exact (Kd.R_reads' HQ6.out).2.1); rintro e1 w7 ⟨v7, rfl, hr, hb⟩; have HR7 := As.mk (Kd.R_lower hr HK6.out.1); have HI7 := As.mk (HI6.out.below hb); have HB7 := As.mk (bwS HB6.out hb); have HK7 := As.mk (kp_below HK6.out hb); have hp7 := (blk_cell HI7.out.p 0).trans (show _ = some (.pointer (some ⟨gs, 0, none⟩)) from rfl); clear hr hb; obtain ⟨A7, c7, e7⟩ := Kd.R_slice HR7.out; subst e7)
              | (go_at_call 44; (with_reducible refine (peek_calls gs r1.2.1 w0 _ HI7.out.s HB7.out).mono ?_); rintro e1 w10 ⟨rfl, hb⟩; have HI10 := As.mk (HI7.out.below hb); have HB10 := As.mk (bwS HB7.out hb); have HK10 := As.mk (kp_below HK7.out hb); have HR10 := As.mk (Kd.R_below HR7.out hb); clear hb)
              | (go_at_call 43; (with_reducible refine (bin_calls (peekT r1.2.1) _).mono ?_); rintro e1 w11 ⟨rfl, hb⟩; have HI11 := As.mk (HI10.out.below hb); have HB11 := As.mk (bwS HB10.out hb); have HK11 := As.mk (kp_below HK10.out hb); have HR11 := As.mk (Kd.R_below HR10.out hb); clear hb; rw [HOP2.out, HST2.out]))
                    go_roundg k1
                    case measure => have := HKq.out; omega
                    case rel => exact ⟨a2, r1.2.1, r1.2.2, H', ⟨by have := HKq.out; omega⟩, HR11, HI11, HK11, HB11, HN3⟩
              · have h4z : (st == 4) = false := by simp [h4]
                rw [if_neg (fun hx => h4 hx.1)] at h
                have H' := As.mk h
                clear h h4
                go_wp2_with (first
              | (go_at_call 44; (with_reducible refine (peek_calls gs l2 w0 _ HI.out.s HB.out).mono ?_); rintro e1 w3 ⟨rfl, hb⟩; have HI3 := As.mk (HI.out.below hb); have HB3 := As.mk (bwS HB.out hb); have HK3 := As.mk (kp_below HK.out hb); have HR3 := As.mk (Kd.R_below HR.out hb); clear hb; rw [HT.out])
              | (go_at_call 43; (with_reducible refine (bin_calls t _).mono ?_); rintro e1 w4 ⟨rfl, hb⟩; have HI4 := As.mk (HI3.out.below hb); have HB4 := As.mk (bwS HB3.out hb); have HK4 := As.mk (kp_below HK3.out hb); have HR4 := As.mk (Kd.R_below HR3.out hb); have hp4 := (blk_cell HI4.out.p 0).trans (show _ = some (.pointer (some ⟨gs, 0, none⟩)) from rfl); clear hb; rw [HOP.out, HST.out])
              | (go_at_call 45; (with_reducible refine (next_calls gs l2 w0 _ HI4.out.s HB4.out).mono ?_); rintro e1 w5 ⟨rfl, hi, hb, hkk⟩; have HI5 := As.mk (HI4.out.src hi hkk); have HB5 := As.mk hb; have HK5 := As.mk (kp_src HK4.out hkk); have HR5 := As.mk (row_src HR4.out HI4.out.s hkk); clear hi hb hkk)
              | (go_at_call 29; (with_reducible refine (HO.out _ HI5.out HB5.out).mono ?_); rintro e1 w6 ⟨v6, rfl, hr, hi, hb, hkk⟩; have HR6 := As.mk (row_par HR5.out HI5.out hkk); have HQ6 := As.mk hr; have HI6 := As.mk hi; have HB6 := As.mk hb; have HK6 := As.mk (kp_then HK5.out hkk); clear hr hi hb hkk; obtain ⟨A6, c6, e6⟩ := Kd.R_slice HQ6.out; subst e6)
              | (go_at_call 46; (with_reducible refine (ppred_both.calls A c a A6 c6 r1.1 op a2 _ ?sd1 ?sd2 ?sd3 ?sd4 HBo.out).mono ?_); (case sd1 => exact (Kd.R_reads' HR6.out).2.2); (case sd2 => exact (Kd.R_reads' HR6.out).2.1); (case sd3 => exact (Kd.R_reads' HQ6.out).2.2); (case sd4 => exact (Kd.R_reads' HQ6.out).2.1); rintro e1 w7 ⟨v7, rfl, hr, hb⟩; have HR7 := As.mk (Kd.R_lower hr HK6.out.1); have HI7 := As.mk (HI6.out.below hb); have HB7 := As.mk (bwS HB6.out hb); have HK7 := As.mk (kp_below HK6.out hb); have hp7 := (blk_cell HI7.out.p 0).trans (show _ = some (.pointer (some ⟨gs, 0, none⟩)) from rfl); clear hr hb; obtain ⟨A7, c7, e7⟩ := Kd.R_slice HR7.out; subst e7))
                go_roundg k1
                case measure => have := HKq.out; omega
                case rel => exact ⟨a2, r1.2.1, r1.2.2, H', ⟨by have := HKq.out; omega⟩, HR7, HI7, HK7, HB7, HN3⟩
      · rw [if_neg he] at h
        have hez : (e2 == 0) = false := by simp [he]
        clear he
        obtain rfl := Option.some.inj h
        clear h
        go_wp2_with fail
        go_ret
        exact ⟨_, rfl, HR.out, HI.out, HB.out, HK.out⟩

theorem level_calls (k : Nat) (hk : k ≤ 100000) (HL : ∀ m, m < k → LevelC m) (H1 : OneC k) : LevelC (k + 1) := by
  intro w0 w g gs l e least depth r hI hB hd0 _ h
  simp only [levelF] at h
  by_cases hd : 140 < depth
  · rw [if_pos hd] at h
    obtain rfl := Option.some.inj h
    exact level_deep g gs l e least depth hd w0 w hI hB
  · rw [if_neg hd] at h
    obtain ⟨r0, hr0, h⟩ := Option.bind_eq_some_iff.mp h
    exact level_walk k hk HL H1 g gs l e least depth r0 r hd0 (by omega) hr0 h w0 w hI hB

theorem all_calls (k : Nat) (hk : k ≤ 100000) : LevelC k ∧ OneC k ∧ MinusC k := by
  induction k using Nat.strongRecOn with
  | _ k ih =>
    cases k with
    | zero =>
      exact ⟨fun _ _ _ _ _ _ _ _ _ _ _ _ _ h => by simp [levelF] at h, fun _ _ _ _ _ _ _ _ _ _ _ _ h => by simp [oneF] at h, fun _ _ _ _ _ _ _ _ _ _ _ _ h => by simp [minusF] at h⟩
    | succ k =>
      obtain ⟨a, b, c⟩ := ih k (Nat.lt_succ_self k) (by omega)
      exact ⟨level_calls k (by omega) (fun m hm => (ih m (by omega) (by omega)).1) b, one_calls k (by omega) a c, minus_calls k (by omega) b⟩

end Go.Proofs.YtpijgeijflbmhaaDoor.P

