/- That the document's text of a tree is the text of its pieces; in plain Lean. -/
import Derived.Test.YtpijgeijflbmhaaDoorC6
import Derived.Test.YtpijgeijflbmhaaDoorC7
import Derived.Test.YtpijgeijflbmhaaDoorC1
namespace Go.Proofs.YtpijgeijflbmhaaDoor.P
open Go.RowKit Go.Proofs.YtpijgeijflbmhaaDoorW.PrintWords Go.Proofs.YtpijgeijflbmhaaDoorW.PrintLast Go.Proofs.YtpijgeijflbmhaaDoorW.PrintMore
set_option linter.unusedVariables false

theorem parts_facts : ∀ op ∈ ([1, 2, 3, 4, 5, 6, 7, 8, 9, 10, 11, 12, 13, 14, 15] : List Int), lamplighterref11_Parts.f 20 op = some (if op < 3 then 0 else if op = 3 ∨ op = 13 then 1 else 2) := by decide +kernel
theorem parts_eq (op : Int) (h : 1 ≤ op) (h2 : op ≤ 15) (k : Nat) (hk : 20 ≤ k) : lamplighterref11_Parts.f k op = some (if op < 3 then 0 else if op = 3 ∨ op = 13 then 1 else 2) :=
  up (fun k => lamplighterref11_Parts.f k op) (fun k => lamplighterref11_Parts.mono _ k) (parts_facts op (by simp only [List.mem_cons, List.not_mem_nil, or_false]; omega)) hk
def sgnA (op : Int) : Bs := if op = 3 then [45] else if op = 13 then [110, 111, 116] else sgnB op
theorem sign_facts : ∀ op ∈ ([3, 4, 5, 6, 7, 8, 9, 10, 11, 12, 13, 14, 15] : List Int), lamplighterref11_Sign.f op = some (ofL (sgnA op)) := by decide +kernel
theorem sign_eq (op : Int) (h : 3 ≤ op) (h2 : op ≤ 15) : lamplighterref11_Sign.f op = some (ofL (sgnA op)) := sign_facts op (by simp only [List.mem_cons, List.not_mem_nil, or_false]; omega)
theorem sgnA_len (op : Int) : (sgnA op).length ≤ 3 := by
  have := sgnB_len op
  unfold sgnA; split
  · simp
  · split
    · simp
    · exact this

theorem rd_at (pre post : List S53) (n : S53) : rd_T53 (pre ++ n :: post) ((pre.length : Nat) : Int) = n := by
  unfold rd_T53
  simp

theorem l40 : (⟨#[40]⟩ : ByteArray) = ofL [40] := rfl
theorem l41 : (⟨#[41]⟩ : ByteArray) = ofL [41] := rfl
theorem l32 : (⟨#[32]⟩ : ByteArray) = ofL [32] := rfl
theorem l46 : (⟨#[46]⟩ : ByteArray) = ofL [46] := rfl

theorem rdOf_at (st : List ByteArray) (a : ByteArray) (more : List ByteArray) : rdOf ByteArray.empty (st ++ a :: more) ((st.length : Nat) : Int) = a := by
  unfold rdOf; simp

section
variable (x0 pre post : List S53) (st : List ByteArray) (k : Nat)

/-- A constant. -/
theorem show_con (v : S51) (t : Bs) (hx : x0 = pre ++ (⟨1, v, ⟨#[]⟩, ⟨#[]⟩⟩ : S53) :: post) (hk : 60 ≤ k) (hl : x0.length ≤ 1000) (hst : st.length ≤ 1000)
    (hv : lamplighterref11_value.f 60 v.f0 v.f1 v.f2 v.f3 = some (ofL t)) :
    lamplighterref11_Show.l0 (k + 1) x0 st ((pre.length : Nat) : Int) = lamplighterref11_Show.l0 k x0 (st ++ [ofL t]) ((pre.length + 1 : Nat) : Int) := by
  have hL : x0.length = pre.length + post.length + 1 := by rw [hx]; simp; omega
  have hr : rd_T53 x0 ((pre.length : Nat) : Int) = ⟨1, v, ⟨#[]⟩, ⟨#[]⟩⟩ := by rw [hx]; exact rd_at _ _ _
  have hw : wrap64 (((pre.length : Nat) : Int) + 1) = ((pre.length + 1 : Nat) : Int) := by rw [w64 _ (by omega) (by omega)]; rfl
  have hK : wrap64 (((st.length : Nat) : Int) - 0) = ((st.length : Nat) : Int) := by rw [w64 _ (by omega) (by omega)]; omega
  have hp : lamplighterref11_Parts.f k 1 = some 0 := parts_eq 1 (by omega) (by omega) k (by omega)
  have hv' := up (fun k => lamplighterref11_value.f k v.f0 v.f1 v.f2 v.f3) (fun k => lamplighterref11_value.mono _ _ _ _ k) hv hk
  rw [lamplighterref11_Show.l0, if_pos (by omega), if_pos (by omega), hr]
  simp only [hp, Option.bind_some, hK, hw]
  rw [if_pos (by first | trivial | rfl), hv']
  simp only [Option.bind_some]
  rw [if_pos (by omega), if_pos (by omega), Int.toNat_natCast, List.take_length, if_pos (by simp only [List.length_nil]; omega), if_pos (by simp only [List.nil_append]; omega)]
  rfl

theorem show_fld (v f : Bs) (hx : x0 = pre ++ fldNode (ofL v) (ofL f) :: post) (hk : 60 ≤ k) (hl : x0.length ≤ 1000) (hst : st.length ≤ 1000) (hv : v.length ≤ 1000) (hf : f.length ≤ 1000) :
    lamplighterref11_Show.l0 (k + 1) x0 st ((pre.length : Nat) : Int) = lamplighterref11_Show.l0 k x0 (st ++ [ofL (v ++ [46] ++ f)]) ((pre.length + 1 : Nat) : Int) := by
  have hL : x0.length = pre.length + post.length + 1 := by rw [hx]; simp; omega
  have hr : rd_T53 x0 ((pre.length : Nat) : Int) = fldNode (ofL v) (ofL f) := by rw [hx]; exact rd_at _ _ _
  have hw : wrap64 (((pre.length : Nat) : Int) + 1) = ((pre.length + 1 : Nat) : Int) := by rw [w64 _ (by omega) (by omega)]; rfl
  have hK : wrap64 (((st.length : Nat) : Int) - 0) = ((st.length : Nat) : Int) := by rw [w64 _ (by omega) (by omega)]; omega
  have hp : lamplighterref11_Parts.f k 2 = some 0 := parts_eq 2 (by omega) (by omega) k (by omega)
  rw [lamplighterref11_Show.l0, if_pos (by omega), if_pos (by omega), hr]
  simp only [fldNode, hp, Option.bind_some, hK, hw, l46, ofL_app, ofL_size]
  rw [if_neg (by decide), if_pos (by first | trivial | rfl), if_pos (by omega), if_pos (by simp only [List.length_append, List.length_cons, List.length_nil]; omega)]
  rw [if_pos (by omega), if_pos (by omega), Int.toNat_natCast, List.take_length, if_pos (by simp only [List.length_nil]; omega), if_pos (by simp only [List.nil_append]; omega)]
  rfl

def firstDigit (t : Bs) : Bool := match t with | [] => false | x :: _ => decide (48 ≤ x.toNat ∧ x.toNat ≤ 57)

set_option maxHeartbeats 1000000 in
theorem show_un (op : Int) (t : Bs) (hop : op = 3 ∨ op = 13) (hx : x0 = pre ++ opNode op :: post) (hk : 60 ≤ k) (hl : x0.length ≤ 1000) (hst : st.length ≤ 1000) (ht : t.length ≤ 10000) (ht0 : t ≠ []) :
    lamplighterref11_Show.l0 (k + 1) x0 (st ++ [ofL t]) ((pre.length : Nat) : Int) = lamplighterref11_Show.l0 k x0 (st ++ [ofL ([40] ++ sgnA op ++ [32] ++ (if op = 3 ∧ firstDigit t = true then [40] ++ t ++ [41] else t) ++ [41])]) ((pre.length + 1 : Nat) : Int) := by
  have hL : x0.length = pre.length + post.length + 1 := by rw [hx]; simp; omega
  have hr : rd_T53 x0 ((pre.length : Nat) : Int) = opNode op := by rw [hx]; exact rd_at _ _ _
  have hw : wrap64 (((pre.length : Nat) : Int) + 1) = ((pre.length + 1 : Nat) : Int) := by rw [w64 _ (by omega) (by omega)]; rfl
  have hsl : (st ++ [ofL t]).length = st.length + 1 := by simp
  have hK : wrap64 ((((st ++ [ofL t]).length : Nat) : Int) - 1) = ((st.length : Nat) : Int) := by rw [hsl, w64 _ (by omega) (by omega)]; omega
  have hp : lamplighterref11_Parts.f k op = some 1 := by
    rw [parts_eq op (by omega) (by omega) k (by omega), if_neg (by omega), if_pos hop]
  have hs := sign_eq op (by omega) (by omega)
  have hsn := sgnA_len op
  have htk : (st ++ [ofL t]).take st.length = st := List.take_left' rfl
  have hrd := rdOf_at st (ofL t) []
  have hp' : lamplighterref11_Parts.f k (opNode op).f0 = some 1 := hp
  have hs' : lamplighterref11_Sign.f (opNode op).f0 = some (ofL (sgnA op)) := hs
  have n1 : ¬ (opNode op).f0 = 1 := by show ¬ op = 1; omega
  have n2 : ¬ (opNode op).f0 = 2 := by show ¬ op = 2; omega
  have o3 : (opNode op).f0 = op := rfl
  rw [lamplighterref11_Show.l0, if_pos (by omega), if_pos (by omega), hr, hp', Option.bind_some, if_neg n1, if_neg n2, Option.bind_some, if_pos (by rfl)]
  simp only [o3, hs, Option.bind_some, hK, hw, hrd, l40, l41, l32, ofL_app, ofL_size, Int.toNat_natCast, htk]
  cases t with
  | nil => exact absurd rfl ht0
  | cons x u =>
    have hb : bt (ofL (x :: u)) 0 = (x.toNat : Int) := bt_ofL (x :: u) 0 (by simp)
    simp only [hb]
    clear hK hw hr hp hs hp' hs' hrd htk hx n1 n2 o3 hL hl hk hb ht0
    simp only [List.length_cons] at ht
    generalize (st ++ [ofL (x :: u)]).length = Ls at hsl ⊢
    refine (if_pos (by omega)).trans ?_
    refine (if_pos (by omega)).trans ?_
    by_cases h3 : op = 3
    · subst h3
      refine (if_pos rfl).trans ?_
      refine (if_pos (by simp only [List.length_cons]; omega)).trans ?_
      by_cases h48 : 48 ≤ x.toNat
      · refine (if_pos (by omega)).trans ?_
        by_cases h57 : x.toNat ≤ 57
        · have hd : firstDigit (x :: u) = true := decide_eq_true ⟨h48, h57⟩
          refine (if_pos (by omega)).trans ?_
          refine (if_pos (by simp only [List.length_cons]; omega)).trans ?_
          refine (if_pos (by simp only [List.length_append, List.length_cons, List.length_nil]; omega)).trans ?_
          refine (if_pos (by omega)).trans ?_
          refine (if_pos (by simp only [List.length_append, List.length_cons, List.length_nil]; omega)).trans ?_
          refine (if_pos (by simp only [List.length_append, List.length_cons, List.length_nil]; omega)).trans ?_
          refine (if_pos (by simp only [List.length_append, List.length_cons, List.length_nil]; omega)).trans ?_
          refine (if_pos (by omega)).trans ?_
          refine (if_pos (by simp only [List.length_nil]; omega)).trans ?_
          refine (if_pos (by simp only [List.nil_append]; omega)).trans ?_
          rw [List.nil_append, if_pos ⟨rfl, hd⟩]
        · have hd : firstDigit (x :: u) ≠ true := fun h => by have := (of_decide_eq_true h).2; omega
          refine (if_neg (by omega)).trans ?_
          refine (if_pos (by omega)).trans ?_
          refine (if_pos (by simp only [List.length_append, List.length_cons, List.length_nil]; omega)).trans ?_
          refine (if_pos (by simp only [List.length_append, List.length_cons, List.length_nil]; omega)).trans ?_
          refine (if_pos (by simp only [List.length_append, List.length_cons, List.length_nil]; omega)).trans ?_
          refine (if_pos (by omega)).trans ?_
          refine (if_pos (by simp only [List.length_nil]; omega)).trans ?_
          refine (if_pos (by simp only [List.nil_append]; omega)).trans ?_
          rw [List.nil_append, if_neg (fun h => hd h.2)]
      · have hd : firstDigit (x :: u) ≠ true := fun h => by have := (of_decide_eq_true h).1; omega
        refine (if_neg (by omega)).trans ?_
        refine (if_pos (by omega)).trans ?_
        refine (if_pos (by simp only [List.length_append, List.length_cons, List.length_nil]; omega)).trans ?_
        refine (if_pos (by simp only [List.length_append, List.length_cons, List.length_nil]; omega)).trans ?_
        refine (if_pos (by simp only [List.length_append, List.length_cons, List.length_nil]; omega)).trans ?_
        refine (if_pos (by omega)).trans ?_
        refine (if_pos (by simp only [List.length_nil]; omega)).trans ?_
        refine (if_pos (by simp only [List.nil_append]; omega)).trans ?_
        rw [List.nil_append, if_neg (fun h => hd h.2)]
    · refine (if_neg h3).trans ?_
      refine (if_pos (by omega)).trans ?_
      refine (if_pos (by simp only [List.length_append, List.length_cons, List.length_nil]; omega)).trans ?_
      refine (if_pos (by simp only [List.length_append, List.length_cons, List.length_nil]; omega)).trans ?_
      refine (if_pos (by simp only [List.length_append, List.length_cons, List.length_nil]; omega)).trans ?_
      refine (if_pos (by omega)).trans ?_
      refine (if_pos (by simp only [List.length_nil]; omega)).trans ?_
      refine (if_pos (by simp only [List.nil_append]; omega)).trans ?_
      rw [List.nil_append, if_neg (fun h => h3 h.1)]

set_option maxHeartbeats 1000000 in
theorem show_bin (op : Int) (a b : Bs) (h1 : 4 ≤ op) (h2 : op ≤ 15) (h3 : op ≠ 13) (hx : x0 = pre ++ opNode op :: post) (hk : 60 ≤ k) (hl : x0.length ≤ 1000) (hst : st.length ≤ 1000) (ha : a.length ≤ 10000) (hb : b.length ≤ 10000) :
    lamplighterref11_Show.l0 (k + 1) x0 (st ++ [ofL a, ofL b]) ((pre.length : Nat) : Int) = lamplighterref11_Show.l0 k x0 (st ++ [ofL ([40] ++ a ++ [32] ++ sgnB op ++ [32] ++ b ++ [41])]) ((pre.length + 1 : Nat) : Int) := by
  have hL : x0.length = pre.length + post.length + 1 := by rw [hx]; simp; omega
  have hr : rd_T53 x0 ((pre.length : Nat) : Int) = opNode op := by rw [hx]; exact rd_at _ _ _
  have hw : wrap64 (((pre.length : Nat) : Int) + 1) = ((pre.length + 1 : Nat) : Int) := by rw [w64 _ (by omega) (by omega)]; rfl
  have hsl : (st ++ [ofL a, ofL b]).length = st.length + 2 := by simp
  have hK : wrap64 ((((st ++ [ofL a, ofL b]).length : Nat) : Int) - 2) = ((st.length : Nat) : Int) := by rw [hsl, w64 _ (by omega) (by omega)]; omega
  have hK2 : wrap64 (((st.length : Nat) : Int) + 1) = ((st.length + 1 : Nat) : Int) := by rw [w64 _ (by omega) (by omega)]; rfl
  have hp : lamplighterref11_Parts.f k op = some 2 := by
    rw [parts_eq op (by omega) (by omega) k (by omega), if_neg (by omega), if_neg (by omega)]
  have hA : sgnA op = sgnB op := by unfold sgnA; rw [if_neg (by omega), if_neg (by omega)]
  have hs := sign_eq op (by omega) (by omega)
  rw [hA] at hs
  have hsn := sgnB_len op
  have htk : (st ++ [ofL a, ofL b]).take st.length = st := List.take_left' rfl
  have hrd := rdOf_at st (ofL a) [ofL b]
  have hrd2 : rdOf ByteArray.empty (st ++ [ofL a, ofL b]) ((st.length + 1 : Nat) : Int) = ofL b := by
    have := rdOf_at (st ++ [ofL a]) (ofL b) []
    simpa using this
  have hp' : lamplighterref11_Parts.f k (opNode op).f0 = some 2 := hp
  have hs' : lamplighterref11_Sign.f (opNode op).f0 = some (ofL (sgnB op)) := hs
  have n1 : ¬ (opNode op).f0 = 1 := by show ¬ op = 1; omega
  have n2 : ¬ (opNode op).f0 = 2 := by show ¬ op = 2; omega
  have n3 : ¬ ((2 : Int) = 1) := by omega
  rw [lamplighterref11_Show.l0, if_pos (by omega), if_pos (by omega), hr, hp', Option.bind_some, if_neg n1, if_neg n2, Option.bind_some, if_neg n3, hs']
  simp only [Option.bind_some, hK, hK2, hw, hrd, hrd2, l40, l41, l32, ofL_app, ofL_size, Int.toNat_natCast, htk]
  clear hK hK2 hw hr hp hs hp' hs' hrd hrd2 htk hx n1 n2 n3 hA hL hl hk
  generalize (st ++ [ofL a, ofL b]).length = Ls at hsl ⊢
  refine (if_pos (by omega)).trans ?_
  refine (if_pos (by omega)).trans ?_
  refine (if_pos (by omega)).trans ?_
  refine (if_pos (by simp only [List.length_append, List.length_cons, List.length_nil]; omega)).trans ?_
  refine (if_pos (by simp only [List.length_append, List.length_cons, List.length_nil]; omega)).trans ?_
  refine (if_pos (by simp only [List.length_append, List.length_cons, List.length_nil]; omega)).trans ?_
  refine (if_pos (by omega)).trans ?_
  refine (if_pos (by omega)).trans ?_
  refine (if_pos (by simp only [List.length_append, List.length_cons, List.length_nil]; omega)).trans ?_
  refine (if_pos (by simp only [List.length_append, List.length_cons, List.length_nil]; omega)).trans ?_
  refine (if_pos (by omega)).trans ?_
  refine (if_pos (by simp only [List.length_nil]; omega)).trans ?_
  refine (if_pos (by simp only [List.nil_append]; omega)).trans ?_
  rw [List.nil_append]

theorem show_end (t : ByteArray) (h : x0.length ≤ 1000) : lamplighterref11_Show.l0 (k + 1) x0 [t] ((x0.length : Nat) : Int) = some t := by
  rw [lamplighterref11_Show.l0, if_neg (by omega), if_pos (by rfl), if_pos (by simp)]
  rfl
end

theorem flat_true (e : Ex) : flat (e.pcs true) = 32 :: flat (e.pcs false) := by
  cases e <;> simp [Ex.pcs, flat, sg, numP, nameP, wordP, strP]
  · split <;> simp [flat]

theorem num_facts : ∀ n : Nat, n < 40 → lamplighterref11_value.f 60 1 ((n : Int) - 8) ⟨#[]⟩ false = some (ofL (flat ((Ex.num ((n : Int) - 8)).pcs false))) := by decide +kernel
theorem dig_first : ∀ n : Nat, n < 32 → firstDigit (dig (n : Int)) = true := by decide +kernel

theorem first_digit (e : Ex) (h : e.wf) : firstDigit (flat (e.pcs false)) = e.digit ∧ flat (e.pcs false) ≠ [] := by
  cases e with
  | num v =>
    obtain ⟨h1, h2⟩ := h
    unfold Ex.pcs Ex.digit
    by_cases h0 : 0 ≤ v
    · rw [if_pos h0]
      obtain ⟨n, rfl⟩ : ∃ n : Nat, v = n := ⟨v.toNat, by omega⟩
      have := dig_first n (by omega)
      have e1 : flat [numP false (n : Int)] = dig (n : Int) := by simp [flat, numP]
      rw [e1, this]
      refine ⟨(decide_eq_true h0).symm, fun h => ?_⟩
      rw [h] at this; cases this
    · rw [if_neg h0]
      exact ⟨by simp [flat, sg, firstDigit, h0], by simp [flat, sg]⟩
  | fld v f =>
    obtain ⟨h1, h2⟩ := h
    rcases h1 with rfl | rfl | rfl <;> exact ⟨rfl, by simp [Ex.pcs, flat, nameP]⟩
  | str s => rcases h with rfl | rfl | rfl <;> exact ⟨rfl, by simp [Ex.pcs, flat, strP, strB]⟩
  | tru b => cases b <;> exact ⟨rfl, by simp [Ex.pcs, flat, wordP]⟩
  | neg a => exact ⟨rfl, by simp [Ex.pcs, flat, sg]⟩
  | not a => exact ⟨rfl, by simp [Ex.pcs, flat, sg]⟩
  | bin op a b => exact ⟨rfl, by simp [Ex.pcs, flat, sg]⟩

theorem nodes_pos (e : Ex) : 1 ≤ e.nodes.length := by cases e <;> simp only [Ex.nodes, List.length_append, List.length_cons, List.length_nil] <;> omega

theorem show_tree (e : Ex) : e.wf → ∀ (x0 pre post : List S53) (st : List ByteArray) (k : Nat), x0 = pre ++ e.nodes ++ post → 60 ≤ k → x0.length ≤ 100 → st.length + e.nodes.length ≤ 500 →
    lamplighterref11_Show.l0 (k + e.nodes.length) x0 st ((pre.length : Nat) : Int) = lamplighterref11_Show.l0 k x0 (st ++ [ofL (flat (e.pcs false))]) ((pre.length + e.nodes.length : Nat) : Int) := by
  induction e with
  | num v =>
    rintro ⟨h1, h2⟩ x0 pre post st k hx hk hl hst
    simp only [Ex.nodes, List.length_cons, List.length_nil] at hst
    have hn := num_facts (v + 8).toNat (by omega)
    rw [show (((v + 8).toNat : Nat) : Int) - 8 = v from by omega] at hn
    exact show_con x0 pre post st k ⟨1, v, ⟨#[]⟩, false⟩ _ (by rw [hx]; simp [Ex.nodes, conNode]) hk (by omega) (by omega) hn
  | fld v f =>
    rintro ⟨h1, h2⟩ x0 pre post st k hx hk hl hst
    simp only [Ex.nodes, List.length_cons, List.length_nil] at hst
    have e1 : flat ((Ex.fld v f).pcs false) = v ++ [46] ++ f := by simp [Ex.pcs, flat, sg, nameP]
    rw [e1]
    exact show_fld x0 pre post st k v f (by rw [hx]; simp [Ex.nodes]) hk (by omega) (by omega) (by rcases h1 with rfl | rfl | rfl <;> simp) (by rcases h2 with rfl | rfl <;> simp)
  | str s =>
    intro h x0 pre post st k hx hk hl hst
    simp only [Ex.nodes, List.length_cons, List.length_nil] at hst
    refine show_con x0 pre post st k ⟨2, 0, ofL s, false⟩ _ (by rw [hx]; simp [Ex.nodes, conNode]) hk (by omega) (by omega) ?_
    rcases h with rfl | rfl | rfl <;> decide +kernel
  | tru b =>
    intro h x0 pre post st k hx hk hl hst
    simp only [Ex.nodes, List.length_cons, List.length_nil] at hst
    refine show_con x0 pre post st k ⟨3, 0, ⟨#[]⟩, b⟩ _ (by rw [hx]; simp [Ex.nodes, conNode]) hk (by omega) (by omega) ?_
    cases b <;> decide +kernel
  | neg a ih =>
    intro h x0 pre post st k hx hk hl hst
    have hl0 : x0.length = pre.length + (a.nodes.length + 1) + post.length := by rw [hx]; simp only [Ex.nodes, List.length_append, List.length_cons, List.length_nil]
    simp only [Ex.nodes, List.length_append, List.length_cons, List.length_nil] at hst ⊢
    have hi := ih h x0 pre (opNode 3 :: post) st (k + 1) (by rw [hx]; simp [Ex.nodes]) (by omega) hl (by omega)
    have ht := text_len a h false
    obtain ⟨hd, hne⟩ := first_digit a h
    have hu := show_un x0 (pre ++ a.nodes) post st k 3 _ (.inl rfl) (by rw [hx]; simp [Ex.nodes]) hk (by omega) (by omega) (by omega : (flat (a.pcs false)).length ≤ 10000) hne
    rw [show k + (a.nodes.length + (0 + 1)) = k + 1 + a.nodes.length from by omega, hi, show ((pre.length + a.nodes.length : Nat) : Int) = (((pre ++ a.nodes).length : Nat) : Int) from by rw [List.length_append], hu]
    have e1 : flat ((Ex.neg a).pcs false) = [40] ++ sgnA 3 ++ [32] ++ (if (3 : Int) = 3 ∧ firstDigit (flat (a.pcs false)) = true then [40] ++ flat (a.pcs false) ++ [41] else flat (a.pcs false)) ++ [41] := by
      show flat ([sg false 40, sg false 45] ++ (if a.digit = true then [sg true 40] ++ a.pcs false ++ [sg false 41] else a.pcs true) ++ [sg false 41]) = _
      rw [hd]
      by_cases hdg : a.digit = true
      · rw [if_pos hdg, if_pos ⟨rfl, hdg⟩]; simp [flat_append, flat, sg, sgnA]
      · rw [if_neg hdg, if_neg (fun h => hdg h.2)]; simp [flat_append, flat, sg, sgnA, flat_true]
    rw [e1, List.length_append]
    rfl
  | not a ih =>
    intro h x0 pre post st k hx hk hl hst
    have hl0 : x0.length = pre.length + (a.nodes.length + 1) + post.length := by rw [hx]; simp only [Ex.nodes, List.length_append, List.length_cons, List.length_nil]
    simp only [Ex.nodes, List.length_append, List.length_cons, List.length_nil] at hst ⊢
    have hi := ih h x0 pre (opNode 13 :: post) st (k + 1) (by rw [hx]; simp [Ex.nodes]) (by omega) hl (by omega)
    have ht := text_len a h false
    obtain ⟨hd, hne⟩ := first_digit a h
    have hu := show_un x0 (pre ++ a.nodes) post st k 13 _ (.inr rfl) (by rw [hx]; simp [Ex.nodes]) hk (by omega) (by omega) (by omega : (flat (a.pcs false)).length ≤ 10000) hne
    rw [show k + (a.nodes.length + (0 + 1)) = k + 1 + a.nodes.length from by omega, hi, show ((pre.length + a.nodes.length : Nat) : Int) = (((pre ++ a.nodes).length : Nat) : Int) from by rw [List.length_append], hu]
    have e1 : flat ((Ex.not a).pcs false) = [40] ++ sgnA 13 ++ [32] ++ (if (13 : Int) = 3 ∧ firstDigit (flat (a.pcs false)) = true then [40] ++ flat (a.pcs false) ++ [41] else flat (a.pcs false)) ++ [41] := by
      rw [if_neg (fun h => absurd h.1 (by decide))]
      simp [Ex.pcs, flat_append, flat, sg, wordP, sgnA, flat_true]
    rw [e1, List.length_append]
    rfl
  | bin op a b iha ihb =>
    rintro ⟨h1, h2, h3, ha, hb⟩ x0 pre post st k hx hk hl hst
    have hl0 : x0.length = pre.length + (a.nodes.length + b.nodes.length + 1) + post.length := by rw [hx]; simp only [Ex.nodes, List.length_append, List.length_cons, List.length_nil]
    simp only [Ex.nodes, List.length_append, List.length_cons, List.length_nil] at hst ⊢
    have hpa := nodes_pos a; have hpb := nodes_pos b
    have hi := iha ha x0 pre (b.nodes ++ opNode op :: post) st (k + 1 + b.nodes.length) (by rw [hx]; simp [Ex.nodes]) (by omega) hl (by omega)
    have hj := ihb hb x0 (pre ++ a.nodes) (opNode op :: post) (st ++ [ofL (flat (a.pcs false))]) (k + 1) (by rw [hx]; simp [Ex.nodes]) (by omega) hl (by simp only [List.length_append, List.length_cons, List.length_nil]; omega)
    have hta := text_len a ha false
    have htb := text_len b hb false
    have hu := show_bin x0 (pre ++ a.nodes ++ b.nodes) post st k op (flat (a.pcs false)) (flat (b.pcs false)) h1 h2 h3 (by rw [hx]; simp [Ex.nodes]) hk (by omega) (by omega) (by omega) (by omega)
    rw [show k + (a.nodes.length + b.nodes.length + (0 + 1)) = k + 1 + b.nodes.length + a.nodes.length from by omega, hi, show ((pre.length + a.nodes.length : Nat) : Int) = (((pre ++ a.nodes).length : Nat) : Int) from by rw [List.length_append], hj,
      show (((pre ++ a.nodes).length + b.nodes.length : Nat) : Int) = (((pre ++ a.nodes ++ b.nodes).length : Nat) : Int) from by simp only [List.length_append], show st ++ [ofL (flat (a.pcs false))] ++ [ofL (flat (b.pcs false))] = st ++ [ofL (flat (a.pcs false)), ofL (flat (b.pcs false))] from by simp, hu]
    have e1 : flat ((Ex.bin op a b).pcs false) = [40] ++ flat (a.pcs false) ++ [32] ++ sgnB op ++ [32] ++ flat (b.pcs false) ++ [41] := by
      simp [Ex.pcs, flat_append, flat, sg, opP, flat_true]
    rw [e1]
    rw [show (((pre ++ a.nodes ++ b.nodes).length + 1 : Nat) : Int) = ((pre.length + (a.nodes.length + b.nodes.length + (0 + 1)) : Nat) : Int) from by simp only [List.length_append]; omega]

theorem show_eq (e : Ex) (h : e.wf) (hn : e.nodes.length ≤ 60) (k : Nat) (hk : 200 ≤ k) : lamplighterref11_Show.f k e.nodes = some (ofL (flat (e.pcs false))) := by
  obtain ⟨j, rfl⟩ : ∃ j, k = j + 1 + e.nodes.length := ⟨k - 1 - e.nodes.length, by omega⟩
  unfold lamplighterref11_Show.f
  have h1 := show_tree e h e.nodes [] [] [] (j + 1) (by simp) (by omega) (by omega) (by simp only [List.length_nil]; omega)
  simp only [List.length_nil, List.nil_append, Nat.zero_add] at h1
  exact h1.trans (show_end e.nodes j _ (by omega))

end Go.Proofs.YtpijgeijflbmhaaDoor.P

/- Go functions of the given program come to what plain Lean functions say: walks, printed by a program of this session's (after the kit's print); no conditions beyond each theorem's own. -/
namespace Go.Proofs.YtpijgeijflbmhaaDoor.P
open Go.RowKit Go.Proofs.YtpijgeijflbmhaaDoorW.PrintWords Go.Proofs.YtpijgeijflbmhaaDoorW.PrintLast Go.Proofs.YtpijgeijflbmhaaDoorW.PrintMore
attribute [local go_sem] max2_int min2_int max_two min_two max_three min_three max_four min_four   -- for this text's walks alone
set_option linter.unusedVariables false
set_option linter.unusedSimpArgs false

theorem eqA51 (d : Nat) (w : World) (x0 y0 : Int) (x1 y1 : Int) (x2 y2 : ByteArray) (x3 y3 : Bool) :
  (Op.equalIn (d + 2) 51 (.agg #[.int .i64 x0, .int .i64 x1, .string x2, .bool x3]) (.agg #[.int .i64 y0, .int .i64 y1, .string y2, .bool y3])).run Tryd.prog w = .ok (x0 == y0 && (x1 == y1 && (x2.toList == y2.toList && (x3 == y3)))) w := by
 refine eqA_of Tryd.underlying51 (by kernel_rfl) ?_
 refine eqf_cons (by rfl) (by go_simp; rfl) (by go_simp; rfl) (by go_simp) ?_
 refine eqf_cons (by rfl) (by go_simp; rfl) (by go_simp; rfl) (by go_simp) ?_
 refine eqf_cons (by rfl) (by go_simp; rfl) (by go_simp; rfl) (by go_simp) ?_
 exact eqf_last (by rfl) (by go_simp; rfl) (by go_simp; rfl) (by go_simp)
theorem eqA53 (d : Nat) (w : World) (x0 y0 : Int) (x1 y1 : Int) (x2 y2 : Int) (x3 y3 : ByteArray) (x4 y4 : Bool) (x5 y5 : ByteArray) (x6 y6 : ByteArray) :
  (Op.equalIn (d + 3) 53 (.agg #[.int .i64 x0, .int .i64 x1, .int .i64 x2, .string x3, .bool x4, .string x5, .string x6]) (.agg #[.int .i64 y0, .int .i64 y1, .int .i64 y2, .string y3, .bool y4, .string y5, .string y6])).run Tryd.prog w = .ok (x0 == y0 && ((x1 == y1 && (x2 == y2 && (x3.toList == y3.toList && (x4 == y4)))) && (x5.toList == y5.toList && (x6.toList == y6.toList)))) w := by
 refine eqA_of Tryd.underlying53 (by kernel_rfl) ?_
 refine eqf_cons (by rfl) (by go_simp; rfl) (by go_simp; rfl) (by go_simp) ?_
 refine eqf_cons (by rfl) (by go_simp) (by go_simp) (eqA51 (d + 0) w _ _ _ _ _ _ _ _) ?_
 refine eqf_cons (by rfl) (by go_simp; rfl) (by go_simp; rfl) (by go_simp) ?_
 exact eqf_last (by rfl) (by go_simp; rfl) (by go_simp; rfl) (by go_simp)

/-! ### lamplighterlaw15_awake: function 11 -/
def lamplighterlaw15_awake.f  : Option (Bool) := (ppred_Parse.f (⟨#[97, 46, 120, 32, 62, 32, 51]⟩ : ByteArray)).bind fun bt200 => (if bt200.2 = 0 then (if (bt200.1.length : Int) = 3 then (if 2 < (bt200.1.length : Int) then (if ((rd_T53 bt200.1 2).f0) = 11 then (if 0 < (bt200.1.length : Int) then (some (((rd_T53 bt200.1 0).f2).toList == ([97] : List UInt8))) else (none)) else (some false)) else (none)) else (some false)) else (some false))
set_option maxHeartbeats 8000000 in
set_option maxRecDepth 100000 in
theorem lamplighterlaw15_awake.calls  (r : Bool) (w : World) (hG : Glob w) (h : lamplighterlaw15_awake.f  = some r) :
  Calls Tryd.prog 11 #[] w fun e w' => e = .returned (.bool r) ∧ Below w.heap.size w w' := by
 have HG := As.mk hG
 clear hG
 have HB := As.mk (Below.refl w.heap.size w)
 have H : ((ppred_Parse.f (⟨#[97, 46, 120, 32, 62, 32, 51]⟩ : ByteArray)).bind fun bt200 => (if bt200.2 = 0 then (if (bt200.1.length : Int) = 3 then (if 2 < (bt200.1.length : Int) then (if ((rd_T53 bt200.1 2).f0) = 11 then (if 0 < (bt200.1.length : Int) then (some (((rd_T53 bt200.1 0).f2).toList == ([97] : List UInt8))) else (none)) else (some false)) else (none)) else (some false)) else (some false))) = some r := h
 clear h
 replace H := Option.bind_eq_some_iff.mp H
 obtain ⟨⟨t200, t201⟩, A10, H⟩ := H
 replace H : (if t201 = 0 then (if (t200.length : Int) = 3 then (if 2 < (t200.length : Int) then (if ((rd_T53 t200 2).f0) = 11 then (if 0 < (t200.length : Int) then (some (((rd_T53 t200 0).f2).toList == ([97] : List UInt8))) else (none)) else (some false)) else (none)) else (some false)) else (some false)) = some r := H
 have A1 := As.mk A10
 clear A10
 by_cases c2 : t201 = 0
 ·
  rw [if_pos c2] at H
  have c2b0 : (t201 == 0) = true := beq_iff_eq.mpr c2
  have c2b1 : (t201 != 0) = false := bne_eq_false_iff_eq.mpr c2
  clear c2
  by_cases c3 : (t200.length : Int) = 3
  ·
   rw [if_pos c3] at H
   have c3b0 : ((t200.length : Int) == 3) = true := beq_iff_eq.mpr c3
   have c3b1 : ((t200.length : Int) != 3) = false := bne_eq_false_iff_eq.mpr c3
   clear c3
   replace H := ite_some H
   obtain ⟨c4, H⟩ := H
   have c4b0 : decide (2 < (t200.length : Int)) = true := decide_eq_true c4
   have c4b1 : decide (2 < t200.length) = true := decide_eq_true (by omega)
   clear c4
   by_cases c5 : ((rd_T53 t200 2).f0) = 11
   ·
    rw [if_pos c5] at H
    have c5b0 : (((rd_T53 t200 2).f0) == 11) = true := beq_iff_eq.mpr c5
    have c5b1 : (((rd_T53 t200 2).f0) != 11) = false := bne_eq_false_iff_eq.mpr c5
    clear c5
    replace H := ite_some H
    obtain ⟨c6, H⟩ := H
    have c6b0 : decide (0 < (t200.length : Int)) = true := decide_eq_true c6
    have c6b1 : decide (0 < t200.length) = true := decide_eq_true (by omega)
    clear c6
    obtain rfl := Option.some.inj H
    go_enter Tryd.func11, Tryd.ntmps11
    go_wp2_with (first | ((with_reducible refine gaC (f := 12) rfl ?_); refine goesL_ (some 4) rfl rfl Tryd.func12 (by kernel_rfl) rfl #[.string (⟨#[97, 46, 120, 32, 62, 32, 51]⟩ : ByteArray)] rfl (by simp only [List.map_toArray, List.map_cons, List.map_nil]; try rfl) ?_; (with_reducible refine (ppred_Parse.calls (⟨#[97, 46, 120, 32, 62, 32, 51]⟩ : ByteArray) t200 t201 _ ?side1 A1.out).mono ?_); (case side1 => exact Glob.below HG.out (by repeat (first | (with_reducible first | exact HB.out | apply bwA | apply bwN | apply bwD) | exact HB.out)) rfl); rintro e w7 ⟨v202, rfl, ho0, hb⟩; refine ⟨_, rfl, ?_⟩; have n0_ := As.mk (Kd.R_lower ho0 (bwZ (by repeat (first | (with_reducible first | exact HB.out | apply bwA | apply bwN | apply bwD) | exact HB.out)))); have n1_ := As.mk (bwS (by repeat (first | (with_reducible first | exact HB.out | apply bwA | apply bwN | apply bwD) | exact HB.out)) hb); clear HB; have HO203 := n0_; have HB := n1_; clear n0_ n1_; (try clear hb); (try clear hb2); (try clear hk); (try clear hi); (try clear ho0); obtain ⟨Ao8, co8, eo8⟩ := Kd.R_slice HO203.out; subst eo8; have p204 : 0 ≤ (2 : Int) := (by omega); have q204 : 2 < (t200.length : Int) := of_decide_eq_true (by first | (with_reducible assumption) | assumption); obtain ⟨ad204, e204, hx204_0, hx204_1, hx204_2, hx204_3, hx204_4, hx204_5, hx204_6⟩ := at_T53 (Kd.R_reads' HO203.out).2.2 2 p204 q204; cases e204; (try simp only [show (2 : Int).toNat = 2 from rfl, Nat.reduceMul, Nat.reduceEqDiff, Go.Addr.add, ↓reduceIte] at hx204_0); (try simp only [show (2 : Int).toNat = 2 from rfl, Nat.reduceMul, Nat.reduceEqDiff, Go.Addr.add, ↓reduceIte] at hx204_1); (try simp only [show (2 : Int).toNat = 2 from rfl, Nat.reduceMul, Nat.reduceEqDiff, Go.Addr.add, ↓reduceIte] at hx204_2); (try simp only [show (2 : Int).toNat = 2 from rfl, Nat.reduceMul, Nat.reduceEqDiff, Go.Addr.add, ↓reduceIte] at hx204_3); (try simp only [show (2 : Int).toNat = 2 from rfl, Nat.reduceMul, Nat.reduceEqDiff, Go.Addr.add, ↓reduceIte] at hx204_4); (try simp only [show (2 : Int).toNat = 2 from rfl, Nat.reduceMul, Nat.reduceEqDiff, Go.Addr.add, ↓reduceIte] at hx204_5); (try simp only [show (2 : Int).toNat = 2 from rfl, Nat.reduceMul, Nat.reduceEqDiff, Go.Addr.add, ↓reduceIte] at hx204_6); have qi204 : (2 < t200.length) = True := eq_true (by omega); (try rw [show ((2 : Int)).toNat = 2 from rfl] at hx204_0); (try rw [show 2 * 7 = 14 from rfl] at hx204_0); (try rw [show ((2 : Int)).toNat = 2 from rfl] at hx204_1); (try rw [show 2 * 7 = 14 from rfl] at hx204_1); (try rw [show ((2 : Int)).toNat = 2 from rfl] at hx204_2); (try rw [show 2 * 7 = 14 from rfl] at hx204_2); (try rw [show ((2 : Int)).toNat = 2 from rfl] at hx204_3); (try rw [show 2 * 7 = 14 from rfl] at hx204_3); (try rw [show ((2 : Int)).toNat = 2 from rfl] at hx204_4); (try rw [show 2 * 7 = 14 from rfl] at hx204_4); (try rw [show ((2 : Int)).toNat = 2 from rfl] at hx204_5); (try rw [show 2 * 7 = 14 from rfl] at hx204_5); (try rw [show ((2 : Int)).toNat = 2 from rfl] at hx204_6); (try rw [show 2 * 7 = 14 from rfl] at hx204_6); replace p204 := eq_true p204; replace q204 := eq_true q204; have p205 : 0 ≤ (0 : Int) := (by omega); have q205 : 0 < (t200.length : Int) := of_decide_eq_true (by first | (with_reducible assumption) | assumption); obtain ⟨ad205, e205, hx205_0, hx205_1, hx205_2, hx205_3, hx205_4, hx205_5, hx205_6⟩ := at_T53 (Kd.R_reads' HO203.out).2.2 0 p205 q205; obtain rfl : ad204 = ad205 := (by injection e205); have qi205 : (0 < t200.length) = True := eq_true (by omega); (try rw [show ((0 : Int)).toNat = 0 from rfl] at hx205_0); (try rw [show 0 * 7 = 0 from rfl] at hx205_0); (try rw [Addr.add_zero'] at hx205_0); (try rw [show ((0 : Int)).toNat = 0 from rfl] at hx205_1); (try rw [show 0 * 7 = 0 from rfl] at hx205_1); (try rw [Addr.add_zero'] at hx205_1); (try rw [show ((0 : Int)).toNat = 0 from rfl] at hx205_2); (try rw [show 0 * 7 = 0 from rfl] at hx205_2); (try rw [Addr.add_zero'] at hx205_2); (try rw [show ((0 : Int)).toNat = 0 from rfl] at hx205_3); (try rw [show 0 * 7 = 0 from rfl] at hx205_3); (try rw [Addr.add_zero'] at hx205_3); (try rw [show ((0 : Int)).toNat = 0 from rfl] at hx205_4); (try rw [show 0 * 7 = 0 from rfl] at hx205_4); (try rw [Addr.add_zero'] at hx205_4); (try rw [show ((0 : Int)).toNat = 0 from rfl] at hx205_5); (try rw [show 0 * 7 = 0 from rfl] at hx205_5); (try rw [Addr.add_zero'] at hx205_5); (try rw [show ((0 : Int)).toNat = 0 from rfl] at hx205_6); (try rw [show 0 * 7 = 0 from rfl] at hx205_6); (try rw [Addr.add_zero'] at hx205_6); replace p205 := eq_true p205; replace q205 := eq_true q205))
    go_ret
    exact ⟨by first | rfl | (simp [errW_none, errW_some] <;> rfl) | (simp [*, errW_none, errW_some] <;> rfl), by repeat (first | (with_reducible first | exact HB.out | apply bwA | apply bwN | apply bwD) | exact HB.out)⟩
   ·
    rw [if_neg c5] at H
    have c5b0 : (((rd_T53 t200 2).f0) == 11) = false := beq_eq_false_iff_ne.mpr c5
    have c5b1 : (((rd_T53 t200 2).f0) != 11) = true := bne_iff_ne.mpr c5
    obtain rfl := Option.some.inj H
    go_enter Tryd.func11, Tryd.ntmps11
    go_wp2_with (first | ((with_reducible refine gaC (f := 12) rfl ?_); refine goesL_ (some 4) rfl rfl Tryd.func12 (by kernel_rfl) rfl #[.string (⟨#[97, 46, 120, 32, 62, 32, 51]⟩ : ByteArray)] rfl (by simp only [List.map_toArray, List.map_cons, List.map_nil]; try rfl) ?_; (with_reducible refine (ppred_Parse.calls (⟨#[97, 46, 120, 32, 62, 32, 51]⟩ : ByteArray) t200 t201 _ ?side1 A1.out).mono ?_); (case side1 => exact Glob.below HG.out (by repeat (first | (with_reducible first | exact HB.out | apply bwA | apply bwN | apply bwD) | exact HB.out)) rfl); rintro e w9 ⟨v202, rfl, ho0, hb⟩; refine ⟨_, rfl, ?_⟩; have n0_ := As.mk (Kd.R_lower ho0 (bwZ (by repeat (first | (with_reducible first | exact HB.out | apply bwA | apply bwN | apply bwD) | exact HB.out)))); have n1_ := As.mk (bwS (by repeat (first | (with_reducible first | exact HB.out | apply bwA | apply bwN | apply bwD) | exact HB.out)) hb); clear HB; have HO203 := n0_; have HB := n1_; clear n0_ n1_; (try clear hb); (try clear hb2); (try clear hk); (try clear hi); (try clear ho0); obtain ⟨Ao10, co10, eo10⟩ := Kd.R_slice HO203.out; subst eo10; have p204 : 0 ≤ (2 : Int) := (by omega); have q204 : 2 < (t200.length : Int) := of_decide_eq_true (by first | (with_reducible assumption) | assumption); obtain ⟨ad204, e204, hx204_0, hx204_1, hx204_2, hx204_3, hx204_4, hx204_5, hx204_6⟩ := at_T53 (Kd.R_reads' HO203.out).2.2 2 p204 q204; cases e204; (try simp only [show (2 : Int).toNat = 2 from rfl, Nat.reduceMul, Nat.reduceEqDiff, Go.Addr.add, ↓reduceIte] at hx204_0); (try simp only [show (2 : Int).toNat = 2 from rfl, Nat.reduceMul, Nat.reduceEqDiff, Go.Addr.add, ↓reduceIte] at hx204_1); (try simp only [show (2 : Int).toNat = 2 from rfl, Nat.reduceMul, Nat.reduceEqDiff, Go.Addr.add, ↓reduceIte] at hx204_2); (try simp only [show (2 : Int).toNat = 2 from rfl, Nat.reduceMul, Nat.reduceEqDiff, Go.Addr.add, ↓reduceIte] at hx204_3); (try simp only [show (2 : Int).toNat = 2 from rfl, Nat.reduceMul, Nat.reduceEqDiff, Go.Addr.add, ↓reduceIte] at hx204_4); (try simp only [show (2 : Int).toNat = 2 from rfl, Nat.reduceMul, Nat.reduceEqDiff, Go.Addr.add, ↓reduceIte] at hx204_5); (try simp only [show (2 : Int).toNat = 2 from rfl, Nat.reduceMul, Nat.reduceEqDiff, Go.Addr.add, ↓reduceIte] at hx204_6); have qi204 : (2 < t200.length) = True := eq_true (by omega); (try rw [show ((2 : Int)).toNat = 2 from rfl] at hx204_0); (try rw [show 2 * 7 = 14 from rfl] at hx204_0); (try rw [show ((2 : Int)).toNat = 2 from rfl] at hx204_1); (try rw [show 2 * 7 = 14 from rfl] at hx204_1); (try rw [show ((2 : Int)).toNat = 2 from rfl] at hx204_2); (try rw [show 2 * 7 = 14 from rfl] at hx204_2); (try rw [show ((2 : Int)).toNat = 2 from rfl] at hx204_3); (try rw [show 2 * 7 = 14 from rfl] at hx204_3); (try rw [show ((2 : Int)).toNat = 2 from rfl] at hx204_4); (try rw [show 2 * 7 = 14 from rfl] at hx204_4); (try rw [show ((2 : Int)).toNat = 2 from rfl] at hx204_5); (try rw [show 2 * 7 = 14 from rfl] at hx204_5); (try rw [show ((2 : Int)).toNat = 2 from rfl] at hx204_6); (try rw [show 2 * 7 = 14 from rfl] at hx204_6); replace p204 := eq_true p204; replace q204 := eq_true q204))
    go_ret
    exact ⟨by first | rfl | (simp [errW_none, errW_some] <;> rfl) | (simp [*, errW_none, errW_some] <;> rfl), by repeat (first | (with_reducible first | exact HB.out | apply bwA | apply bwN | apply bwD) | exact HB.out)⟩
  ·
   rw [if_neg c3] at H
   have c3b0 : ((t200.length : Int) == 3) = false := beq_eq_false_iff_ne.mpr c3
   have c3b1 : ((t200.length : Int) != 3) = true := bne_iff_ne.mpr c3
   obtain rfl := Option.some.inj H
   go_enter Tryd.func11, Tryd.ntmps11
   go_wp2_with (first | ((with_reducible refine gaC (f := 12) rfl ?_); refine goesL_ (some 4) rfl rfl Tryd.func12 (by kernel_rfl) rfl #[.string (⟨#[97, 46, 120, 32, 62, 32, 51]⟩ : ByteArray)] rfl (by simp only [List.map_toArray, List.map_cons, List.map_nil]; try rfl) ?_; (with_reducible refine (ppred_Parse.calls (⟨#[97, 46, 120, 32, 62, 32, 51]⟩ : ByteArray) t200 t201 _ ?side1 A1.out).mono ?_); (case side1 => exact Glob.below HG.out (by repeat (first | (with_reducible first | exact HB.out | apply bwA | apply bwN | apply bwD) | exact HB.out)) rfl); rintro e w11 ⟨v202, rfl, ho0, hb⟩; refine ⟨_, rfl, ?_⟩; have n0_ := As.mk (Kd.R_lower ho0 (bwZ (by repeat (first | (with_reducible first | exact HB.out | apply bwA | apply bwN | apply bwD) | exact HB.out)))); have n1_ := As.mk (bwS (by repeat (first | (with_reducible first | exact HB.out | apply bwA | apply bwN | apply bwD) | exact HB.out)) hb); clear HB; have HO203 := n0_; have HB := n1_; clear n0_ n1_; (try clear hb); (try clear hb2); (try clear hk); (try clear hi); (try clear ho0); obtain ⟨Ao12, co12, eo12⟩ := Kd.R_slice HO203.out; subst eo12))
   go_ret
   exact ⟨by first | rfl | (simp [errW_none, errW_some] <;> rfl) | (simp [*, errW_none, errW_some] <;> rfl), by repeat (first | (with_reducible first | exact HB.out | apply bwA | apply bwN | apply bwD) | exact HB.out)⟩
 ·
  rw [if_neg c2] at H
  have c2b0 : (t201 == 0) = false := beq_eq_false_iff_ne.mpr c2
  have c2b1 : (t201 != 0) = true := bne_iff_ne.mpr c2
  obtain rfl := Option.some.inj H
  go_enter Tryd.func11, Tryd.ntmps11
  go_wp2_with (first | ((with_reducible refine gaC (f := 12) rfl ?_); refine goesL_ (some 4) rfl rfl Tryd.func12 (by kernel_rfl) rfl #[.string (⟨#[97, 46, 120, 32, 62, 32, 51]⟩ : ByteArray)] rfl (by simp only [List.map_toArray, List.map_cons, List.map_nil]; try rfl) ?_; (with_reducible refine (ppred_Parse.calls (⟨#[97, 46, 120, 32, 62, 32, 51]⟩ : ByteArray) t200 t201 _ ?side1 A1.out).mono ?_); (case side1 => exact Glob.below HG.out (by repeat (first | (with_reducible first | exact HB.out | apply bwA | apply bwN | apply bwD) | exact HB.out)) rfl); rintro e w13 ⟨v202, rfl, ho0, hb⟩; refine ⟨_, rfl, ?_⟩; have n0_ := As.mk (Kd.R_lower ho0 (bwZ (by repeat (first | (with_reducible first | exact HB.out | apply bwA | apply bwN | apply bwD) | exact HB.out)))); have n1_ := As.mk (bwS (by repeat (first | (with_reducible first | exact HB.out | apply bwA | apply bwN | apply bwD) | exact HB.out)) hb); clear HB; have HO203 := n0_; have HB := n1_; clear n0_ n1_; (try clear hb); (try clear hb2); (try clear hk); (try clear hi); (try clear ho0)))
  go_ret
  exact ⟨by first | rfl | (simp [errW_none, errW_some] <;> rfl) | (simp [*, errW_none, errW_some] <;> rfl), by repeat (first | (with_reducible first | exact HB.out | apply bwA | apply bwN | apply bwD) | exact HB.out)⟩

-- NOT PRINTED: function 41 (ppred_parser_wrong)

-- NOT PRINTED: function 66 (ppred_parser_minus)

-- NOT PRINTED: function 42 (ppred_parser_one)

-- NOT PRINTED: function 29 (ppred_parser_level)

-- NOT PRINTED: function 16 (ppred_Take)

-- NOT PRINTED: function 30 (api_Tok)

-- NOT PRINTED: function 17 (lex_From)

-- NOT PRINTED: function 5 (lamplighterlaw15_PpredBad)

/-! ### lamplighterref11_Number: function 10 -/
mutual
def lamplighterref11_Number.j0 : Nat → List Int → Int → Int → Int → Option ((List (S53)) × Int)
 | 0, _, _, _, _ => none
 | k + 1, x0, x1, x2, x8 => if x2 = 0 then (lamplighterref11_Number.j1 k x0 (wrap64 (x1 + 1)) x2 x8 true) else (lamplighterref11_Number.j1 k x0 (wrap64 (x1 + 1)) x2 x8 (decide ((Int.tmod x8 6) < 2)))
def lamplighterref11_Number.j1 : Nat → List Int → Int → Int → Int → Bool → Option ((List (S53)) × Int)
 | 0, _, _, _, _, _ => none
 | k + 1, x0, x1, x2, x8, x30 => if x30 = true then (if (Int.tmod x8 6) = 0 then (some ((([(⟨1, (⟨1, wrap64 ((Go.bits .and .i64 (x8 / 16) 31) - 8), (⟨#[]⟩ : ByteArray), false⟩ : S51), (⟨#[]⟩ : ByteArray), (⟨#[]⟩ : ByteArray)⟩ : S53)] : List (S53))), x1)) else ((some (([(⟨#[97]⟩ : ByteArray), (⟨#[98]⟩ : ByteArray), (⟨#[99]⟩ : ByteArray)] : List ByteArray) : List ByteArray)).bind fun y230 => (if 0 ≤ (Int.tmod (x8 / 16) 3) then (if (Int.tmod (x8 / 16) 3) < (y230.length : Int) then (some ((([(⟨2, (⟨0, 0, (⟨#[]⟩ : ByteArray), false⟩ : S51), rdOf ByteArray.empty y230 (Int.tmod (x8 / 16) 3), (⟨#[120]⟩ : ByteArray)⟩ : S53)] : List (S53))), x1)) else (none)) else (none)))) else ((lamplighterref11_Number.f k x0 x1 (wrap64 (x2 - 1))).bind fun bt237 => (if (Int.tmod x8 6) = 5 then (if bt237.1.length < 1759218604441 then (some ((bt237.1 ++ [(⟨3, (⟨0, 0, (⟨#[]⟩ : ByteArray), false⟩ : S51), (⟨#[]⟩ : ByteArray), (⟨#[]⟩ : ByteArray)⟩ : S53)]), bt237.2)) else (none)) else ((lamplighterref11_Number.f k x0 bt237.2 (wrap64 (x2 - 1))).bind fun bt244 => (if bt237.1.length + bt244.1.length < 1759218604441 then ((some (bt237.1 ++ bt244.1 : List (S53))).bind fun y248 => (if y248.length < 1759218604441 then (some ((y248 ++ [(⟨wrap64 (4 + (Int.tmod (x8 / 16) 3)), (⟨0, 0, (⟨#[]⟩ : ByteArray), false⟩ : S51), (⟨#[]⟩ : ByteArray), (⟨#[]⟩ : ByteArray)⟩ : S53)]), bt244.2)) else (none))) else (none)))))
def lamplighterref11_Number.f : Nat → List Int → Int → Int → Option ((List (S53)) × Int)
 | 0, _, _, _ => none
 | k + 1, l0, a1, a2 => if a1 < (l0.length : Int) then (if 0 ≤ a1 then (lamplighterref11_Number.j0 k l0 a1 a2 (Go.bits .and .i64 (rd l0 a1) 65535)) else (none)) else (lamplighterref11_Number.j0 k l0 a1 a2 0)
end
set_option maxHeartbeats 8000000 in
set_option maxRecDepth 100000 in
theorem lamplighterref11_Number.calls (k : Nat) : ∀ (A0 : Option Addr) (c0 : Nat) (l0 : List Int) (a1 : Int) (a2 : Int) (r1 : List (S53)) (r2 : Int) (w : World) (hr0 : Kd.C (Kd.int .i64) w A0 l0.length l0) (hc0 : l0.length ≤ c0) (h : lamplighterref11_Number.f k l0 a1 a2 = some (r1, r2)),
  Calls Tryd.prog 10 #[.slice A0 l0.length c0, .int .i64 a1, .int .i64 a2] w fun e w' => ∃ v0_ : Value, e = .returned (.tuple #[v0_, .int .i64 r2]) ∧ Kd.R k53 53 w' w.heap.size (fun _ => True) v0_ r1 ∧ Below w.heap.size w w' := by
 induction k using Nat.strongRecOn with
 | _ k ih =>
 intro A0 c0 l0 a1 a2 r1 r2 w hr0 hc0 h
 cases k with
 | zero => exact absurd h (by simp [lamplighterref11_Number.f])
 | succ k =>
 simp only [lamplighterref11_Number.f] at h
 have hu51 := Tryd.underlying51
 have hu53 := Tryd.underlying53
 have HR0 := As.mk hr0
 have HC0 := As.mk hc0
 clear hr0 hc0
 have HB := As.mk (Below.refl w.heap.size w)
 have H : (if a1 < (l0.length : Int) then (if 0 ≤ a1 then (lamplighterref11_Number.j0 k l0 a1 a2 (Go.bits .and .i64 (rd l0 a1) 65535)) else (none)) else (lamplighterref11_Number.j0 k l0 a1 a2 0)) = some (r1, r2) := h
 clear h
 have HC4 := As.mk H
 clear H
 go_enter Tryd.func10, Tryd.ntmps10
 go_upto_if 16 with (fail)
 go_cut [8] (fun v8 wc => ∃ (kq : Nat) (x8_3 : Int), v8 = .int .i64 x8_3 ∧ As (lamplighterref11_Number.j0 kq l0 a1 a2 x8_3 = some (r1, r2)) ∧ As (kq ≤ k) ∧ As (Below w.heap.size w wc))
 case first =>
  have H := HC4.out
  clear HC4
  by_cases c5 : a1 < (l0.length : Int)
  ·
   rw [if_pos c5] at H
   have c5b0 : decide (a1 < (l0.length : Int)) = true := decide_eq_true c5
   clear c5
   (first | rw [c5b0] | (simp only [i64_w, i32_w]; rw [c5b0]) | skip)
   replace H := ite_some H
   obtain ⟨c6, H⟩ := H
   have c6b0 : decide (0 ≤ a1) = true := decide_eq_true c6
   clear c6
   have H' := As.mk H
   clear H
   have p226 : 0 ≤ (a1 : Int) := of_decide_eq_true (by first | (with_reducible assumption) | assumption)
   have q226 : a1 < (l0.length : Int) := of_decide_eq_true (by first | (with_reducible assumption) | assumption)
   obtain ⟨ad226, e226, hx226_0⟩ := Kd.at_int HR0.out a1 p226 q226
   cases e226
   replace hx226_0 := (HB.out.cell (World.block_lt_of_cell? w _ hx226_0)).trans hx226_0
   replace p226 := eq_true p226
   replace q226 := eq_true q226
   go_wp2
   go_meet
   case rel => exact ⟨_, (Go.bits .and .i64 (rd l0 a1) 65535), (by first | rfl | (simp; done) | (simp [*]; done)), H', ⟨by first | omega | exact Nat.le_refl _⟩, ⟨by repeat (first | (with_reducible first | exact HB.out | apply bwA | apply bwN | apply bwD) | exact HB.out)⟩⟩
  ·
   rw [if_neg c5] at H
   have c5b0 : decide (a1 < (l0.length : Int)) = false := decide_eq_false c5
   clear c5
   (first | rw [c5b0] | (simp only [i64_w, i32_w]; rw [c5b0]) | skip)
   have H' := As.mk H
   clear H
   go_wp2
   go_meet
   case rel => exact ⟨_, (0), (by first | rfl | (simp; done) | (simp [*]; done)), H', ⟨by first | omega | exact Nat.le_refl _⟩, ⟨by repeat (first | (with_reducible first | exact HB.out | apply bwA | apply bwN | apply bwD) | exact HB.out)⟩⟩
 case rest =>
  clear HC4
  try clear c1
  try clear p2
  try clear q2
  try clear hx2
  try clear c5
  try clear c5b0
  try clear c6
  try clear c6b0
  try clear hx226_0
  try clear p226
  try clear q226
  obtain ⟨kq, x8_3, rfl, HA, HJ3, HB⟩ := hcut
  cases kq with
  | zero => exact absurd HA.out (by simp [lamplighterref11_Number.j0])
  | succ kj3 =>
   have H := HA.out
   clear HA
   simp only [lamplighterref11_Number.j0] at H
   have HC7 := As.mk H
   clear H
   go_upto_region 5 with (fail)
   go_cut [30] (fun v30 wc => ∃ (kq : Nat) (x30_6 : Bool), v30 = .bool x30_6 ∧ As (lamplighterref11_Number.j1 kq l0 (wrap64 (a1 + 1)) a2 x8_3 x30_6 = some (r1, r2)) ∧ As (kq ≤ kj3) ∧ As (Below w.heap.size w wc))
   case first =>
    have H := HC7.out
    clear HC7
    by_cases c8 : a2 = 0
    ·
     rw [if_pos c8] at H
     have c8b0 : (a2 == 0) = true := beq_iff_eq.mpr c8
     have c8b1 : (a2 != 0) = false := bne_eq_false_iff_eq.mpr c8
     clear c8
     (first | rw [c8b0] | (simp only [i64_w, i32_w]; rw [c8b0]) | skip)
     have H' := As.mk H
     clear H
     go_wp2
     go_meet
     case rel => exact ⟨_, (true), (by first | rfl | (simp; done) | (simp [*]; done)), H', ⟨by have := HJ3.out; first | omega | exact Nat.le_refl _⟩, ⟨by repeat (first | (with_reducible first | exact HB.out | apply bwA | apply bwN | apply bwD) | exact HB.out)⟩⟩
    ·
     rw [if_neg c8] at H
     have c8b0 : (a2 == 0) = false := beq_eq_false_iff_ne.mpr c8
     have c8b1 : (a2 != 0) = true := bne_iff_ne.mpr c8
     (first | rw [c8b0] | (simp only [i64_w, i32_w]; rw [c8b0]) | skip)
     have H' := As.mk H
     clear H
     go_wp2
     go_meet
     case rel => exact ⟨_, (decide ((Int.tmod x8_3 6) < 2)), (by first | rfl | (simp; done) | (simp [*]; done)), H', ⟨by have := HJ3.out; first | omega | exact Nat.le_refl _⟩, ⟨by repeat (first | (with_reducible first | exact HB.out | apply bwA | apply bwN | apply bwD) | exact HB.out)⟩⟩
   case rest =>
    clear HC7
    try clear c1
    try clear p2
    try clear q2
    try clear hx2
    try clear c5
    try clear c5b0
    try clear c6
    try clear c6b0
    try clear p6
    try clear c8
    try clear c8b0
    try clear c8b1
    try clear hx226_0
    try clear p2
    try clear p226
    try clear q2
    try clear q226
    obtain ⟨kq, x30_6, rfl, HA, HJ6, HB⟩ := hcut
    cases kq with
    | zero => exact absurd HA.out (by simp [lamplighterref11_Number.j1])
    | succ kj6 =>
     have H := HA.out
     clear HA
     simp only [lamplighterref11_Number.j1] at H
     by_cases c9 : x30_6 = true
     ·
      subst c9
      have H1 : (if (Int.tmod x8_3 6) = 0 then (some ((([(⟨1, (⟨1, wrap64 ((Go.bits .and .i64 (x8_3 / 16) 31) - 8), (⟨#[]⟩ : ByteArray), false⟩ : S51), (⟨#[]⟩ : ByteArray), (⟨#[]⟩ : ByteArray)⟩ : S53)] : List (S53))), (wrap64 (a1 + 1)))) else ((some (([(⟨#[97]⟩ : ByteArray), (⟨#[98]⟩ : ByteArray), (⟨#[99]⟩ : ByteArray)] : List ByteArray) : List ByteArray)).bind fun y230 => (if 0 ≤ (Int.tmod (x8_3 / 16) 3) then (if (Int.tmod (x8_3 / 16) 3) < (y230.length : Int) then (some ((([(⟨2, (⟨0, 0, (⟨#[]⟩ : ByteArray), false⟩ : S51), rdOf ByteArray.empty y230 (Int.tmod (x8_3 / 16) 3), (⟨#[120]⟩ : ByteArray)⟩ : S53)] : List (S53))), (wrap64 (a1 + 1)))) else (none)) else (none)))) = some (r1, r2) := by rw [if_pos rfl] at H; exact H
      clear H
      have H := H1
      clear H1
      by_cases c10 : (Int.tmod x8_3 6) = 0
      ·
       rw [if_pos c10] at H
       have c10b0 : ((Int.tmod x8_3 6) == 0) = true := beq_iff_eq.mpr c10
       have c10b1 : ((Int.tmod x8_3 6) != 0) = false := bne_eq_false_iff_eq.mpr c10
       clear c10
       obtain ⟨y227, hy227⟩ : ∃ y_ : List (S53), y_ = (([(⟨1, (⟨1, wrap64 ((Go.bits .and .i64 (x8_3 / 16) 31) - 8), (⟨#[]⟩ : ByteArray), false⟩ : S51), (⟨#[]⟩ : ByteArray), (⟨#[]⟩ : ByteArray)⟩ : S53)] : List (S53))) := ⟨_, rfl⟩
       replace H : (some (y227, (wrap64 (a1 + 1)))) = some (r1, r2) := by first | (rw [hy227]; with_reducible exact H) | (have H2_ := (Option.bind_some _ _).symm.trans H; rw [hy227]; with_reducible exact H2_) | (have H2_ := (Option.bind_some _ _).symm.trans H; with_reducible exact H2_) | with_reducible exact H | (rw [hy227]; exact H) | exact H
       have Ny227 := As.mk hy227
       clear hy227
       simp only [Option.some.injEq, Prod.mk.injEq] at H
       obtain ⟨rfl, rfl⟩ := H
       go_wp2_with (first | ((with_reducible refine gate_dst (N := 40) rfl ?_); refine Kd.R_lit k53 _ 53 ?hg (N := 40) ?hd (xs := ([(⟨1, (⟨1, wrap64 ((Go.bits .and .i64 (x8_3 / 16) 31) - 8), (⟨#[]⟩ : ByteArray), false⟩ : S51), (⟨#[]⟩ : ByteArray), (⟨#[]⟩ : ByteArray)⟩ : S53)] : List (S53))) (inner := [.int .i64 1, .int .i64 1, .int .i64 (wrap64 ((Go.bits .and .i64 (x8_3 / 16) 31) - 8)), .string (⟨#[]⟩ : ByteArray), .bool false, .string (⟨#[]⟩ : ByteArray), .string (⟨#[]⟩ : ByteArray)]) (ok := fun _ => True) (okp := fun _ => True) ?hr ?hp (fun _ hk => hk) trivial (Below.refl _ _) (Nat.le_refl _) (by simp) ?_; (case hd => rfl); (case hg => rfl); (case hr => first | (go_simp; done) | (go_simp; rfl)); (case hp => exact (Reps.c7 (show Kd.M k53 _ _ _ (⟨1, (⟨1, wrap64 ((Go.bits .and .i64 (x8_3 / 16) 31) - 8), (⟨#[]⟩ : ByteArray), false⟩ : S51), (⟨#[]⟩ : ByteArray), (⟨#[]⟩ : ByteArray)⟩ : S53) [.int .i64 1, .int .i64 1, .int .i64 (wrap64 ((Go.bits .and .i64 (x8_3 / 16) 31) - 8)), .string (⟨#[]⟩ : ByteArray), .bool false, .string (⟨#[]⟩ : ByteArray), .string (⟨#[]⟩ : ByteArray)] from (k53_mkM _ _ _ (⟨1, (⟨1, wrap64 ((Go.bits .and .i64 (x8_3 / 16) 31) - 8), (⟨#[]⟩ : ByteArray), false⟩ : S51), (⟨#[]⟩ : ByteArray), (⟨#[]⟩ : ByteArray)⟩ : S53) )) (Reps.none _ _))); intro v228 w11 ho12 hb hg_ hnew_; clear hg_ hnew_; (first | rw [← Ny227.out] at ho12 | (simp only [Int.reduceToNat] at ho12; rw [← Ny227.out] at ho12)); have n0_ := As.mk (Kd.R_lower ho12 (bwZ (by repeat (first | (with_reducible first | exact HB.out | apply bwA | apply bwN | apply bwD) | exact HB.out)))); have n1_ := As.mk (bwS (by repeat (first | (with_reducible first | exact HB.out | apply bwA | apply bwN | apply bwD) | exact HB.out)) hb); clear HB; have HO229 := n0_; have HB := n1_; clear n0_ n1_; clear hb ho12))
       go_ret2
       exact ⟨_, by first | rfl | (simp [errW_none, errW_some] <;> rfl) | (simp [*, errW_none, errW_some] <;> rfl), by (with_reducible repeat (first | apply Kd.rA | apply Kd.rN | apply Kd.rD)); exact HO229.out, by repeat (first | (with_reducible first | exact HB.out | apply bwA | apply bwN | apply bwD) | exact HB.out)⟩
      ·
       rw [if_neg c10] at H
       have c10b0 : ((Int.tmod x8_3 6) == 0) = false := beq_eq_false_iff_ne.mpr c10
       have c10b1 : ((Int.tmod x8_3 6) != 0) = true := bne_iff_ne.mpr c10
       obtain ⟨y230, hy230⟩ : ∃ y_ : List ByteArray, y_ = (([(⟨#[97]⟩ : ByteArray), (⟨#[98]⟩ : ByteArray), (⟨#[99]⟩ : ByteArray)] : List ByteArray)) := ⟨_, rfl⟩
       replace H : (if 0 ≤ (Int.tmod (x8_3 / 16) 3) then (if (Int.tmod (x8_3 / 16) 3) < (y230.length : Int) then (some ((([(⟨2, (⟨0, 0, (⟨#[]⟩ : ByteArray), false⟩ : S51), rdOf ByteArray.empty y230 (Int.tmod (x8_3 / 16) 3), (⟨#[120]⟩ : ByteArray)⟩ : S53)] : List (S53))), (wrap64 (a1 + 1)))) else (none)) else (none)) = some (r1, r2) := by first | (rw [hy230]; with_reducible exact H) | (have H2_ := (Option.bind_some _ _).symm.trans H; rw [hy230]; with_reducible exact H2_) | (have H2_ := (Option.bind_some _ _).symm.trans H; with_reducible exact H2_) | with_reducible exact H | (rw [hy230]; exact H) | exact H
       have Ny230 := As.mk hy230
       clear hy230
       obtain ⟨ji13, hji13⟩ : ∃ j_ : Int, (Int.tmod (x8_3 / 16) 3) = j_ := ⟨_, rfl⟩
       replace H : (if 0 ≤ (ji13) then (if (ji13) < (y230.length : Int) then (some ((([(⟨2, (⟨0, 0, (⟨#[]⟩ : ByteArray), false⟩ : S51), rdOf ByteArray.empty y230 (ji13), (⟨#[120]⟩ : ByteArray)⟩ : S53)] : List (S53))), (wrap64 (a1 + 1)))) else (none)) else (none)) = some (r1, r2) := by first | (rw [hji13] at H; exact H) | (simp only [hji13] at H ⊢; exact H)
       replace H := ite_some H
       obtain ⟨c14, H⟩ := H
       have c14b0 : decide (0 ≤ (ji13)) = true := decide_eq_true c14
       clear c14
       replace H := ite_some H
       obtain ⟨c15, H⟩ := H
       have c15b0 : decide ((ji13) < (y230.length : Int)) = true := decide_eq_true c15
       clear c15
       obtain ⟨y234, hy234⟩ : ∃ y_ : List (S53), y_ = (([(⟨2, (⟨0, 0, (⟨#[]⟩ : ByteArray), false⟩ : S51), rdOf ByteArray.empty y230 (ji13), (⟨#[120]⟩ : ByteArray)⟩ : S53)] : List (S53))) := ⟨_, rfl⟩
       replace H : (some (y234, (wrap64 (a1 + 1)))) = some (r1, r2) := by first | (rw [hy234]; with_reducible exact H) | (have H2_ := (Option.bind_some _ _).symm.trans H; rw [hy234]; with_reducible exact H2_) | (have H2_ := (Option.bind_some _ _).symm.trans H; with_reducible exact H2_) | with_reducible exact H | (rw [hy234]; exact H) | exact H
       have Ny234 := As.mk hy234
       clear hy234
       simp only [Option.some.injEq, Prod.mk.injEq] at H
       obtain ⟨rfl, rfl⟩ := H
       go_wp2_with (first | ((with_reducible refine gate_dst (N := 42) rfl ?_); refine Kd.R_lit Kd.string _ 9 ?hg (N := 42) ?hd (xs := ([(⟨#[97]⟩ : ByteArray), (⟨#[98]⟩ : ByteArray), (⟨#[99]⟩ : ByteArray)] : List ByteArray)) (inner := [.string (⟨#[97]⟩ : ByteArray), .string (⟨#[98]⟩ : ByteArray), .string (⟨#[99]⟩ : ByteArray)]) (ok := fun _ => True) (okp := fun _ => True) ?hr ?hp (fun _ hk => hk) trivial (Below.refl _ _) (Nat.le_refl _) (by simp) ?_; (case hd => rfl); (case hg => rfl); (case hr => first | (go_simp; done) | (go_simp; rfl)); (case hp => exact (Reps.one (show Kd.M Kd.string _ _ _ (⟨#[97]⟩ : ByteArray) [.string (⟨#[97]⟩ : ByteArray)] from rfl) (Reps.one (show Kd.M Kd.string _ _ _ (⟨#[98]⟩ : ByteArray) [.string (⟨#[98]⟩ : ByteArray)] from rfl) (Reps.one (show Kd.M Kd.string _ _ _ (⟨#[99]⟩ : ByteArray) [.string (⟨#[99]⟩ : ByteArray)] from rfl) (Reps.none _ _))))); intro v231 w16 ho17 hb hg_ hnew_; clear hg_ hnew_; (first | rw [← Ny230.out] at ho17 | (simp only [Int.reduceToNat] at ho17; rw [← Ny230.out] at ho17)); have n0_ := As.mk (Kd.R_lower ho17 (bwZ (by repeat (first | (with_reducible first | exact HB.out | apply bwA | apply bwN | apply bwD) | exact HB.out)))); have n1_ := As.mk (bwS (by repeat (first | (with_reducible first | exact HB.out | apply bwA | apply bwN | apply bwD) | exact HB.out)) hb); clear HB; have HO232 := n0_; have HB := n1_; clear n0_ n1_; clear hb ho17; obtain ⟨Ao18, co18, eo18⟩ := Kd.R_slice HO232.out; subst eo18; have p233 : 0 ≤ ((ji13) : Int) := of_decide_eq_true (by first | (with_reducible assumption) | assumption); have q233 : (ji13) < (y230.length : Int) := of_decide_eq_true (by first | (with_reducible assumption) | assumption); obtain ⟨ad233, e233, hx233_0⟩ := Kd.at_string (Kd.R_reads' HO232.out).2.2 (ji13) p233 q233; cases e233; replace p233 := eq_true p233; replace q233 := eq_true q233) | ((with_reducible refine gate_dst (N := 49) rfl ?_); refine Kd.R_lit k53 _ 53 ?hg (N := 49) ?hd (xs := ([(⟨2, (⟨0, 0, (⟨#[]⟩ : ByteArray), false⟩ : S51), rdOf ByteArray.empty y230 (ji13), (⟨#[120]⟩ : ByteArray)⟩ : S53)] : List (S53))) (inner := [.int .i64 2, .int .i64 0, .int .i64 0, .string (⟨#[]⟩ : ByteArray), .bool false, .string (rdOf ByteArray.empty y230 (ji13)), .string (⟨#[120]⟩ : ByteArray)]) (ok := fun _ => True) (okp := fun _ => True) ?hr ?hp (fun _ hk => hk) trivial (Below.refl _ _) (Nat.le_refl _) (by simp) ?_; (case hd => rfl); (case hg => rfl); (case hr => first | (go_simp; done) | (go_simp; rfl)); (case hp => exact (Reps.c7 (show Kd.M k53 _ _ _ (⟨2, (⟨0, 0, (⟨#[]⟩ : ByteArray), false⟩ : S51), rdOf ByteArray.empty y230 (ji13), (⟨#[120]⟩ : ByteArray)⟩ : S53) [.int .i64 2, .int .i64 0, .int .i64 0, .string (⟨#[]⟩ : ByteArray), .bool false, .string (rdOf ByteArray.empty y230 (ji13)), .string (⟨#[120]⟩ : ByteArray)] from (k53_mkM _ _ _ (⟨2, (⟨0, 0, (⟨#[]⟩ : ByteArray), false⟩ : S51), rdOf ByteArray.empty y230 (ji13), (⟨#[120]⟩ : ByteArray)⟩ : S53) )) (Reps.none _ _))); intro v235 w19 ho20 hb hg_ hnew_; clear hg_ hnew_; (first | rw [← Ny234.out] at ho20 | (simp only [Int.reduceToNat] at ho20; rw [← Ny234.out] at ho20)); have n0_ := As.mk (Kd.R_below (by (with_reducible repeat (first | apply Kd.rA | apply Kd.rN | apply Kd.rD)); exact HO232.out) hb); have n1_ := As.mk (Kd.R_lower ho20 (bwZ (by repeat (first | (with_reducible first | exact HB.out | apply bwA | apply bwN | apply bwD) | exact HB.out)))); have n2_ := As.mk (bwS (by repeat (first | (with_reducible first | exact HB.out | apply bwA | apply bwN | apply bwD) | exact HB.out)) hb); clear HO232; clear HB; have HO232 := n0_; have HO236 := n1_; have HB := n2_; clear n0_ n1_ n2_; clear hb ho20))
       go_ret2
       exact ⟨_, by first | rfl | (simp [errW_none, errW_some] <;> rfl) | (simp only [← hji13]; first | rfl | (simp [errW_none, errW_some] <;> rfl)) | (simp [*, errW_none, errW_some] <;> rfl), by (with_reducible repeat (first | apply Kd.rA | apply Kd.rN | apply Kd.rD)); exact HO236.out, by repeat (first | (with_reducible first | exact HB.out | apply bwA | apply bwN | apply bwD) | exact HB.out)⟩
     ·
      replace c9 := Bool.eq_false_iff.mpr c9
      subst c9
      have H1 : ((lamplighterref11_Number.f kj6 l0 (wrap64 (a1 + 1)) (wrap64 (a2 - 1))).bind fun bt237 => (if (Int.tmod x8_3 6) = 5 then (if bt237.1.length < 1759218604441 then (some ((bt237.1 ++ [(⟨3, (⟨0, 0, (⟨#[]⟩ : ByteArray), false⟩ : S51), (⟨#[]⟩ : ByteArray), (⟨#[]⟩ : ByteArray)⟩ : S53)]), bt237.2)) else (none)) else ((lamplighterref11_Number.f kj6 l0 bt237.2 (wrap64 (a2 - 1))).bind fun bt244 => (if bt237.1.length + bt244.1.length < 1759218604441 then ((some (bt237.1 ++ bt244.1 : List (S53))).bind fun y248 => (if y248.length < 1759218604441 then (some ((y248 ++ [(⟨wrap64 (4 + (Int.tmod (x8_3 / 16) 3)), (⟨0, 0, (⟨#[]⟩ : ByteArray), false⟩ : S51), (⟨#[]⟩ : ByteArray), (⟨#[]⟩ : ByteArray)⟩ : S53)]), bt244.2)) else (none))) else (none))))) = some (r1, r2) := by rw [if_neg (show ¬ (false = true) by decide)] at H; exact H
      clear H
      have H := H1
      clear H1
      replace H := Option.bind_eq_some_iff.mp H
      obtain ⟨⟨t237, t238⟩, A210, H⟩ := H
      replace H : (if (Int.tmod x8_3 6) = 5 then (if t237.length < 1759218604441 then (some ((t237 ++ [(⟨3, (⟨0, 0, (⟨#[]⟩ : ByteArray), false⟩ : S51), (⟨#[]⟩ : ByteArray), (⟨#[]⟩ : ByteArray)⟩ : S53)]), t238)) else (none)) else ((lamplighterref11_Number.f kj6 l0 t238 (wrap64 (a2 - 1))).bind fun bt244 => (if t237.length + bt244.1.length < 1759218604441 then ((some (t237 ++ bt244.1 : List (S53))).bind fun y248 => (if y248.length < 1759218604441 then (some ((y248 ++ [(⟨wrap64 (4 + (Int.tmod (x8_3 / 16) 3)), (⟨0, 0, (⟨#[]⟩ : ByteArray), false⟩ : S51), (⟨#[]⟩ : ByteArray), (⟨#[]⟩ : ByteArray)⟩ : S53)]), bt244.2)) else (none))) else (none)))) = some (r1, r2) := H
      have A21 := As.mk A210
      clear A210
      by_cases c22 : (Int.tmod x8_3 6) = 5
      ·
       rw [if_pos c22] at H
       have c22b0 : ((Int.tmod x8_3 6) == 5) = true := beq_iff_eq.mpr c22
       have c22b1 : ((Int.tmod x8_3 6) != 5) = false := bne_eq_false_iff_eq.mpr c22
       clear c22
       replace H := ite_some H
       obtain ⟨c23, H⟩ := H
       have LMc23 := As.mk c23
       clear c23
       obtain ⟨y241, hy241⟩ : ∃ y_ : List (S53), y_ = (t237 ++ [(⟨3, (⟨0, 0, (⟨#[]⟩ : ByteArray), false⟩ : S51), (⟨#[]⟩ : ByteArray), (⟨#[]⟩ : ByteArray)⟩ : S53)]) := ⟨_, rfl⟩
       replace H : (some (y241, t238)) = some (r1, r2) := by first | (rw [hy241]; with_reducible exact H) | (have H2_ := (Option.bind_some _ _).symm.trans H; rw [hy241]; with_reducible exact H2_) | (have H2_ := (Option.bind_some _ _).symm.trans H; with_reducible exact H2_) | with_reducible exact H | (rw [hy241]; exact H) | exact H
       have Ny241 := As.mk hy241
       clear hy241
       simp only [Option.some.injEq, Prod.mk.injEq] at H
       obtain ⟨rfl, rfl⟩ := H
       go_wp2_with (first | ((with_reducible refine gaC (f := 10) rfl ?_); refine goesL_ (some 56) rfl rfl Tryd.func10 (by kernel_rfl) rfl #[.slice A0 l0.length c0, .int .i64 (wrap64 (a1 + 1)), .int .i64 (wrap64 (a2 - 1))] rfl (by simp only [List.map_toArray, List.map_cons, List.map_nil]; try rfl) ?_; (with_reducible refine (ih kj6 (by have := HJ3.out; have := HJ6.out; omega) _ _ l0 (wrap64 (a1 + 1)) (wrap64 (a2 - 1)) t237 t238 _ ?side1 ?side2 A21.out).mono ?_); (case side1 => repeat (first | exact (Kd.C_below HR0.out HB.out) | (with_reducible refine Kd.C_alloc ?_ _) | (with_reducible refine Kd.C_drewN ?_ _) | (with_reducible refine Kd.C_drew ?_))); (case side2 => exact HC0.out); rintro e w24 ⟨v239, rfl, ho0, hb⟩; refine ⟨_, rfl, ?_⟩; have n0_ := As.mk (Kd.R_lower ho0 (bwZ (by repeat (first | (with_reducible first | exact HB.out | apply bwA | apply bwN | apply bwD) | exact HB.out)))); have n1_ := As.mk (bwS (by repeat (first | (with_reducible first | exact HB.out | apply bwA | apply bwN | apply bwD) | exact HB.out)) hb); clear HB; have HO240 := n0_; have HB := n1_; clear n0_ n1_; (try clear hb); (try clear hb2); (try clear hk); (try clear hi); (try clear ho0)) | ((with_reducible refine gaB (b := .append) (xs := #[.tmp 62, .tmp 64]) rfl ?_); at_builtin; refine Kd.R_append k53 (w0 := w) w.heap.size rfl (.tmp 62) (.tmp 64) 23 53 (.agg #[(.int .i64 0), (.int .i64 0), (.int .i64 0), (.string ⟨#[]⟩), (.bool false), (.string ⟨#[]⟩), (.string ⟨#[]⟩)]) 80 rfl Tryd.underlying23 info53 rfl (by decide) (by omega) v239 t237 (⟨3, (⟨0, 0, (⟨#[]⟩ : ByteArray), false⟩ : S51), (⟨#[]⟩ : ByteArray), (⟨#[]⟩ : ByteArray)⟩ : S53) [.int .i64 3, .int .i64 0, .int .i64 0, .string (⟨#[]⟩ : ByteArray), .bool false, .string (⟨#[]⟩ : ByteArray), .string (⟨#[]⟩ : ByteArray)] (fun _ => True) (fun _ => False) rfl rfl ?aP (fun _ hk => hk.elim) ?aF ?aO ?aB ?aS ?aL ?_; (case aP => exact k53_mkM _ _ _ (⟨3, (⟨0, 0, (⟨#[]⟩ : ByteArray), false⟩ : S51), (⟨#[]⟩ : ByteArray), (⟨#[]⟩ : ByteArray)⟩ : S53)); (case aB => exact (by repeat (first | (with_reducible first | exact HB.out | apply bwA | apply bwN | apply bwD) | exact HB.out))); (case aF => exact (fun _ _ => trivial)); (case aO => exact (by (with_reducible repeat (first | apply Kd.rA | apply Kd.rN | apply Kd.rD)); exact HO240.out)); (case aS => exact (bwZ (by repeat (first | (with_reducible first | exact HB.out | apply bwA | apply bwN | apply bwD) | exact HB.out)))); (case aL => have := LMc23.out; omega); intro v242 w25 ho hb hg hat; rw [← Ny241.out] at ho; have n0_ := As.mk (hb); have n1_ := As.mk (ho); clear HB; clear HO240; have HB := n0_; have HO243 := n1_; clear n0_ n1_; clear ho hb hg hat))
       go_ret2
       exact ⟨_, by first | rfl | (simp [errW_none, errW_some] <;> rfl) | (simp [*, errW_none, errW_some] <;> rfl), by (with_reducible repeat (first | apply Kd.rA | apply Kd.rN | apply Kd.rD)); exact HO243.out, by repeat (first | (with_reducible first | exact HB.out | apply bwA | apply bwN | apply bwD) | exact HB.out)⟩
      ·
       rw [if_neg c22] at H
       have c22b0 : ((Int.tmod x8_3 6) == 5) = false := beq_eq_false_iff_ne.mpr c22
       have c22b1 : ((Int.tmod x8_3 6) != 5) = true := bne_iff_ne.mpr c22
       replace H := Option.bind_eq_some_iff.mp H
       obtain ⟨⟨t244, t245⟩, A260, H⟩ := H
       replace H : (if t237.length + t244.length < 1759218604441 then ((some (t237 ++ t244 : List (S53))).bind fun y248 => (if y248.length < 1759218604441 then (some ((y248 ++ [(⟨wrap64 (4 + (Int.tmod (x8_3 / 16) 3)), (⟨0, 0, (⟨#[]⟩ : ByteArray), false⟩ : S51), (⟨#[]⟩ : ByteArray), (⟨#[]⟩ : ByteArray)⟩ : S53)]), t245)) else (none))) else (none)) = some (r1, r2) := H
       have A26 := As.mk A260
       clear A260
       replace H := ite_some H
       obtain ⟨c27, H⟩ := H
       have LMc27 := As.mk c27
       clear c27
       obtain ⟨y248, hy248⟩ : ∃ y_ : List (S53), y_ = (t237 ++ t244) := ⟨_, rfl⟩
       replace H : (if y248.length < 1759218604441 then (some ((y248 ++ [(⟨wrap64 (4 + (Int.tmod (x8_3 / 16) 3)), (⟨0, 0, (⟨#[]⟩ : ByteArray), false⟩ : S51), (⟨#[]⟩ : ByteArray), (⟨#[]⟩ : ByteArray)⟩ : S53)]), t245)) else (none)) = some (r1, r2) := by first | (rw [hy248]; with_reducible exact H) | (have H2_ := (Option.bind_some _ _).symm.trans H; rw [hy248]; with_reducible exact H2_) | (have H2_ := (Option.bind_some _ _).symm.trans H; with_reducible exact H2_) | with_reducible exact H | (rw [hy248]; exact H) | exact H
       have Ny248 := As.mk hy248
       clear hy248
       replace H := ite_some H
       obtain ⟨c28, H⟩ := H
       have LMc28 := As.mk c28
       clear c28
       obtain ⟨y251, hy251⟩ : ∃ y_ : List (S53), y_ = (y248 ++ [(⟨wrap64 (4 + (Int.tmod (x8_3 / 16) 3)), (⟨0, 0, (⟨#[]⟩ : ByteArray), false⟩ : S51), (⟨#[]⟩ : ByteArray), (⟨#[]⟩ : ByteArray)⟩ : S53)]) := ⟨_, rfl⟩
       replace H : (some (y251, t245)) = some (r1, r2) := by first | (rw [hy251]; with_reducible exact H) | (have H2_ := (Option.bind_some _ _).symm.trans H; rw [hy251]; with_reducible exact H2_) | (have H2_ := (Option.bind_some _ _).symm.trans H; with_reducible exact H2_) | with_reducible exact H | (rw [hy251]; exact H) | exact H
       have Ny251 := As.mk hy251
       clear hy251
       simp only [Option.some.injEq, Prod.mk.injEq] at H
       obtain ⟨rfl, rfl⟩ := H
       go_wp2_with (first | ((with_reducible refine gaC (f := 10) rfl ?_); refine goesL_ (some 56) rfl rfl Tryd.func10 (by kernel_rfl) rfl #[.slice A0 l0.length c0, .int .i64 (wrap64 (a1 + 1)), .int .i64 (wrap64 (a2 - 1))] rfl (by simp only [List.map_toArray, List.map_cons, List.map_nil]; try rfl) ?_; (with_reducible refine (ih kj6 (by have := HJ3.out; have := HJ6.out; omega) _ _ l0 (wrap64 (a1 + 1)) (wrap64 (a2 - 1)) t237 t238 _ ?side1 ?side2 A21.out).mono ?_); (case side1 => repeat (first | exact (Kd.C_below HR0.out HB.out) | (with_reducible refine Kd.C_alloc ?_ _) | (with_reducible refine Kd.C_drewN ?_ _) | (with_reducible refine Kd.C_drew ?_))); (case side2 => exact HC0.out); rintro e w29 ⟨v239, rfl, ho0, hb⟩; refine ⟨_, rfl, ?_⟩; have n0_ := As.mk (Kd.R_lower ho0 (bwZ (by repeat (first | (with_reducible first | exact HB.out | apply bwA | apply bwN | apply bwD) | exact HB.out)))); have n1_ := As.mk (bwS (by repeat (first | (with_reducible first | exact HB.out | apply bwA | apply bwN | apply bwD) | exact HB.out)) hb); clear HB; have HO240 := n0_; have HB := n1_; clear n0_ n1_; (try clear hb); (try clear hb2); (try clear hk); (try clear hi); (try clear ho0)) | ((with_reducible refine gaC (f := 10) rfl ?_); refine goesL_ (some 72) rfl rfl Tryd.func10 (by kernel_rfl) rfl #[.slice A0 l0.length c0, .int .i64 t238, .int .i64 (wrap64 (a2 - 1))] rfl (by simp only [List.map_toArray, List.map_cons, List.map_nil]; try rfl) ?_; (with_reducible refine (ih kj6 (by have := HJ3.out; have := HJ6.out; omega) _ _ l0 t238 (wrap64 (a2 - 1)) t244 t245 _ ?side1 ?side2 A26.out).mono ?_); (case side1 => repeat (first | exact (Kd.C_below HR0.out HB.out) | (with_reducible refine Kd.C_alloc ?_ _) | (with_reducible refine Kd.C_drewN ?_ _) | (with_reducible refine Kd.C_drew ?_))); (case side2 => exact HC0.out); rintro e w30 ⟨v246, rfl, ho0, hb⟩; refine ⟨_, rfl, ?_⟩; have n0_ := As.mk (Kd.R_elder' (by (with_reducible repeat (first | apply Kd.rA | apply Kd.rN | apply Kd.rD)); exact HO240.out) (Kd.R_base ho0) hb); have n1_ := As.mk (Kd.R_lower (Kd.R_new' ho0 (Kd.R_lt (by (with_reducible repeat (first | apply Kd.rA | apply Kd.rN | apply Kd.rD)); exact HO240.out))) (bwZ (by repeat (first | (with_reducible first | exact HB.out | apply bwA | apply bwN | apply bwD) | exact HB.out)))); have n2_ := As.mk (bwS (by repeat (first | (with_reducible first | exact HB.out | apply bwA | apply bwN | apply bwD) | exact HB.out)) hb); clear HO240; clear HB; have HO240 := n0_; have HO247 := n1_; have HB := n2_; clear n0_ n1_ n2_; (try clear hb); (try clear hb2); (try clear hk); (try clear hi); (try clear ho0); obtain ⟨Ao32, co32, eo32⟩ := Kd.R_slice HO247.out; subst eo32) | ((with_reducible refine gaB (b := .append) (xs := #[.tmp 75, .tmp 76]) rfl ?_); at_builtin; refine Kd.R_append_rows k53 (w0 := w) w.heap.size rfl (.tmp 75) (.tmp 76) 23 53 (.agg #[(.int .i64 0), (.int .i64 0), (.int .i64 0), (.string ⟨#[]⟩), (.bool false), (.string ⟨#[]⟩), (.string ⟨#[]⟩)]) 80 rfl Tryd.underlying23 info53 rfl (by decide) (by omega) v239 t237 t244 _ _ _ (fun k_ => some k_ ≠ (.slice Ao32 t244.length co32 : Value).ownBlock) (fun _ => False) rfl rfl ?aO ?aR (fun _ _ h => h) (fun _ h => h.elim) ?aF ?aB ?aS ?aL ?_; (case aR => repeat (first | exact (Kd.R_reads' HO247.out).2.2 | (with_reducible refine Kd.C_alloc ?_ _) | (with_reducible refine Kd.C_drewN ?_ _) | (with_reducible refine Kd.C_drew ?_))); (case aB => exact (by repeat (first | (with_reducible first | exact HB.out | apply bwA | apply bwN | apply bwD) | exact HB.out))); (case aF => exact (fun k_ hk => Kd.fresh' (Kd.R_lt (by (with_reducible repeat (first | apply Kd.rA | apply Kd.rN | apply Kd.rD)); exact HO247.out)) k_ hk)); (case aO => exact (by (with_reducible repeat (first | apply Kd.rA | apply Kd.rN | apply Kd.rD)); exact Kd.R_mono HO240.out (fun _ hk => hk.2))); (case aS => exact (bwZ (by repeat (first | (with_reducible first | exact HB.out | apply bwA | apply bwN | apply bwD) | exact HB.out)))); (case aL => have := LMc27.out; omega); intro v249 w31 ho hb hg hat; rw [← Ny248.out] at ho; have n0_ := As.mk (Kd.R_after (ok := (fun _ => True)) (by (with_reducible repeat (first | apply Kd.rA | apply Kd.rN | apply Kd.rD)); exact HO247.out) hg hat); have n1_ := As.mk (hb); have n2_ := As.mk (ho); clear HO247; clear HB; clear HO240; have HO247 := n0_; have HB := n1_; have HO250 := n2_; clear n0_ n1_ n2_; clear ho hb hg hat) | ((with_reducible refine gaB (b := .append) (xs := #[.tmp 77, .tmp 83]) rfl ?_); at_builtin; refine Kd.R_append k53 (w0 := w) w.heap.size rfl (.tmp 77) (.tmp 83) 23 53 (.agg #[(.int .i64 0), (.int .i64 0), (.int .i64 0), (.string ⟨#[]⟩), (.bool false), (.string ⟨#[]⟩), (.string ⟨#[]⟩)]) 80 rfl Tryd.underlying23 info53 rfl (by decide) (by omega) v249 y248 (⟨wrap64 (4 + (Int.tmod (x8_3 / 16) 3)), (⟨0, 0, (⟨#[]⟩ : ByteArray), false⟩ : S51), (⟨#[]⟩ : ByteArray), (⟨#[]⟩ : ByteArray)⟩ : S53) [.int .i64 (wrap64 (4 + (Int.tmod (x8_3 / 16) 3))), .int .i64 0, .int .i64 0, .string (⟨#[]⟩ : ByteArray), .bool false, .string (⟨#[]⟩ : ByteArray), .string (⟨#[]⟩ : ByteArray)] (fun k_ => some k_ ≠ (.slice Ao32 t244.length co32 : Value).ownBlock) (fun _ => False) rfl rfl ?aP (fun _ hk => hk.elim) ?aF ?aO ?aB ?aS ?aL ?_; (case aP => exact k53_mkM _ _ _ (⟨wrap64 (4 + (Int.tmod (x8_3 / 16) 3)), (⟨0, 0, (⟨#[]⟩ : ByteArray), false⟩ : S51), (⟨#[]⟩ : ByteArray), (⟨#[]⟩ : ByteArray)⟩ : S53)); (case aB => exact (by repeat (first | (with_reducible first | exact HB.out | apply bwA | apply bwN | apply bwD) | exact HB.out))); (case aF => exact (fun k_ hk => Kd.fresh' (Kd.R_lt (by (with_reducible repeat (first | apply Kd.rA | apply Kd.rN | apply Kd.rD)); exact HO247.out)) k_ hk)); (case aO => exact (by (with_reducible repeat (first | apply Kd.rA | apply Kd.rN | apply Kd.rD)); exact HO250.out)); (case aS => exact (bwZ (by repeat (first | (with_reducible first | exact HB.out | apply bwA | apply bwN | apply bwD) | exact HB.out)))); (case aL => have := LMc28.out; omega); intro v252 w33 ho hb hg hat; rw [← Ny251.out] at ho; have n0_ := As.mk (Kd.R_after (ok := (fun _ => True)) (by (with_reducible repeat (first | apply Kd.rA | apply Kd.rN | apply Kd.rD)); exact HO247.out) hg hat); have n1_ := As.mk (hb); have n2_ := As.mk (ho); clear HO247; clear HB; clear HO250; have HO247 := n0_; have HB := n1_; have HO253 := n2_; clear n0_ n1_ n2_; clear ho hb hg hat))
       go_ret2
       exact ⟨_, by first | rfl | (simp [errW_none, errW_some] <;> rfl) | (simp [*, errW_none, errW_some] <;> rfl), by (with_reducible repeat (first | apply Kd.rA | apply Kd.rN | apply Kd.rD)); exact Kd.R_mono HO253.out (fun _ hk => trivial), by repeat (first | (with_reducible first | exact HB.out | apply bwA | apply bwN | apply bwD) | exact HB.out)⟩
end Go.Proofs.YtpijgeijflbmhaaDoor.P

