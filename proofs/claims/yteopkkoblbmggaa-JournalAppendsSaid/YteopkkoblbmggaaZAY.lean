/- Texts of this claim in one: VEnc, VEditsP, RSymP, RPutP, CrcP, VOpen; no condition. -/
import Derived.Test.YteopkkoblbmggaaZAX
import Derived.Test.YteopkkoblbmggaaZAI
import Derived.Test.YteopkkoblbmggaaZAP
import Derived.Test.YteopkkoblbmggaaZAG
import Derived.Test.YteopkkoblbmggaaZAT
import Derived.Test.YteopkkoblbmggaaZAV
import Derived.Test.YteopkkoblbmggaaZAH
import Derived.Test.YteopkkoblbmggaaZAW
import Derived.Test.YteopkkoblbmggaaZAC
import Derived.OpenShut
import Derived.SizedLaws
import Derived.ChangeArms
section
set_option linter.unusedVariables false
set_option linter.unusedSimpArgs false
namespace Go.Proofs.Yteopkkoblbmggaa.P
open Go.RowKit Go.Proofs.YteopkkoblbmggaaW.PrintWords Go.Proofs.YteopkkoblbmggaaW.PrintLast Go.Proofs.YteopkkoblbmggaaW.PrintMore
theorem vs_len : ∀ j u, 0 < (vs j u).length ∧ (vs j u).length ≤ j + 1
  | 0, u => by simp [vs]
  | j + 1, u => by
    have := vs_len j (u / 128)
    simp only [vs]
    split <;> simp <;> omega
theorem zz_uz (u : Int) (h0 : 0 ≤ u) : (zz (uz u) : Int) = u := by unfold uz zz; split <;> split <;> omega
/-- Bytes that end are those of their value. -/
theorem vs_uv : ∀ (b : List Int) (j : Nat), okB b → nb b ≠ 0 → nb b ≤ j + 1 → (1 < nb b → b.getD (nb b - 1) 0 ≠ 0) → b.take (nb b) = vs j (uv (b.take (nb b))).toNat
  | [], j, hb, h0, hj, hl => absurd rfl h0
  | x :: xs, j, hb, h0, hj, hl => by
    have hx := hb x (List.mem_cons_self)
    by_cases h : x < 128
    · have e : nb (x :: xs) = 1 := by simp [nb, h]
      rw [e]
      simp only [List.take_succ_cons, List.take_zero, uv]
      have e2 : (x % 128 + 128 * 0).toNat = x.toNat := by omega
      rw [e2]
      have e3 : ((x.toNat : Nat) : Int) = x := by omega
      cases j with
      | zero => simp [vs, e3]
      | succ j => simp only [vs]; rw [if_pos (by omega), e3]
    · by_cases h1 : nb xs = 0
      · exfalso; apply h0; simp [nb, h, h1]
      · have e : nb (x :: xs) = nb xs + 1 := by simp [nb, h, h1]
        rw [e] at hj hl ⊢
        obtain ⟨j, rfl⟩ : ∃ q, j = q + 1 := ⟨j - 1, by omega⟩
        obtain ⟨q, hq⟩ : ∃ q, nb xs = q + 1 := ⟨nb xs - 1, by omega⟩
        have hl' : xs.getD (nb xs - 1) 0 ≠ 0 := by
          have := hl (by omega)
          rw [Nat.add_sub_cancel, hq, List.getD_cons_succ] at this
          rw [hq]; exact this
        have ih := vs_uv xs j (fun y hy => hb y (List.mem_cons_of_mem _ hy)) h1 (by omega) (fun _ => hl')
        have hle := nb_le xs
        have hU := (uv_bound (xs.take (nb xs))).1
        have hne : uv (xs.take (nb xs)) ≠ 0 := by
          intro c
          rw [c] at ih
          have e1 : vs j (0 : Int).toNat = [0] := by cases j <;> simp [vs]
          rw [e1] at ih
          have hlen : (xs.take (nb xs)).length = 1 := by rw [ih]; rfl
          rw [List.length_take] at hlen
          have hn1 : nb xs = 1 := by omega
          rw [hn1] at hl' ih
          cases xs with
          | nil => exact h1 rfl
          | cons y ys => simp at ih hl'; exact hl' ih
        simp only [List.take_succ_cons, uv, vs]
        rw [if_neg (by omega)]
        have e4 : (x % 128 + 128 * uv (xs.take (nb xs))).toNat / 128 = (uv (xs.take (nb xs))).toNat := by omega
        have e5 : (((x % 128 + 128 * uv (xs.take (nb xs))).toNat % 128 + 128 : Nat) : Int) = x := by omega
        rw [e4, e5, ← ih]
theorem dec_inv (b : List Int) (hb : okB b) (n k : Int) (h : dec b = (n, k, 0)) : b = enc n ++ b.drop k.toNat ∧ okZ n ∧ k = ((enc n).length : Int) ∧ 0 ≤ k ∧ k ≤ b.length := by
  unfold dec at h
  by_cases h0 : nb b = 0
  · rw [if_pos h0] at h; simp at h
  · rw [if_neg h0] at h
    by_cases h1 : 10 < nb b ∨ nb b = 10 ∧ 1 < b.getD 9 0
    · rw [if_pos h1] at h; simp at h
    · rw [if_neg h1] at h
      by_cases h2 : 1 < nb b ∧ b.getD (nb b - 1) 0 = 0
      · rw [if_pos h2] at h; simp at h
      · rw [if_neg h2] at h
        simp only [Prod.mk.injEq, and_true] at h
        obtain ⟨rfl, rfl⟩ := h
        have hle := nb_le b
        have ht := vs_uv b 9 hb h0 (by omega) (fun c d => h2 ⟨c, d⟩)
        have hu0 := (uv_bound (b.take (nb b))).1
        have hu1 := uv_ten b (nb b) hle (by omega) hb (by intro c; omega)
        have e : zz (uz (uv (b.take (nb b)))) = (uv (b.take (nb b))).toNat := by have := zz_uz _ hu0; omega
        have e2 : enc (uz (uv (b.take (nb b)))) = b.take (nb b) := by rw [enc, e, ← ht]
        rw [e2]
        refine ⟨?_, ?_, ?_, by omega, by omega⟩
        · rw [Int.toNat_natCast, List.take_append_drop]
        · unfold okZ uz; split <;> omega
        · rw [List.length_take]; omega
theorem enc_len (n : Int) : 0 < (enc n).length ∧ (enc n).length ≤ 10 := vs_len 9 (zz n)
/-! ### many numbers -/
def encs : List Int → List Int
  | [] => []
  | n :: l => enc n ++ encs l
def okZs (l : List Int) : Prop := ∀ n ∈ l, okZ n
theorem encs_app : ∀ a b, encs (a ++ b) = encs a ++ encs b
  | [], b => rfl
  | n :: a, b => by simp only [List.cons_append, encs, encs_app a b, List.append_assoc]
theorem encs_len : ∀ l, l.length ≤ (encs l).length ∧ (encs l).length ≤ 10 * l.length
  | [] => by simp [encs]
  | n :: l => by
    have := encs_len l
    have := enc_len n
    simp only [encs, List.length_append, List.length_cons]; omega
def dks : Nat → List Int → List Int × List Int × Int
  | 0, l => ([], l, 0)
  | n + 1, l => if (dec l).2.2 = 0 then (if (dks n (l.drop (dec l).2.1.toNat)).2.2 = 0 then ((dec l).1 :: (dks n (l.drop (dec l).2.1.toNat)).1, (dks n (l.drop (dec l).2.1.toNat)).2.1, 0) else ([], [], (dks n (l.drop (dec l).2.1.toNat)).2.2)) else ([], [], (dec l).2.2)
theorem okB_drop (b : List Int) (n : Nat) (h : okB b) : okB (b.drop n) := fun x hx => h x (List.mem_of_mem_drop hx)
theorem dks_inv : ∀ n b l rest, okB b → dks n b = (l, rest, 0) → b = encs l ++ rest ∧ okZs l ∧ l.length = n
  | 0, b, l, rest, hb, h => by
    simp only [dks, Prod.mk.injEq, and_true] at h
    obtain ⟨rfl, rfl⟩ := h
    exact ⟨rfl, fun m hm => by simp at hm, rfl⟩
  | n + 1, b, l, rest, hb, h => by
    simp only [dks] at h
    by_cases h1 : (dec b).2.2 = 0
    · rw [if_pos h1] at h
      by_cases h2 : (dks n (b.drop (dec b).2.1.toNat)).2.2 = 0
      · rw [if_pos h2] at h
        simp only [Prod.mk.injEq, and_true] at h
        obtain ⟨rfl, rfl⟩ := h
        obtain ⟨e1, e2, e3⟩ := dks_inv n (b.drop (dec b).2.1.toNat) _ _ (okB_drop _ _ hb) (by rw [← h2])
        obtain ⟨d1, d2, d3, d4, d5⟩ := dec_inv b hb (dec b).1 (dec b).2.1 (by rw [← h1])
        refine ⟨?_, ?_, ?_⟩
        · rw [encs, List.append_assoc, ← e1]; exact d1
        · intro m hm
          rcases List.mem_cons.mp hm with hm | hm
          · rw [hm]; exact d2
          · exact e2 m hm
        · rw [List.length_cons, e3]
      · rw [if_neg h2] at h
        simp only [Prod.mk.injEq] at h
        exact absurd h.2.2 h2
    · rw [if_neg h1] at h
      simp only [Prod.mk.injEq] at h
      exact absurd h.2.2 h1
theorem dks_err : ∀ n b, (dks n b).2.2 ≠ 0 → (dks n b).1 = [] ∧ (dks n b).2.1 = []
  | 0, b, h => absurd rfl h
  | n + 1, b, h => by
    simp only [dks] at h ⊢
    by_cases h1 : (dec b).2.2 = 0
    · rw [if_pos h1] at h ⊢
      by_cases h2 : (dks n (b.drop (dec b).2.1.toNat)).2.2 = 0
      · rw [if_pos h2] at h; exact absurd rfl h
      · rw [if_neg h2]; exact ⟨rfl, rfl⟩
    · rw [if_neg h1]; exact ⟨rfl, rfl⟩
theorem dec_k (b : List Int) : 0 ≤ (dec b).2.1 ∧ (dec b).2.1 ≤ b.length := by
  have := nb_le b
  unfold dec
  split
  · simp
  · split
    · simp
    · split
      · simp
      · simp; omega
theorem ints_l0 : ∀ (m : Nat) (out l : List Int) (i k : Nat), l.length - i = m → i ≤ l.length → l.length < 1000 → okZs l → out.length + 10 * m + 20 < 140737488355328 → m + 12 ≤ k →
    edits_ints.l0 k out l (l.length : Int) (i : Int) = some (out ++ encs (l.drop i))
  | 0, out, l, i, k, hm, hi, hs, hl, ho, hk => by
    obtain ⟨k, rfl⟩ : ∃ q, k = q + 1 := ⟨k - 1, by omega⟩
    simp only [edits_ints.l0]
    rw [if_neg (by omega), List.drop_eq_nil_of_le (by omega)]
    simp [encs]
  | m + 1, out, l, i, k, hm, hi, hs, hl, ho, hk => by
    obtain ⟨k, rfl⟩ : ∃ q, k = q + 1 := ⟨k - 1, by omega⟩
    obtain ⟨q, rfl⟩ : ∃ q, k = 11 + q := ⟨k - 11, by omega⟩
    have hi' : i < l.length := by omega
    have hz : okZ l[i] := hl _ (List.getElem_mem hi')
    simp only [edits_ints.l0]
    have e : rd l (i : Int) = l[i] := by unfold rd; rw [Int.toNat_natCast, getD_at hi']
    rw [if_pos (by omega), if_pos (by omega), if_pos (by omega), e, putInt_eq q out l[i] hz (by omega), Option.bind_some, wrap_in' _ (by omega) (by omega)]
    have hlen := enc_len l[i]
    rw [show ((i : Int) + 1) = ((i + 1 : Nat) : Int) by omega, ints_l0 m (out ++ enc l[i]) l (i + 1) (11 + q) (by omega) (by omega) hs hl (by rw [List.length_append]; omega) (by omega)]
    rw [List.drop_eq_getElem_cons hi', encs, List.append_assoc]
theorem ints_eq (k : Nat) (out l : List Int) (hs : l.length ≤ 20) (hl : okZs l) (ho : out.length < 1000) (hk : 40 ≤ k) : edits_ints.f k out l = some (out ++ encs l) := by
  unfold edits_ints.f
  have := ints_l0 l.length out l 0 k (by omega) (by omega) (by omega) hl (by omega) (by omega)
  rw [List.drop_zero] at this
  exact this
def headN (a0 a1 a2 a3 a4 : Int) (a5 : Bool) : List Int := [a0, a1, a2, a3, a4, if a5 = true then 1 else 0]
def tailN (a5 : Bool) (a6 a7 a8 a9 a10 a11 a12 : Int) : List Int := if a5 = true then [] else [a6, a7, a8, a9, a10, a11, a12]
/-- The bytes of an edit. -/
def putB (a0 a1 a2 a3 a4 : Int) (a5 : Bool) (a6 a7 a8 a9 a10 a11 a12 : Int) : List Int := encs (headN a0 a1 a2 a3 a4 a5) ++ encs (tailN a5 a6 a7 a8 a9 a10 a11 a12)
def okE (a0 a1 a2 a3 a4 : Int) (a6 a7 a8 a9 a10 a11 a12 : Int) : Prop := okZ a0 ∧ okZ a1 ∧ okZ a2 ∧ okZ a3 ∧ okZ a4 ∧ okZ a6 ∧ okZ a7 ∧ okZ a8 ∧ okZ a9 ∧ okZ a10 ∧ okZ a11 ∧ okZ a12
theorem head_ok {a0 a1 a2 a3 a4 a6 a7 a8 a9 a10 a11 a12 : Int} (a5 : Bool) (h : okE a0 a1 a2 a3 a4 a6 a7 a8 a9 a10 a11 a12) : okZs (headN a0 a1 a2 a3 a4 a5) := by
  obtain ⟨h0, h1, h2, h3, h4, -⟩ := h
  intro n hn
  simp only [headN, List.mem_cons, List.not_mem_nil, or_false] at hn
  rcases hn with rfl | rfl | rfl | rfl | rfl | rfl <;> first | assumption | (split <;> (unfold okZ; omega))
theorem tail_ok {a0 a1 a2 a3 a4 a6 a7 a8 a9 a10 a11 a12 : Int} (a5 : Bool) (h : okE a0 a1 a2 a3 a4 a6 a7 a8 a9 a10 a11 a12) : okZs (tailN a5 a6 a7 a8 a9 a10 a11 a12) := by
  obtain ⟨-, -, -, -, -, h6, h7, h8, h9, h10, h11, h12⟩ := h
  intro n hn
  cases a5
  · simp only [tailN, Bool.false_eq_true, if_false, List.mem_cons, List.not_mem_nil, or_false] at hn
    rcases hn with rfl | rfl | rfl | rfl | rfl | rfl | rfl <;> assumption
  · simp [tailN] at hn
theorem putB_len (a0 a1 a2 a3 a4 : Int) (a5 : Bool) (a6 a7 a8 a9 a10 a11 a12 : Int) : (putB a0 a1 a2 a3 a4 a5 a6 a7 a8 a9 a10 a11 a12).length ≤ 130 := by
  have h1 := (encs_len (headN a0 a1 a2 a3 a4 a5)).2
  have h2 := (encs_len (tailN a5 a6 a7 a8 a9 a10 a11 a12)).2
  have l1 : (headN a0 a1 a2 a3 a4 a5).length = 6 := rfl
  have l2 : (tailN a5 a6 a7 a8 a9 a10 a11 a12).length ≤ 7 := by unfold tailN; split <;> simp
  unfold putB
  rw [List.length_append]
  omega
theorem put_edit_eq (k : Nat) (hk : 40 ≤ k) {a0 a1 a2 a3 a4 a6 a7 a8 a9 a10 a11 a12 : Int} (a5 : Bool) (h : okE a0 a1 a2 a3 a4 a6 a7 a8 a9 a10 a11 a12) :
    edits_Put.f k a0 a1 a2 a3 a4 a5 a6 a7 a8 a9 a10 a11 a12 = some (if chkE a0 a1 a2 a3 a4 a5 a6 a7 a8 a9 a10 a11 a12 = 0 then (putB a0 a1 a2 a3 a4 a5 a6 a7 a8 a9 a10 a11 a12, 0) else ([], chkE a0 a1 a2 a3 a4 a5 a6 a7 a8 a9 a10 a11 a12)) := by
  obtain ⟨h0, h1, h2, h3, h4, h6, h7, h8, h9, h10, h11, h12⟩ := h
  have z0 : okZ 0 := by unfold okZ; omega
  have z1 : okZ 1 := by unfold okZ; omega
  have e1 := ints_eq k [] [a0, a1, a2, a3, a4] (by simp) (by intro n hn; simp only [List.mem_cons, List.not_mem_nil, or_false] at hn; rcases hn with rfl | rfl | rfl | rfl | rfl <;> assumption) (by simp) hk
  have hlen := (encs_len [a0, a1, a2, a3, a4]).2
  have hlen' : (encs [a0, a1, a2, a3, a4]).length ≤ 50 := hlen
  have e2 := ints_eq k (encs [a0, a1, a2, a3, a4]) [1] (by simp) (by intro n hn; simp only [List.mem_cons, List.not_mem_nil, or_false] at hn; rw [hn]; exact z1) (by omega) hk
  have e3 := ints_eq k (encs [a0, a1, a2, a3, a4]) [0, a6, a7, a8, a9, a10, a11, a12] (by simp) (by intro n hn; simp only [List.mem_cons, List.not_mem_nil, or_false] at hn; rcases hn with rfl | rfl | rfl | rfl | rfl | rfl | rfl | rfl <;> assumption) (by omega) hk
  unfold edits_Put.f
  obtain ⟨j, rfl⟩ : ∃ j, k = j + 4 := ⟨k - 4, by omega⟩
  rw [check_eq, Option.bind_some]
  by_cases hc : chkE a0 a1 a2 a3 a4 a5 a6 a7 a8 a9 a10 a11 a12 = 0
  · rw [if_pos hc, if_pos hc, e1, Option.bind_some, List.nil_append]
    cases a5
    · simp only [Bool.false_eq_true, if_false]
      rw [e3, Option.bind_some]
      simp [putB, headN, tailN, encs, List.append_assoc]
    · simp only [if_true]
      rw [e2, Option.bind_some]
      simp [putB, headN, tailN, encs, List.append_assoc]
  · rw [if_neg hc, if_neg hc]
theorem tks_eq (k : Nat) : ∀ (n : Nat) (b : List Int), b.length < 140737488355328 → okB b → b.length + 14 ≤ k → tks k n b = some (dks n b)
  | 0, b, _, _, _ => rfl
  | n + 1, b, hl, hb, hk => by
    have hd := dec_k b
    simp only [tks, dks, takeInt_eq k b hl hb hk, Option.bind_some]
    by_cases h1 : (dec b).2.2 = 0
    · have hdl : (b.drop (dec b).2.1.toNat).length ≤ b.length := by rw [List.length_drop]; omega
      rw [if_pos h1, if_pos h1, if_pos hd.1, if_pos hd.2, tks_eq k n _ (by omega) (okB_drop _ _ hb) (by omega), Option.bind_some]
    · rw [if_neg h1, if_neg h1]
abbrev E14 := Int × Int × Int × Int × Int × Bool × Int × Int × Int × Int × Int × Int × Int × Int
def errE (e : Int) : E14 := (0, 0, 0, 0, 0, false, 0, 0, 0, 0, 0, 0, 0, e)
def endP (a0 a1 a2 a3 a4 : Int) (a5 : Bool) (a6 a7 a8 a9 a10 a11 a12 : Int) (rest : List Int) : E14 :=
  if rest.length = 0 then (if chkE a0 a1 a2 a3 a4 a5 a6 a7 a8 a9 a10 a11 a12 = 0 then (a0, a1, a2, a3, a4, a5, a6, a7, a8, a9, a10, a11, a12, 0) else errE (chkE a0 a1 a2 a3 a4 a5 a6 a7 a8 a9 a10 a11 a12)) else errE 2
theorem end_eq (j : Nat) (a0 a1 a2 a3 a4 : Int) (a5 : Bool) (a6 a7 a8 a9 a10 a11 a12 : Int) (rest : List Int) :
    takeEnd (j + 4) a0 a1 a2 a3 a4 a5 a6 a7 a8 a9 a10 a11 a12 rest = some (endP a0 a1 a2 a3 a4 a5 a6 a7 a8 a9 a10 a11 a12 rest) := by
  unfold takeEnd endP
  rw [check_eq, Option.bind_some]
  split
  · split <;> rfl
  · rfl
/-- What Take says. -/
def takeP (b : List Int) : E14 :=
  if (dks 6 b).2.2 = 0 then
    (if (dks 6 b).1.getD 5 0 = 1 then endP ((dks 6 b).1.getD 0 0) ((dks 6 b).1.getD 1 0) ((dks 6 b).1.getD 2 0) ((dks 6 b).1.getD 3 0) ((dks 6 b).1.getD 4 0) true 0 0 0 0 0 0 0 (dks 6 b).2.1
    else if (dks 6 b).1.getD 5 0 = 0 then
      (if (dks 7 (dks 6 b).2.1).2.2 = 0 then endP ((dks 6 b).1.getD 0 0) ((dks 6 b).1.getD 1 0) ((dks 6 b).1.getD 2 0) ((dks 6 b).1.getD 3 0) ((dks 6 b).1.getD 4 0) false ((dks 7 (dks 6 b).2.1).1.getD 0 0) ((dks 7 (dks 6 b).2.1).1.getD 1 0) ((dks 7 (dks 6 b).2.1).1.getD 2 0) ((dks 7 (dks 6 b).2.1).1.getD 3 0) ((dks 7 (dks 6 b).2.1).1.getD 4 0) ((dks 7 (dks 6 b).2.1).1.getD 5 0) ((dks 7 (dks 6 b).2.1).1.getD 6 0) (dks 7 (dks 6 b).2.1).2.1
      else errE (dks 7 (dks 6 b).2.1).2.2)
    else errE 2)
  else errE (dks 6 b).2.2
theorem take_eq (k : Nat) (b : List Int) (hl : b.length < 140737488355328) (hb : okB b) (hk : b.length + 14 ≤ k) : edits_Take.f k b = some (takeP b) := by
  have e1 := tks_eq k 6 b hl hb hk
  obtain ⟨j, rfl⟩ : ∃ j, k = j + 4 := ⟨k - 4, by omega⟩
  unfold edits_Take.f takeP
  rw [e1, Option.bind_some]
  by_cases h1 : (dks 6 b).2.2 = 0
  · obtain ⟨i1, i2, i3⟩ := dks_inv 6 b (dks 6 b).1 (dks 6 b).2.1 hb (by rw [← h1])
    have hr : (dks 6 b).2.1.length ≤ b.length := by have := congrArg List.length i1; rw [List.length_append] at this; omega
    have hrb : okB (dks 6 b).2.1 := fun x hx => hb x (by rw [i1]; exact List.mem_append_right _ hx)
    have e2 := tks_eq (j + 4) 7 (dks 6 b).2.1 (by omega) hrb (by omega)
    rw [if_pos h1, if_pos h1]
    split
    · rw [end_eq]
    · split
      · rw [e2, Option.bind_some]
        split
        · rw [end_eq]
        · rfl
      · rfl
  · rw [if_neg h1, if_neg h1]; rfl
/-! ### an edit and its bytes -/
theorem column_eq (j : Nat) (k c : Int) (h : ¬ (k < 1 ∨ 4 < k)) : dancestudioref23_column.f (j + 1) k c = some (decide (colP k c)) := by
  unfold dancestudioref23_column.f dancestudioref23_column.j0 colP
  grind
theorem refCheck_1 (j : Nat) (x : Bool) (k c b l d v m : Int) (h1 : ¬ (k < 1 ∨ 4 < k)) (hc : 0 ≤ c ∧ c ≤ 8) : dancestudioref23_Check.j1 (j + 2) x k c b l d v m = some (if x = true then 1 else sayC k c d v m) := by
  simp only [dancestudioref23_Check.j1, sayC]
  rw [wrap_in (c - 2) (by omega) (by omega)]
  cases x with
  | true => simp
  | false =>
    simp only [if_neg (show ¬ (false = true) by decide)]
    by_cases k1 : k = 1
    · rw [if_pos k1, if_pos k1]
      have e : dancestudioref16_Check.f d v = some (if 0 ≤ d ∧ d ≤ 8 ∧ -1 ≤ v ∧ v ≤ 1 then 0 else 1) := dancestudioref18_Of.dcheck_eq d v
      rw [e, Option.bind_some]
      by_cases h : 0 ≤ d ∧ d ≤ 8 ∧ -1 ≤ v ∧ v ≤ 1
      · rw [if_pos h, if_pos h, if_pos rfl]; split <;> rfl
      · rw [if_neg h, if_neg h, if_neg (by decide)]
    · rw [if_neg k1, if_neg k1]
      by_cases k3 : k = 3
      · rw [if_pos k3, if_neg (by omega), if_pos k3]
        simp only [dancestudioref18_Of.f, Option.bind_some]
      · rw [if_neg k3, if_neg k3]
        simp only [dancestudioref23_Check.j2]
        by_cases k2 : k = 2
        · by_cases h : d = 0 <;> by_cases h' : v = 0 <;> by_cases h'' : m = 0 <;> simp [h, h', h'', k2]
        · have k4 : k = 4 := by omega
          by_cases h : d = 0 <;> by_cases h' : v = 0 <;> simp [k4, h, h']
          by_cases a : m < -16 <;> by_cases a' : 16 < m <;> by_cases a'' : m = 0 <;> simp [a, a', a'']
theorem refCheck_j (j : Nat) (x : Bool) (k c b l d v m : Int) (hx : x = false) (h1 : ¬ (k < 1 ∨ 4 < k)) : dancestudioref23_Check.j0 (j + 3) x k c b l d v m = some (chkP k c b l d v m) := by
  subst hx
  simp only [dancestudioref23_Check.j0, chkP, if_neg h1]
  rw [column_eq (j + 1) k c h1, if_neg (by decide)]
  simp only [Option.bind_some, decide_eq_true_eq]
  by_cases h2 : colP k c
  · have hc : 0 ≤ c ∧ c ≤ 8 := by unfold colP at h2; grind
    rw [if_pos h2, if_neg (not_not_intro h2), refCheck_1 j _ k c b l d v m h1 hc, refCheck_1 j _ k c b l d v m h1 hc]
    by_cases h3 : b < 0 ∨ 8191 < b
    · rw [if_pos (by omega : b < 0 ∨ 8191 < b ∨ l < 1 ∨ 8192 - b < l)]
      rcases h3 with h3 | h3
      · rw [if_pos h3]; rfl
      · rw [if_neg (by omega), if_pos (by omega)]; rfl
    · rw [wrap_in (8192 - b) (by omega) (by omega), if_neg (by omega), if_neg (by omega)]
      by_cases h4 : l < 1 ∨ 8192 - b < l
      · rw [if_pos (by omega : b < 0 ∨ 8191 < b ∨ l < 1 ∨ 8192 - b < l)]
        rcases h4 with h4 | h4
        · rw [if_pos h4]; rfl
        · by_cases h5 : l < 1
          · rw [if_pos h5]; rfl
          · rw [if_neg h5, if_pos (by simpa using h4)]
      · rw [if_neg (by omega), if_neg (by simp; omega), if_neg (by omega : ¬ (b < 0 ∨ 8191 < b ∨ l < 1 ∨ 8192 - b < l))]
  · rw [if_neg h2, if_pos h2]
theorem refCheck_eq (j : Nat) (k c b l d v m : Int) : dancestudioref23_Check.f (j + 3) k c b l d v m = some (chkP k c b l d v m) := by
  unfold dancestudioref23_Check.f
  by_cases h1 : k < 1 ∨ 4 < k
  · have e : chkP k c b l d v m = 9 := by rw [chkP, if_pos h1]
    rw [e]
    rcases h1 with h1 | h1
    · rw [if_pos h1]; simp [dancestudioref23_Check.j0]
    · rw [if_neg (by omega)]; simp [dancestudioref23_Check.j0, h1]
  · rw [if_neg (by omega)]
    exact refCheck_j j _ k c b l d v m (by simp; omega) h1
theorem rvalid_eq' (c d : Int) : dancestudioref56_Valid.f c d = some (valP c d) := by
  unfold dancestudioref56_Valid.f valP
  by_cases h1 : 1 ≤ c <;> by_cases h2 : c ≤ 1000000 <;> by_cases h3 : 1 ≤ d <;> by_cases h4 : d ≤ 64 <;> simp [h1, h2, h3, h4, GE.ge]
theorem rless_eq (a b c d : Int) : dancestudioref56_Less.f a b c d = some (lessP a b c d) := by
  unfold dancestudioref56_Less.f lessP
  by_cases h2 : a = c
  · simp [h2]
  · simp [h2]
theorem rchk_j0 (j : Nat) (x : Bool) (a0 a1 a2 a3 a4 : Int) (a5 : Bool) (a6 a7 a8 a9 a10 a11 a12 : Int) :
    dancestudioref56_Check.j0 (j + 5) x a0 a1 a2 a3 a4 a5 a6 a7 a8 a9 a10 a11 a12 = some (if x = true then 43 else if a2 < 0 ∨ 12 ≤ a2 then 33
      else if a5 = true then (if a6 = 0 ∧ a7 = 0 ∧ a8 = 0 ∧ a9 = 0 ∧ a10 = 0 ∧ a11 = 0 ∧ a12 = 0 then 0 else 2) else chkP a6 a7 a8 a9 a10 a11 a12) := by
  have e := chk_j0 (j + 1) x a0 a1 a2 a3 a4 a5 a6 a7 a8 a9 a10 a11 a12
  rw [← e]
  simp only [dancestudioref56_Check.j0, dancestudioref56_Check.j1, edits_Check.j0, edits_Check.j1, symCheck_eq, refCheck_eq]
theorem rcheck_eq (j : Nat) (a0 a1 a2 a3 a4 : Int) (a5 : Bool) (a6 a7 a8 a9 a10 a11 a12 : Int) :
    dancestudioref56_Check.f (j + 5) a0 a1 a2 a3 a4 a5 a6 a7 a8 a9 a10 a11 a12 = some (chkE a0 a1 a2 a3 a4 a5 a6 a7 a8 a9 a10 a11 a12) := by
  unfold dancestudioref56_Check.f chkE
  simp only [rvalid_eq', rless_eq, Option.bind_some, rchk_j0]
  cases h1 : valP a0 a1 <;> cases h2 : valP a3 a4 <;> cases h3 : lessP a0 a1 a3 a4 <;> simp
theorem rput_l0 : ∀ (j i u : Nat) (out : List Int), u < 128 ^ (j + 1) → u < 18446744073709551616 → out.length + j < 140737488355328 → dancestudioref07_PutInt.l0 (j + 1 + i) out (u : Int) = some (out ++ vs j u)
  | 0, i, u, out, hu, hu2, ho => by
    rw [show 0 + 1 + i = i + 1 by omega]
    have h1 : u < 128 := by simpa using hu
    simp only [dancestudioref07_PutInt.l0, vs]
    rw [if_neg (by omega), if_pos (by omega), show (u : Int) % 256 = u by omega]
  | j + 1, i, u, out, hu, hu2, ho => by
    rw [show j + 1 + 1 + i = (j + 1 + i) + 1 by omega]
    simp only [dancestudioref07_PutInt.l0, vs]
    by_cases h : u < 128
    · rw [if_neg (by omega), if_pos (by omega), if_pos h, show (u : Int) % 256 = u by omega]
    · have e1 : Int.tmod (u : Int) 128 = (u : Int) % 128 := Int.tmod_eq_emod_of_nonneg (by omega)
      have e2 : Int.tdiv (u : Int) 128 = (u : Int) / 128 := Int.tdiv_eq_ediv_of_nonneg (by omega)
      rw [if_pos (by omega), if_pos (by omega), if_neg h, e1, e2, u64_eq, u64_eq, show ((u : Int) / 128) % 18446744073709551616 = ((u / 128 : Nat) : Int) by omega]
      rw [rput_l0 j i (u / 128) _ (by rw [Nat.pow_succ] at hu; omega) (by omega) (by simp; omega)]
      rw [List.append_assoc]
      have e : ((u : Int) % 128 + 128) % 18446744073709551616 % 256 = ((u % 128 + 128 : Nat) : Int) := by omega
      rw [e]; rfl
theorem rcode_eq (n : Int) (hn : okZ n) : dancestudioref07_code.f n = some (zz n : Int) := by
  unfold okZ at hn
  unfold dancestudioref07_code.f zz
  by_cases h : n < 0
  · rw [if_pos h, if_pos h, wrap_in' (n + 1) (by omega) (by omega), wrap_in' _ (by omega) (by omega)]
    simp only [u64_eq, Option.some.injEq]
    omega
  · rw [if_neg h, if_neg h]
    simp only [u64_eq, Option.some.injEq]
    omega
theorem rputInt_eq (j : Nat) (out : List Int) (n : Int) (hn : okZ n) (ho : out.length + 20 < 140737488355328) : dancestudioref07_PutInt.f (10 + j) out n = some (out ++ enc n) := by
  have hz := zz_lt n hn
  unfold dancestudioref07_PutInt.f enc
  simp only [Option.bind_some, List.length_nil, List.nil_append]
  rw [if_pos (by omega), rcode_eq n hn, Option.bind_some]
  exact rput_l0 9 j (zz n) out (by omega) hz (by omega)
theorem rput_loop : ∀ (m : Nat) (out l : List Int) (i k : Nat), l.length - i = m → i ≤ l.length → l.length < 1000 → okZs l → out.length + 10 * m + 20 < 140737488355328 → m + 12 ≤ k →
    dancestudioref56_Put.l0 k out l (i : Int) = some (out ++ encs (l.drop i), 0)
  | 0, out, l, i, k, hm, hi, hs, hl, ho, hk => by
    obtain ⟨k, rfl⟩ : ∃ q, k = q + 1 := ⟨k - 1, by omega⟩
    simp only [dancestudioref56_Put.l0]
    rw [if_neg (by omega), List.drop_eq_nil_of_le (by omega)]
    simp [encs]
  | m + 1, out, l, i, k, hm, hi, hs, hl, ho, hk => by
    obtain ⟨k, rfl⟩ : ∃ q, k = q + 1 := ⟨k - 1, by omega⟩
    obtain ⟨q, rfl⟩ : ∃ q, k = 10 + q := ⟨k - 10, by omega⟩
    have hi' : i < l.length := by omega
    have hz : okZ l[i] := hl _ (List.getElem_mem hi')
    simp only [dancestudioref56_Put.l0]
    have e : rd l (i : Int) = l[i] := by unfold rd; rw [Int.toNat_natCast, getD_at hi']
    rw [if_pos (by omega), if_pos (by omega), e, rputInt_eq q out l[i] hz (by omega), Option.bind_some, wrap_in' _ (by omega) (by omega)]
    have hlen := enc_len l[i]
    rw [show ((i : Int) + 1) = ((i + 1 : Nat) : Int) by omega, rput_loop m (out ++ enc l[i]) l (i + 1) (10 + q) (by omega) (by omega) hs hl (by rw [List.length_append]; omega) (by omega)]
    rw [List.drop_eq_getElem_cons hi', encs, List.append_assoc]
theorem rnumbers_eq (a0 a1 a2 a3 a4 : Int) (a5 : Bool) (a6 a7 a8 a9 a10 a11 a12 : Int) : dancestudioref56_numbers.f a0 a1 a2 a3 a4 a5 a6 a7 a8 a9 a10 a11 a12 = some (headN a0 a1 a2 a3 a4 a5 ++ tailN a5 a6 a7 a8 a9 a10 a11 a12) := by
  unfold dancestudioref56_numbers.f headN tailN
  cases a5 <;> simp
theorem rput_edit_eq (k : Nat) (hk : 40 ≤ k) {a0 a1 a2 a3 a4 a6 a7 a8 a9 a10 a11 a12 : Int} (a5 : Bool) (h : okE a0 a1 a2 a3 a4 a6 a7 a8 a9 a10 a11 a12) :
    dancestudioref56_Put.f k a0 a1 a2 a3 a4 a5 a6 a7 a8 a9 a10 a11 a12 = some (if chkE a0 a1 a2 a3 a4 a5 a6 a7 a8 a9 a10 a11 a12 = 0 then (putB a0 a1 a2 a3 a4 a5 a6 a7 a8 a9 a10 a11 a12, 0) else ([], chkE a0 a1 a2 a3 a4 a5 a6 a7 a8 a9 a10 a11 a12)) := by
  unfold dancestudioref56_Put.f
  obtain ⟨j, rfl⟩ : ∃ j, k = j + 5 := ⟨k - 5, by omega⟩
  rw [rcheck_eq, Option.bind_some]
  by_cases hc : chkE a0 a1 a2 a3 a4 a5 a6 a7 a8 a9 a10 a11 a12 = 0
  · rw [if_pos hc, if_pos hc, rnumbers_eq, Option.bind_some]
    have hz : okZs (headN a0 a1 a2 a3 a4 a5 ++ tailN a5 a6 a7 a8 a9 a10 a11 a12) := by
      intro n hn
      rcases List.mem_append.mp hn with hn | hn
      · exact head_ok a5 h n hn
      · exact tail_ok a5 h n hn
    have hlen : (headN a0 a1 a2 a3 a4 a5 ++ tailN a5 a6 a7 a8 a9 a10 a11 a12).length ≤ 13 := by unfold headN tailN; cases a5 <;> simp
    have e := rput_loop _ [] (headN a0 a1 a2 a3 a4 a5 ++ tailN a5 a6 a7 a8 a9 a10 a11 a12) 0 (j + 5) rfl (by omega) (by omega) hz (by rw [List.length_nil]; omega) (by omega)
    rw [List.drop_zero, List.nil_append, encs_app] at e
    exact e
  · rw [if_neg hc, if_neg hc]
/-- One bit, eight bits, a byte, bytes. -/
def st1 (x : Int) : Int := if Go.bits .and .u32 x 1 = 1 then Go.bits .xor .u32 (x / 2) 2197175160 else x / 2
def stN : Nat → Int → Int
  | 0, x => x
  | n + 1, x => stN n (st1 x)
def crcL : Int → List Int → Int
  | r, [] => r
  | r, c :: t => crcL (stN 8 (Go.bits .xor .u32 r (c % 4294967296))) t
def crcE (s : Int) (b : List Int) : Int := Go.bits .xor .u32 4294967295 (crcL (Go.bits .xor .u32 4294967295 s) b)
theorem crcE_range (s : Int) (b : List Int) : 0 ≤ crcE s b ∧ crcE s b < 4294967296 := by
  unfold crcE Go.bits
  rw [IntKind.wrap_u32]
  omega
theorem rd_at8 {b : List Int} {i : Nat} (h : i < b.length) : rd b (i : Int) = b[i] := by
  unfold rd; rw [Int.toNat_natCast, List.getD_eq_getElem?_getD, List.getElem?_eq_getElem h, Option.getD_some]
theorem ext_l1 (l : List Int) (n i : Int) : ∀ (m : Nat) (x j : Int) (k : Nat), 0 ≤ j → j + m = 8 → crc_Extend.l1 (k + m + 1) x l n i j = crc_Extend.l0 k (stN m x) l n (wrap64 (i + 1))
  | 0, x, j, k, h0, hj => by
    unfold crc_Extend.l1
    rw [if_neg (by omega)]
    rfl
  | m + 1, x, j, k, h0, hj => by
    rw [show k + (m + 1) + 1 = (k + m + 1) + 1 by omega]
    unfold crc_Extend.l1
    rw [if_pos (by omega), show wrap64 (j + 1) = j + 1 by unfold wrap64; omega]
    unfold stN st1
    by_cases h : Go.bits .and .u32 x 1 = 1
    · rw [if_pos h, if_pos h, ext_l1 l n i m _ _ _ (by omega) (by omega)]
    · rw [if_neg h, if_neg h, ext_l1 l n i m _ _ _ (by omega) (by omega)]
theorem ext_l0 (l : List Int) (hl : l.length < 140737488355328) : ∀ (m i k : Nat) (r : Int), l.length - i = m → i ≤ l.length → 10 * m + 1 ≤ k → crc_Extend.l0 k r l (l.length : Int) (i : Int) = some (Go.bits .xor .u32 4294967295 (crcL r (l.drop i)))
  | 0, i, k, r, hm, hi, hk => by
    obtain ⟨k, rfl⟩ : ∃ j, k = j + 1 := ⟨k - 1, by omega⟩
    unfold crc_Extend.l0
    rw [if_neg (by omega), List.drop_of_length_le (by omega)]
    rfl
  | m + 1, i, k, r, hm, hi, hk => by
    obtain ⟨k, rfl⟩ : ∃ j, k = (j + 8 + 1) + 1 := ⟨k - 10, by omega⟩
    have hlt : i < l.length := by omega
    unfold crc_Extend.l0
    rw [if_pos (by omega), if_pos (by omega), if_pos (by omega), ext_l1 l _ _ 8 _ 0 k (by omega) (by omega), show wrap64 ((i : Int) + 1) = ((i + 1 : Nat) : Int) by unfold wrap64; omega,
      ext_l0 l hl m (i + 1) k _ (by omega) (by omega) (by omega), List.drop_eq_getElem_cons hlt, rd_at8 hlt]
    rfl
theorem ext_eq (k : Nat) (s : Int) (l : List Int) (hl : l.length < 140737488355328) (hk : 10 * l.length + 1 ≤ k) : crc_Extend.f k s l = some (crcE s l) := by
  unfold crc_Extend.f crcE
  have := ext_l0 l hl l.length 0 k (Go.bits .xor .u32 4294967295 s) (by omega) (by omega) hk
  rw [List.drop_zero] at this
  exact this
theorem sum_eq (k : Nat) (l : List Int) (hl : l.length < 140737488355328) (hk : 10 * l.length + 1 ≤ k) : crc_Sum.f k l = some (crcE 0 l) := by
  unfold crc_Sum.f
  rw [ext_eq k 0 l hl hk]
  rfl
theorem rext_l1 (l : List Int) (i : Int) : ∀ (m : Nat) (x j : Int) (k : Nat), 0 ≤ j → j + m = 8 → dancestudioref08_Extend.l1 (k + m + 1) l x i j = dancestudioref08_Extend.l0 k l (stN m x) (wrap64 (i + 1))
  | 0, x, j, k, h0, hj => by
    unfold dancestudioref08_Extend.l1
    rw [if_neg (by omega)]
    rfl
  | m + 1, x, j, k, h0, hj => by
    rw [show k + (m + 1) + 1 = (k + m + 1) + 1 by omega]
    unfold dancestudioref08_Extend.l1
    rw [if_pos (by omega), show wrap64 (j + 1) = j + 1 by unfold wrap64; omega]
    unfold stN st1
    by_cases h : Go.bits .and .u32 x 1 = 1
    · rw [if_pos h, if_pos h, rext_l1 l i m _ _ _ (by omega) (by omega)]
    · rw [if_neg h, if_neg h, rext_l1 l i m _ _ _ (by omega) (by omega)]
theorem rext_l0 (l : List Int) (hl : l.length < 140737488355328) : ∀ (m i k : Nat) (r : Int), l.length - i = m → i ≤ l.length → 10 * m + 1 ≤ k → dancestudioref08_Extend.l0 k l r (i : Int) = some (Go.bits .xor .u32 4294967295 (crcL r (l.drop i)))
  | 0, i, k, r, hm, hi, hk => by
    obtain ⟨k, rfl⟩ : ∃ j, k = j + 1 := ⟨k - 1, by omega⟩
    unfold dancestudioref08_Extend.l0
    rw [if_neg (by omega), List.drop_of_length_le (by omega)]
    rfl
  | m + 1, i, k, r, hm, hi, hk => by
    obtain ⟨k, rfl⟩ : ∃ j, k = (j + 8 + 1) + 1 := ⟨k - 10, by omega⟩
    have hlt : i < l.length := by omega
    unfold dancestudioref08_Extend.l0
    rw [if_pos (by omega), if_pos (by omega), rext_l1 l _ 8 _ 0 k (by omega) (by omega), show wrap64 ((i : Int) + 1) = ((i + 1 : Nat) : Int) by unfold wrap64; omega,
      rext_l0 l hl m (i + 1) k _ (by omega) (by omega) (by omega), List.drop_eq_getElem_cons hlt, rd_at8 hlt]
    rfl
theorem rext_eq (k : Nat) (s : Int) (l : List Int) (hl : l.length < 140737488355328) (hk : 10 * l.length + 1 ≤ k) : dancestudioref08_Extend.f k s l = some (crcE s l) := by
  unfold dancestudioref08_Extend.f crcE
  have := rext_l0 l hl l.length 0 k (Go.bits .xor .u32 4294967295 s) (by omega) (by omega) hk
  rw [List.drop_zero] at this
  exact this
theorem rsum_eq (k : Nat) (l : List Int) (hl : l.length < 140737488355328) (hk : 10 * l.length + 1 ≤ k) : dancestudioref08_Sum.f k l = some (crcE 0 l) := by
  unfold dancestudioref08_Sum.f
  rw [rext_eq k 0 l hl hk]
  rfl
/-- The four bytes of a checksum. -/
def fourP (n : Int) : List Int := [n % 256, n / 256 % 256, n / 65536 % 256, n / 16777216 % 256]
theorem and255 (x : Int) (h0 : 0 ≤ x) (h1 : x < 4294967296) : Go.bits .and .u32 x 255 = x % 256 := bits_mask .u32 32 (by decide) (fun n a b => by rw [IntKind.wrap_u32]; omega) 8 (by decide) x h0 h1
theorem four_eq (n : Int) (h0 : 0 ≤ n) (h1 : n < 4294967296) : dancestudioref08_four.f n = some (fourP n) := by
  unfold dancestudioref08_four.f fourP
  rw [and255 n h0 h1, and255 _ (by omega) (by omega), and255 _ (by omega) (by omega)]
  simp
/-- The frame of a content. -/
def frameB (c : List Int) : List Int := enc (c.length : Int) ++ (fourP (crcE (crcE 0 (enc (c.length : Int))) c) ++ c)
theorem okZ_len (c : List Int) (h : c.length ≤ 65536) : okZ (c.length : Int) := by unfold okZ; omega
theorem frame_loop (k : Nat) (c h : List Int) (s : Int) (hc : c.length ≤ 65536) (hh : h.length ≤ 10) (hk : 5 ≤ k) : crc_Frame.l0 k c h s 0 = some (h ++ (fourP s ++ c), 0) := by
  obtain ⟨k, rfl⟩ : ∃ j, k = j + 5 := ⟨k - 5, by omega⟩
  rw [show k + 5 = (k + 4) + 1 by omega]
  unfold crc_Frame.l0
  rw [if_pos (by decide), show wrap64 (8 * 0) = 0 by unfold wrap64; omega, if_pos (by decide), if_pos (by omega), show wrap64 (0 + 1) = 1 by unfold wrap64; omega]
  rw [show k + 4 = (k + 3) + 1 by omega]
  unfold crc_Frame.l0
  rw [if_pos (by decide), show wrap64 (8 * 1) = 8 by unfold wrap64; omega, if_pos (by decide), if_pos (by simp; omega), show wrap64 (1 + 1) = 2 by unfold wrap64; omega]
  rw [show k + 3 = (k + 2) + 1 by omega]
  unfold crc_Frame.l0
  rw [if_pos (by decide), show wrap64 (8 * 2) = 16 by unfold wrap64; omega, if_pos (by decide), if_pos (by simp; omega), show wrap64 (2 + 1) = 3 by unfold wrap64; omega]
  rw [show k + 2 = (k + 1) + 1 by omega]
  unfold crc_Frame.l0
  rw [if_pos (by decide), show wrap64 (8 * 3) = 24 by unfold wrap64; omega, if_pos (by decide), if_pos (by simp; omega), show wrap64 (3 + 1) = 4 by unfold wrap64; omega]
  unfold crc_Frame.l0
  rw [if_neg (by decide), if_pos (by simp; omega)]
  have t0 : shr .u32 s 0 = s := by unfold shr; simp
  have t1 : shr .u32 s 8 = s / 256 := by unfold shr; rfl
  have t2 : shr .u32 s 16 = s / 65536 := by unfold shr; rfl
  have t3 : shr .u32 s 24 = s / 16777216 := by unfold shr; rfl
  rw [t0, t1, t2, t3]
  unfold fourP
  simp
theorem frame_eq (k : Nat) (c : List Int) (hc : c.length ≤ 65536) (hk : 10 * c.length + 200 ≤ k) : crc_Frame.f k c = some (frameB c, 0) := by
  obtain ⟨j, hj⟩ : ∃ j, k = 11 + j := ⟨k - 11, by omega⟩
  have hel := (enc_len (c.length : Int)).2
  unfold crc_Frame.f
  rw [if_neg (by omega), hj, putInt_eq j [] _ (okZ_len c hc) (by simp), ← hj, Option.bind_some, List.nil_append, sum_eq k _ (by omega) (by omega), Option.bind_some, ext_eq k _ _ (by omega) (by omega), Option.bind_some, frame_loop k c _ _ hc hel (by omega)]
  rfl
theorem rframe_eq (k : Nat) (c : List Int) (hc : c.length ≤ 65536) (hk : 10 * c.length + 200 ≤ k) : dancestudioref08_Frame.f k c = some (frameB c, 0) := by
  obtain ⟨j, hj⟩ : ∃ j, k = 10 + j := ⟨k - 10, by omega⟩
  have hel := (enc_len (c.length : Int)).2
  unfold dancestudioref08_Frame.f
  rw [if_neg (by omega), hj, rputInt_eq j [] _ (okZ_len c hc) (by simp), ← hj, Option.bind_some, List.nil_append, rsum_eq k _ (by omega) (by omega), Option.bind_some, rext_eq k _ _ (by omega) (by omega), Option.bind_some]
  have hr := crcE_range (crcE 0 (enc (c.length : Int))) c
  rw [if_pos (by simp; omega), Option.bind_some, List.nil_append, four_eq _ hr.1 hr.2, Option.bind_some, if_pos (by simp [fourP]; omega), Option.bind_some, if_pos (by simp [fourP]; omega)]
  unfold frameB
  rw [List.append_assoc]
end Go.Proofs.Yteopkkoblbmggaa.P
end
section
set_option linter.unusedVariables false
namespace Go.Proofs.Yteopkkoblbmggaa.Open
open Go.ChangeShapes Go.WideShapes Go.RowKit Go.Proofs.YteopkkoblbmggaaW.PrintWords
/-- Whatever reads as data of the type t is a value of the kind d that is ok. -/
def Opens {α : Type} (P : Program) (t : TypeId) (d : Kd α) (ok : α → Prop) : Prop :=
  P.cellsOf t = d.sz ∧ ∀ (H : Type) (enc : TypeId × Value → H) (w : World) (sp : Nat → Bool) (hd : Bool) (fuel : Nat) (cs : List Value) (x : DataW H × List MemPlace),
    DataW.trod enc P w 0 sp hd fuel t cs = some x → (∀ n ∈ x.1.weights P t, n ≤ 140737488351232) → ∃ a, d.K w a cs ∧ ok a

/-- What an int may be. -/
def okI (n : Int) : Prop := -9223372036854775808 ≤ n ∧ n ≤ 9223372036854775807
theorem opens_i64 {P : Program} {t : TypeId} (ht : P.underlying t = some (.int .i64)) (hc : P.cellsOf t = 1) : Opens P t (Kd.int .i64) okI :=
  ⟨hc, fun H enc w sp hd fuel cs x h _ => by
    obtain ⟨n, rfl, _, hw⟩ := DataW.trod_int ht h
    exact ⟨n, rfl, bounds_i64 hw⟩⟩
theorem opens_u8 {P : Program} {t : TypeId} (ht : P.underlying t = some (.int .u8)) (hc : P.cellsOf t = 1) : Opens P t (Kd.int .u8) (fun n => 0 ≤ n ∧ n ≤ 255) :=
  ⟨hc, fun H enc w sp hd fuel cs x h _ => by
    obtain ⟨n, rfl, _, hw⟩ := DataW.trod_int ht h
    exact ⟨n, rfl, bounds_u8 hw⟩⟩
theorem opens_bool {P : Program} {t : TypeId} (ht : P.underlying t = some .bool) (hc : P.cellsOf t = 1) : Opens P t Kd.bool (fun _ => True) :=
  ⟨hc, fun H enc w sp hd fuel cs x h _ => by
    obtain ⟨n, rfl, _⟩ := DataW.trod_bool ht h
    exact ⟨n, rfl, trivial⟩⟩
theorem weightsAll_mem {H : Type} {P : Program} {e : TypeId} {n : Nat} : ∀ {ds : List (DataW H)} {d : DataW H}, d ∈ ds → n ∈ d.weights P e → n ∈ DataW.weightsAll P e ds
  | d0 :: ds, d, hd, hn => by
    rw [DataW.weightsAll, List.mem_append]
    rcases List.mem_cons.1 hd with rfl | hd
    · exact .inl hn
    · exact .inr (weightsAll_mem hd hn)
theorem opens_slice {α : Type} {P : Program} {t e : TypeId} {d : Kd α} {ok : α → Prop} (ht : P.underlying t = some (.slice e)) (hc : P.cellsOf t = 1) {B : Nat} (hB : P.bytesOf e = B) (ho : Opens P e d ok) :
    Opens P t (Kd.slice e d) (fun xs => xs.length ≤ maxLen ∧ xs.length * B ≤ 140737488351232 ∧ ∀ a ∈ xs, ok a) := by
  refine ⟨hc, fun H enc w sp hd fuel cs x h hw => ?_⟩
  rcases DataW.trod_slice ht h with ⟨rfl, _⟩ | ⟨a, len, cap, elems, rest, n, _, rfl, rfl, _, hlc, hcm, hel, helem, _, _⟩
  · exact ⟨[], ⟨none, 0, rfl, Nat.le_refl _, Kd.C_nil d w⟩, by simp, by simp, by simp⟩
  · have hwt : ∀ m ∈ (elems.length + rest.length) * P.bytesOf e :: (DataW.weightsAll P e (elems.map (·.1)) ++ DataW.weightsAll P e (rest.map (·.1))), m ≤ 140737488351232 := by
      intro m hm
      refine hw m ?_
      simp only [DataW.weights, ht, List.length_map]
      exact hm
    have key : ∀ i : Fin len, ∃ p : α, ok p ∧ ∃ c : List Value, c.length = d.sz ∧ d.K w p c ∧ ∀ j u, c[j]? = some u → w.cell? (a.add (i.1 * d.sz + j)) = some u := by
      intro i
      have hi := helem i.1 i.2
      have hlt : i.1 < elems.length := by have := i.2; omega
      rw [List.getElem?_eq_getElem hlt] at hi
      obtain ⟨c, hc1, hc2⟩ := Option.bind_eq_some_iff.1 hi
      obtain ⟨_, hl, hcell⟩ := World.cells?_some hc1
      obtain ⟨p, hp, hok⟩ := ho.2 H enc w sp hd n c _ hc2 (fun m hm => hwt m (List.mem_cons_of_mem _ (List.mem_append_left _ (weightsAll_mem (List.mem_map.2 ⟨_, List.getElem_mem hlt, rfl⟩) hm))))
      refine ⟨p, hok, c, by rw [hl, ho.1], hp, fun j u hu => ?_⟩
      have hj : j < P.cellsOf e := by rw [← hl]; exact (List.getElem?_eq_some_iff.1 hu).1
      have hh := hcell j hj
      rw [hu, Addr.add_add, ho.1] at hh
      exact hh
    have hlen : (List.ofFn fun i : Fin len => Classical.choose (key i)).length = len := List.length_ofFn
    have hmx : len ≤ 9223372036854775807 := by unfold maxLen at hcm; omega
    refine ⟨List.ofFn fun i : Fin len => Classical.choose (key i), ⟨some a, cap, by rw [hlen], by rw [hlen]; exact hlc, ?_⟩, by rw [hlen]; unfold maxLen at hcm ⊢; omega, ?_, ?_⟩
    · refine ⟨rfl, by rw [hlen]; exact hmx, fun _ => ⟨a, rfl, fun j p hp => ?_⟩⟩
      rw [List.getElem?_ofFn] at hp
      split at hp
      · rename_i hj
        injection hp with hp
        subst hp
        exact (Classical.choose_spec (key ⟨j, hj⟩)).2
      · cases hp
    · rw [hlen, ← hB]
      have := hwt _ List.mem_cons_self
      exact Nat.le_trans (Nat.mul_le_mul_right _ (by omega)) this
    · intro p hp
      obtain ⟨i, rfl⟩ := List.mem_ofFn.1 hp
      exact (Classical.choose_spec (key i)).1

/-- Some fields in line, from a place on. -/
def OpensF {α : Type} (P : Program) (fs : List Field) (o : Nat) (d : Kd α) (ok : α → Prop) : Prop :=
  ∀ (H : Type) (enc : TypeId × Value → H) (w : World) (sp : Nat → Bool) (hd : Bool) (fuel : Nat) (cs : List Value) (ys : List (DataW H × List MemPlace)),
    ys.length = fs.length → (∀ (i : Nat) (f : Field), fs[i]? = some f → DataW.trod enc P w 0 sp hd fuel f.type ((cs.drop f.offset).take (P.cellsOf f.type)) = ys[i]?) → cs.length = o + d.sz →
    (∀ n ∈ DataW.weightsEach P (fs.map (·.type)) (ys.map (·.1)), n ≤ 140737488351232) → ∃ a, d.K w a (cs.drop o) ∧ ok a
theorem opensF_one {α : Type} {P : Program} {f : Field} {o : Nat} {d : Kd α} {ok : α → Prop} (hf : f.offset = o) (ho : Opens P f.type d ok) : OpensF P [f] o d ok := by
  intro H enc w sp hd fuel cs ys hl hy hcs hw
  match ys, hl with
  | [y], _ =>
    have h := hy 0 f rfl
    have e : (cs.drop f.offset).take (P.cellsOf f.type) = cs.drop o := by rw [hf, ho.1]; exact List.take_of_length_le (by rw [List.length_drop]; omega)
    rw [e] at h
    exact ho.2 H enc w sp hd fuel _ y h (fun n hn => hw n (by simpa [DataW.weightsEach] using hn))
theorem opensF_cons {α β : Type} {P : Program} {f : Field} {fs : List Field} {o : Nat} {d : Kd α} {d' : Kd β} {ok : α → Prop} {ok' : β → Prop} (hf : f.offset = o) (ho : Opens P f.type d ok) (hr : OpensF P fs (o + d.sz) d' ok') :
    OpensF P (f :: fs) o (Kd.pair d d') (fun a => ok a.1 ∧ ok' a.2) := by
  intro H enc w sp hd fuel cs ys hl hy hcs hw
  match ys, hl with
  | y :: ys, hl =>
    have h := hy 0 f rfl
    have hcs' : cs.length = o + (d.sz + d'.sz) := hcs
    rw [hf, ho.1] at h
    obtain ⟨a, ka, oa⟩ := ho.2 H enc w sp hd fuel _ y h (fun n hn => hw n (by simp only [List.map_cons, DataW.weightsEach, List.mem_append]; exact .inl hn))
    obtain ⟨b, kb, ob⟩ := hr H enc w sp hd fuel cs ys (by simpa using hl) (fun i g hg => by simpa using hy (i + 1) g (by simpa using hg)) (by omega) (fun n hn => hw n (by simp only [List.map_cons, DataW.weightsEach, List.mem_append]; exact .inr hn))
    refine ⟨(a, b), ⟨_, _, ?_, ka, kb⟩, oa, ob⟩
    rw [← List.drop_drop, List.take_append_drop]
theorem opens_struct {α β : Type} {P : Program} {t : TypeId} {fs : List Field} {d : Kd α} {ok : α → Prop} (ht : P.underlying t = some (.struct fs.toArray)) (hc : P.cellsOf t = d.sz) (ho : OpensF P fs 0 d ok) (f : β → α) (g : α → β) (hfg : ∀ a, f (g a) = a) :
    Opens P t (Kd.iso d f) (fun b => ok (f b)) := by
  refine ⟨hc, fun H enc w sp hd fuel cs x h hw => ?_⟩
  obtain ⟨xs, n, _, rfl, hl, hxl, hx⟩ := DataW.trod_struct ht h
  obtain ⟨a, ha, hok⟩ := ho H enc w sp hd n cs xs (by simpa using hxl) (fun i f hf => hx i f (by simpa using hf)) (by omega) (fun m hm => hw m (by simp only [DataW.weights, ht]; exact hm))
  refine ⟨g a, ?_, by show ok (f (g a)); rw [hfg]; exact hok⟩
  show d.K w (f (g a)) cs
  rw [hfg]
  exact ha

section
variable {H : Type} {enc : TypeId × Value → H} {P : Program} {W : World} {ts : List TypeId} {ds : List (DataW H)} {j : Nat} {t : TypeId} {v : Value} {dd : DataW H} {p : List MemPlace} {sp : Nat → Bool} {hd : Bool}
/-- An argument that is a struct. -/
theorem open_agg {α : Type} {d : Kd α} {ok : α → Prop} {r : Reach} {b : Nat} {fs : Array Field} (ho : Opens P t d ok) (ht : P.underlying t = some (.struct fs)) (hv : Value.okWide P W r b t v)
    (hsz : (DataW.weightsEach P ts ds).all (· ≤ reachBytes) = true) (htj : ts[j]? = some t) (hdj : ds[j]? = some dd) (h : DataW.Trod enc P W 0 sp hd t v dd p) : ∃ (a : α) (cs : Array Value), v = .agg cs ∧ d.K W a cs.toList ∧ ok a := by
  obtain ⟨cs, rfl, _⟩ := okWide_struct ht hv
  obtain ⟨fuel, hf⟩ := h
  obtain ⟨a, ha, hok⟩ := ho.2 H enc W sp hd fuel _ _ hf (fun n hn => by
    have := List.all_eq_true.1 hsz _ (DataW.weights_mem_each htj hdj n hn)
    exact of_decide_eq_true this)
  exact ⟨a, cs, rfl, ha, hok⟩
/-- An argument that is a slice. -/
theorem open_row {α : Type} {d : Kd α} {ok : List α → Prop} {r : Reach} {b : Nat} {e : TypeId} (ho : Opens P t (Kd.slice e d) ok) (ht : P.underlying t = some (.slice e)) (hv : Value.okWide P W r b t v)
    (hsz : (DataW.weightsEach P ts ds).all (· ≤ reachBytes) = true) (htj : ts[j]? = some t) (hdj : ds[j]? = some dd) (h : DataW.Trod enc P W 0 sp hd t v dd p) :
    ∃ (xs : List α) (A : Option Addr) (c : Nat), v = .slice A xs.length c ∧ xs.length ≤ c ∧ d.C W A xs.length xs ∧ ok xs := by
  obtain ⟨A, len, cap, rfl⟩ := okWide_slice ht hv
  obtain ⟨fuel, hf⟩ := h
  obtain ⟨xs, ⟨A', c', he, hl, hC⟩, hok⟩ := ho.2 H enc W sp hd fuel _ _ hf (fun n hn => by
    have := List.all_eq_true.1 hsz _ (DataW.weights_mem_each htj hdj n hn)
    exact of_decide_eq_true this)
  simp only [Value.cells] at he
  injection he with he _
  exact ⟨xs, A', c', he, hl, hC, hok⟩
end
end Go.Proofs.Yteopkkoblbmggaa.Open
end
