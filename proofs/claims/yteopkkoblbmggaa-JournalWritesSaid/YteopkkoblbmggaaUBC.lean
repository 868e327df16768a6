/- Texts of this claim in one: VEnc, VEditsP, VRSymP, VRPutP, VCrcP, VJourP, VRAddP; no condition. -/
import Derived.Test.YteopkkoblbmggaaUAD
import Derived.Test.YteopkkoblbmggaaUBB
import Derived.Test.YteopkkoblbmggaaUAJ
import Derived.Test.YteopkkoblbmggaaUAG
import Derived.Test.YteopkkoblbmggaaUAR
import Derived.Test.YteopkkoblbmggaaUAS
import Derived.Test.YteopkkoblbmggaaUAT
import Derived.Test.YteopkkoblbmggaaUAW
import Derived.Test.YteopkkoblbmggaaUAF
import Derived.Test.YteopkkoblbmggaaUAH
import Derived.Test.YteopkkoblbmggaaUAX
import Derived.Test.YteopkkoblbmggaaUAI
import Derived.Test.YteopkkoblbmggaaUAU
import Derived.Test.YteopkkoblbmggaaUAV
section
set_option linter.unusedVariables false
set_option linter.unusedSimpArgs false
namespace Go.Proofs.Yteopkkoblbmggaa.P
open Go.RowKit Go.Proofs.YteopkkoblbmggaaW.PrintWords Go.Proofs.YteopkkoblbmggaaW.PrintLast Go.Proofs.YteopkkoblbmggaaW.PrintMore
theorem vs_len : ∀ j u, 0 < (vs j u).length ∧ (vs j u).length ≤ j + 1
  | 0, u => by simp [vs]
  | j + 1, u => by
    have := vs_len j (u / 128)
    simp only [vs]
    split <;> simp <;> omega
theorem enc_len (n : Int) : 0 < (enc n).length ∧ (enc n).length ≤ 10 := vs_len 9 (zz n)
/-! ### many numbers -/
def encs : List Int → List Int
  | [] => []
  | n :: l => enc n ++ encs l
def okZs (l : List Int) : Prop := ∀ n ∈ l, okZ n
theorem encs_app : ∀ a b, encs (a ++ b) = encs a ++ encs b
  | [], b => rfl
  | n :: a, b => by simp only [List.cons_append, encs, encs_app a b, List.append_assoc]
theorem encs_len : ∀ l, l.length ≤ (encs l).length ∧ (encs l).length ≤ 10 * l.length
  | [] => by simp [encs]
  | n :: l => by
    have := encs_len l
    have := enc_len n
    simp only [encs, List.length_append, List.length_cons]; omega
theorem ints_l0 : ∀ (m : Nat) (out l : List Int) (i k : Nat), l.length - i = m → i ≤ l.length → l.length < 1000 → okZs l → out.length + 10 * m + 20 < 140737488355328 → m + 12 ≤ k →
    edits_ints.l0 k out l (l.length : Int) (i : Int) = some (out ++ encs (l.drop i))
  | 0, out, l, i, k, hm, hi, hs, hl, ho, hk => by
    obtain ⟨k, rfl⟩ : ∃ q, k = q + 1 := ⟨k - 1, by omega⟩
    simp only [edits_ints.l0]
    rw [if_neg (by omega), List.drop_eq_nil_of_le (by omega)]
    simp [encs]
  | m + 1, out, l, i, k, hm, hi, hs, hl, ho, hk => by
    obtain ⟨k, rfl⟩ : ∃ q, k = q + 1 := ⟨k - 1, by omega⟩
    obtain ⟨q, rfl⟩ : ∃ q, k = 11 + q := ⟨k - 11, by omega⟩
    have hi' : i < l.length := by omega
    have hz : okZ l[i] := hl _ (List.getElem_mem hi')
    simp only [edits_ints.l0]
    have e : rd l (i : Int) = l[i] := by unfold rd; rw [Int.toNat_natCast, getD_at hi']
    rw [if_pos (by omega), if_pos (by omega), if_pos (by omega), e, putInt_eq q out l[i] hz (by omega), Option.bind_some, wrap_in' _ (by omega) (by omega)]
    have hlen := enc_len l[i]
    rw [show ((i : Int) + 1) = ((i + 1 : Nat) : Int) by omega, ints_l0 m (out ++ enc l[i]) l (i + 1) (11 + q) (by omega) (by omega) hs hl (by rw [List.length_append]; omega) (by omega)]
    rw [List.drop_eq_getElem_cons hi', encs, List.append_assoc]
theorem ints_eq (k : Nat) (out l : List Int) (hs : l.length ≤ 20) (hl : okZs l) (ho : out.length < 1000) (hk : 40 ≤ k) : edits_ints.f k out l = some (out ++ encs l) := by
  unfold edits_ints.f
  have := ints_l0 l.length out l 0 k (by omega) (by omega) (by omega) hl (by omega) (by omega)
  rw [List.drop_zero] at this
  exact this
def headN (a0 a1 a2 a3 a4 : Int) (a5 : Bool) : List Int := [a0, a1, a2, a3, a4, if a5 = true then 1 else 0]
def tailN (a5 : Bool) (a6 a7 a8 a9 a10 a11 a12 : Int) : List Int := if a5 = true then [] else [a6, a7, a8, a9, a10, a11, a12]
/-- The bytes of an edit. -/
def putB (a0 a1 a2 a3 a4 : Int) (a5 : Bool) (a6 a7 a8 a9 a10 a11 a12 : Int) : List Int := encs (headN a0 a1 a2 a3 a4 a5) ++ encs (tailN a5 a6 a7 a8 a9 a10 a11 a12)
def okE (a0 a1 a2 a3 a4 : Int) (a6 a7 a8 a9 a10 a11 a12 : Int) : Prop := okZ a0 ∧ okZ a1 ∧ okZ a2 ∧ okZ a3 ∧ okZ a4 ∧ okZ a6 ∧ okZ a7 ∧ okZ a8 ∧ okZ a9 ∧ okZ a10 ∧ okZ a11 ∧ okZ a12
theorem head_ok {a0 a1 a2 a3 a4 a6 a7 a8 a9 a10 a11 a12 : Int} (a5 : Bool) (h : okE a0 a1 a2 a3 a4 a6 a7 a8 a9 a10 a11 a12) : okZs (headN a0 a1 a2 a3 a4 a5) := by
  obtain ⟨h0, h1, h2, h3, h4, -⟩ := h
  intro n hn
  simp only [headN, List.mem_cons, List.not_mem_nil, or_false] at hn
  rcases hn with rfl | rfl | rfl | rfl | rfl | rfl <;> first | assumption | (split <;> (unfold okZ; omega))
theorem tail_ok {a0 a1 a2 a3 a4 a6 a7 a8 a9 a10 a11 a12 : Int} (a5 : Bool) (h : okE a0 a1 a2 a3 a4 a6 a7 a8 a9 a10 a11 a12) : okZs (tailN a5 a6 a7 a8 a9 a10 a11 a12) := by
  obtain ⟨-, -, -, -, -, h6, h7, h8, h9, h10, h11, h12⟩ := h
  intro n hn
  cases a5
  · simp only [tailN, Bool.false_eq_true, if_false, List.mem_cons, List.not_mem_nil, or_false] at hn
    rcases hn with rfl | rfl | rfl | rfl | rfl | rfl | rfl <;> assumption
  · simp [tailN] at hn
theorem putB_len (a0 a1 a2 a3 a4 : Int) (a5 : Bool) (a6 a7 a8 a9 a10 a11 a12 : Int) : (putB a0 a1 a2 a3 a4 a5 a6 a7 a8 a9 a10 a11 a12).length ≤ 130 := by
  have h1 := (encs_len (headN a0 a1 a2 a3 a4 a5)).2
  have h2 := (encs_len (tailN a5 a6 a7 a8 a9 a10 a11 a12)).2
  have l1 : (headN a0 a1 a2 a3 a4 a5).length = 6 := rfl
  have l2 : (tailN a5 a6 a7 a8 a9 a10 a11 a12).length ≤ 7 := by unfold tailN; split <;> simp
  unfold putB
  rw [List.length_append]
  omega
theorem put_edit_eq (k : Nat) (hk : 40 ≤ k) {a0 a1 a2 a3 a4 a6 a7 a8 a9 a10 a11 a12 : Int} (a5 : Bool) (h : okE a0 a1 a2 a3 a4 a6 a7 a8 a9 a10 a11 a12) :
    edits_Put.f k a0 a1 a2 a3 a4 a5 a6 a7 a8 a9 a10 a11 a12 = some (if chkE a0 a1 a2 a3 a4 a5 a6 a7 a8 a9 a10 a11 a12 = 0 then (putB a0 a1 a2 a3 a4 a5 a6 a7 a8 a9 a10 a11 a12, 0) else ([], chkE a0 a1 a2 a3 a4 a5 a6 a7 a8 a9 a10 a11 a12)) := by
  obtain ⟨h0, h1, h2, h3, h4, h6, h7, h8, h9, h10, h11, h12⟩ := h
  have z0 : okZ 0 := by unfold okZ; omega
  have z1 : okZ 1 := by unfold okZ; omega
  have e1 := ints_eq k [] [a0, a1, a2, a3, a4] (by simp) (by intro n hn; simp only [List.mem_cons, List.not_mem_nil, or_false] at hn; rcases hn with rfl | rfl | rfl | rfl | rfl <;> assumption) (by simp) hk
  have hlen := (encs_len [a0, a1, a2, a3, a4]).2
  have hlen' : (encs [a0, a1, a2, a3, a4]).length ≤ 50 := hlen
  have e2 := ints_eq k (encs [a0, a1, a2, a3, a4]) [1] (by simp) (by intro n hn; simp only [List.mem_cons, List.not_mem_nil, or_false] at hn; rw [hn]; exact z1) (by omega) hk
  have e3 := ints_eq k (encs [a0, a1, a2, a3, a4]) [0, a6, a7, a8, a9, a10, a11, a12] (by simp) (by intro n hn; simp only [List.mem_cons, List.not_mem_nil, or_false] at hn; rcases hn with rfl | rfl | rfl | rfl | rfl | rfl | rfl | rfl <;> assumption) (by omega) hk
  unfold edits_Put.f
  obtain ⟨j, rfl⟩ : ∃ j, k = j + 4 := ⟨k - 4, by omega⟩
  rw [check_eq, Option.bind_some]
  by_cases hc : chkE a0 a1 a2 a3 a4 a5 a6 a7 a8 a9 a10 a11 a12 = 0
  · rw [if_pos hc, if_pos hc, e1, Option.bind_some, List.nil_append]
    cases a5
    · simp only [Bool.false_eq_true, if_false]
      rw [e3, Option.bind_some]
      simp [putB, headN, tailN, encs, List.append_assoc]
    · simp only [if_true]
      rw [e2, Option.bind_some]
      simp [putB, headN, tailN, encs, List.append_assoc]
  · rw [if_neg hc, if_neg hc]
/-! ### an edit and its bytes -/
theorem column_eq (j : Nat) (k c : Int) (h : ¬ (k < 1 ∨ 4 < k)) : dancestudioref23_column.f (j + 1) k c = some (decide (colP k c)) := by
  unfold dancestudioref23_column.f dancestudioref23_column.j0 colP
  grind
theorem refCheck_1 (j : Nat) (x : Bool) (k c b l d v m : Int) (h1 : ¬ (k < 1 ∨ 4 < k)) (hc : 0 ≤ c ∧ c ≤ 8) : dancestudioref23_Check.j1 (j + 2) x k c b l d v m = some (if x = true then 1 else sayC k c d v m) := by
  simp only [dancestudioref23_Check.j1, sayC]
  rw [wrap_in (c - 2) (by omega) (by omega)]
  cases x with
  | true => simp
  | false =>
    simp only [if_neg (show ¬ (false = true) by decide)]
    by_cases k1 : k = 1
    · rw [if_pos k1, if_pos k1]
      have e : dancestudioref16_Check.f d v = some (if 0 ≤ d ∧ d ≤ 8 ∧ -1 ≤ v ∧ v ≤ 1 then 0 else 1) := dancestudioref18_Of.dcheck_eq d v
      rw [e, Option.bind_some]
      by_cases h : 0 ≤ d ∧ d ≤ 8 ∧ -1 ≤ v ∧ v ≤ 1
      · rw [if_pos h, if_pos h, if_pos rfl]; split <;> rfl
      · rw [if_neg h, if_neg h, if_neg (by decide)]
    · rw [if_neg k1, if_neg k1]
      by_cases k3 : k = 3
      · rw [if_pos k3, if_neg (by omega), if_pos k3]
        simp only [dancestudioref18_Of.f, Option.bind_some]
      · rw [if_neg k3, if_neg k3]
        simp only [dancestudioref23_Check.j2]
        by_cases k2 : k = 2
        · by_cases h : d = 0 <;> by_cases h' : v = 0 <;> by_cases h'' : m = 0 <;> simp [h, h', h'', k2]
        · have k4 : k = 4 := by omega
          by_cases h : d = 0 <;> by_cases h' : v = 0 <;> simp [k4, h, h']
          by_cases a : m < -16 <;> by_cases a' : 16 < m <;> by_cases a'' : m = 0 <;> simp [a, a', a'']
theorem refCheck_j (j : Nat) (x : Bool) (k c b l d v m : Int) (hx : x = false) (h1 : ¬ (k < 1 ∨ 4 < k)) : dancestudioref23_Check.j0 (j + 3) x k c b l d v m = some (chkP k c b l d v m) := by
  subst hx
  simp only [dancestudioref23_Check.j0, chkP, if_neg h1]
  rw [column_eq (j + 1) k c h1, if_neg (by decide)]
  simp only [Option.bind_some, decide_eq_true_eq]
  by_cases h2 : colP k c
  · have hc : 0 ≤ c ∧ c ≤ 8 := by unfold colP at h2; grind
    rw [if_pos h2, if_neg (not_not_intro h2), refCheck_1 j _ k c b l d v m h1 hc, refCheck_1 j _ k c b l d v m h1 hc]
    by_cases h3 : b < 0 ∨ 8191 < b
    · rw [if_pos (by omega : b < 0 ∨ 8191 < b ∨ l < 1 ∨ 8192 - b < l)]
      rcases h3 with h3 | h3
      · rw [if_pos h3]; rfl
      · rw [if_neg (by omega), if_pos (by omega)]; rfl
    · rw [wrap_in (8192 - b) (by omega) (by omega), if_neg (by omega), if_neg (by omega)]
      by_cases h4 : l < 1 ∨ 8192 - b < l
      · rw [if_pos (by omega : b < 0 ∨ 8191 < b ∨ l < 1 ∨ 8192 - b < l)]
        rcases h4 with h4 | h4
        · rw [if_pos h4]; rfl
        · by_cases h5 : l < 1
          · rw [if_pos h5]; rfl
          · rw [if_neg h5, if_pos (by simpa using h4)]
      · rw [if_neg (by omega), if_neg (by simp; omega), if_neg (by omega : ¬ (b < 0 ∨ 8191 < b ∨ l < 1 ∨ 8192 - b < l))]
  · rw [if_neg h2, if_pos h2]
theorem refCheck_eq (j : Nat) (k c b l d v m : Int) : dancestudioref23_Check.f (j + 3) k c b l d v m = some (chkP k c b l d v m) := by
  unfold dancestudioref23_Check.f
  by_cases h1 : k < 1 ∨ 4 < k
  · have e : chkP k c b l d v m = 9 := by rw [chkP, if_pos h1]
    rw [e]
    rcases h1 with h1 | h1
    · rw [if_pos h1]; simp [dancestudioref23_Check.j0]
    · rw [if_neg (by omega)]; simp [dancestudioref23_Check.j0, h1]
  · rw [if_neg (by omega)]
    exact refCheck_j j _ k c b l d v m (by simp; omega) h1
theorem rvalid_eq' (c d : Int) : dancestudioref56_Valid.f c d = some (valP c d) := by
  unfold dancestudioref56_Valid.f valP
  by_cases h1 : 1 ≤ c <;> by_cases h2 : c ≤ 1000000 <;> by_cases h3 : 1 ≤ d <;> by_cases h4 : d ≤ 64 <;> simp [h1, h2, h3, h4, GE.ge]
theorem rless_eq (a b c d : Int) : dancestudioref56_Less.f a b c d = some (lessP a b c d) := by
  unfold dancestudioref56_Less.f lessP
  by_cases h2 : a = c
  · simp [h2]
  · simp [h2]
theorem rchk_j0 (j : Nat) (x : Bool) (a0 a1 a2 a3 a4 : Int) (a5 : Bool) (a6 a7 a8 a9 a10 a11 a12 : Int) :
    dancestudioref56_Check.j0 (j + 5) x a0 a1 a2 a3 a4 a5 a6 a7 a8 a9 a10 a11 a12 = some (if x = true then 43 else if a2 < 0 ∨ 12 ≤ a2 then 33
      else if a5 = true then (if a6 = 0 ∧ a7 = 0 ∧ a8 = 0 ∧ a9 = 0 ∧ a10 = 0 ∧ a11 = 0 ∧ a12 = 0 then 0 else 2) else chkP a6 a7 a8 a9 a10 a11 a12) := by
  have e := chk_j0 (j + 1) x a0 a1 a2 a3 a4 a5 a6 a7 a8 a9 a10 a11 a12
  rw [← e]
  simp only [dancestudioref56_Check.j0, dancestudioref56_Check.j1, edits_Check.j0, edits_Check.j1, symCheck_eq, refCheck_eq]
theorem rcheck_eq (j : Nat) (a0 a1 a2 a3 a4 : Int) (a5 : Bool) (a6 a7 a8 a9 a10 a11 a12 : Int) :
    dancestudioref56_Check.f (j + 5) a0 a1 a2 a3 a4 a5 a6 a7 a8 a9 a10 a11 a12 = some (chkE a0 a1 a2 a3 a4 a5 a6 a7 a8 a9 a10 a11 a12) := by
  unfold dancestudioref56_Check.f chkE
  simp only [rvalid_eq', rless_eq, Option.bind_some, rchk_j0]
  cases h1 : valP a0 a1 <;> cases h2 : valP a3 a4 <;> cases h3 : lessP a0 a1 a3 a4 <;> simp
theorem rput_l0 : ∀ (j i u : Nat) (out : List Int), u < 128 ^ (j + 1) → u < 18446744073709551616 → out.length + j < 140737488355328 → dancestudioref07_PutInt.l0 (j + 1 + i) out (u : Int) = some (out ++ vs j u)
  | 0, i, u, out, hu, hu2, ho => by
    rw [show 0 + 1 + i = i + 1 by omega]
    have h1 : u < 128 := by simpa using hu
    simp only [dancestudioref07_PutInt.l0, vs]
    rw [if_neg (by omega), if_pos (by omega), show (u : Int) % 256 = u by omega]
  | j + 1, i, u, out, hu, hu2, ho => by
    rw [show j + 1 + 1 + i = (j + 1 + i) + 1 by omega]
    simp only [dancestudioref07_PutInt.l0, vs]
    by_cases h : u < 128
    · rw [if_neg (by omega), if_pos (by omega), if_pos h, show (u : Int) % 256 = u by omega]
    · have e1 : Int.tmod (u : Int) 128 = (u : Int) % 128 := Int.tmod_eq_emod_of_nonneg (by omega)
      have e2 : Int.tdiv (u : Int) 128 = (u : Int) / 128 := Int.tdiv_eq_ediv_of_nonneg (by omega)
      rw [if_pos (by omega), if_pos (by omega), if_neg h, e1, e2, u64_eq, u64_eq, show ((u : Int) / 128) % 18446744073709551616 = ((u / 128 : Nat) : Int) by omega]
      rw [rput_l0 j i (u / 128) _ (by rw [Nat.pow_succ] at hu; omega) (by omega) (by simp; omega)]
      rw [List.append_assoc]
      have e : ((u : Int) % 128 + 128) % 18446744073709551616 % 256 = ((u % 128 + 128 : Nat) : Int) := by omega
      rw [e]; rfl
theorem rcode_eq (n : Int) (hn : okZ n) : dancestudioref07_code.f n = some (zz n : Int) := by
  unfold okZ at hn
  unfold dancestudioref07_code.f zz
  by_cases h : n < 0
  · rw [if_pos h, if_pos h, wrap_in' (n + 1) (by omega) (by omega), wrap_in' _ (by omega) (by omega)]
    simp only [u64_eq, Option.some.injEq]
    omega
  · rw [if_neg h, if_neg h]
    simp only [u64_eq, Option.some.injEq]
    omega
theorem rputInt_eq (j : Nat) (out : List Int) (n : Int) (hn : okZ n) (ho : out.length + 20 < 140737488355328) : dancestudioref07_PutInt.f (10 + j) out n = some (out ++ enc n) := by
  have hz := zz_lt n hn
  unfold dancestudioref07_PutInt.f enc
  simp only [Option.bind_some, List.length_nil, List.nil_append]
  rw [if_pos (by omega), rcode_eq n hn, Option.bind_some]
  exact rput_l0 9 j (zz n) out (by omega) hz (by omega)
theorem rput_loop : ∀ (m : Nat) (out l : List Int) (i k : Nat), l.length - i = m → i ≤ l.length → l.length < 1000 → okZs l → out.length + 10 * m + 20 < 140737488355328 → m + 12 ≤ k →
    dancestudioref56_Put.l0 k out l (i : Int) = some (out ++ encs (l.drop i), 0)
  | 0, out, l, i, k, hm, hi, hs, hl, ho, hk => by
    obtain ⟨k, rfl⟩ : ∃ q, k = q + 1 := ⟨k - 1, by omega⟩
    simp only [dancestudioref56_Put.l0]
    rw [if_neg (by omega), List.drop_eq_nil_of_le (by omega)]
    simp [encs]
  | m + 1, out, l, i, k, hm, hi, hs, hl, ho, hk => by
    obtain ⟨k, rfl⟩ : ∃ q, k = q + 1 := ⟨k - 1, by omega⟩
    obtain ⟨q, rfl⟩ : ∃ q, k = 10 + q := ⟨k - 10, by omega⟩
    have hi' : i < l.length := by omega
    have hz : okZ l[i] := hl _ (List.getElem_mem hi')
    simp only [dancestudioref56_Put.l0]
    have e : rd l (i : Int) = l[i] := by unfold rd; rw [Int.toNat_natCast, getD_at hi']
    rw [if_pos (by omega), if_pos (by omega), e, rputInt_eq q out l[i] hz (by omega), Option.bind_some, wrap_in' _ (by omega) (by omega)]
    have hlen := enc_len l[i]
    rw [show ((i : Int) + 1) = ((i + 1 : Nat) : Int) by omega, rput_loop m (out ++ enc l[i]) l (i + 1) (10 + q) (by omega) (by omega) hs hl (by rw [List.length_append]; omega) (by omega)]
    rw [List.drop_eq_getElem_cons hi', encs, List.append_assoc]
theorem rnumbers_eq (a0 a1 a2 a3 a4 : Int) (a5 : Bool) (a6 a7 a8 a9 a10 a11 a12 : Int) : dancestudioref56_numbers.f a0 a1 a2 a3 a4 a5 a6 a7 a8 a9 a10 a11 a12 = some (headN a0 a1 a2 a3 a4 a5 ++ tailN a5 a6 a7 a8 a9 a10 a11 a12) := by
  unfold dancestudioref56_numbers.f headN tailN
  cases a5 <;> simp
theorem rput_edit_eq (k : Nat) (hk : 40 ≤ k) {a0 a1 a2 a3 a4 a6 a7 a8 a9 a10 a11 a12 : Int} (a5 : Bool) (h : okE a0 a1 a2 a3 a4 a6 a7 a8 a9 a10 a11 a12) :
    dancestudioref56_Put.f k a0 a1 a2 a3 a4 a5 a6 a7 a8 a9 a10 a11 a12 = some (if chkE a0 a1 a2 a3 a4 a5 a6 a7 a8 a9 a10 a11 a12 = 0 then (putB a0 a1 a2 a3 a4 a5 a6 a7 a8 a9 a10 a11 a12, 0) else ([], chkE a0 a1 a2 a3 a4 a5 a6 a7 a8 a9 a10 a11 a12)) := by
  unfold dancestudioref56_Put.f
  obtain ⟨j, rfl⟩ : ∃ j, k = j + 5 := ⟨k - 5, by omega⟩
  rw [rcheck_eq, Option.bind_some]
  by_cases hc : chkE a0 a1 a2 a3 a4 a5 a6 a7 a8 a9 a10 a11 a12 = 0
  · rw [if_pos hc, if_pos hc, rnumbers_eq, Option.bind_some]
    have hz : okZs (headN a0 a1 a2 a3 a4 a5 ++ tailN a5 a6 a7 a8 a9 a10 a11 a12) := by
      intro n hn
      rcases List.mem_append.mp hn with hn | hn
      · exact head_ok a5 h n hn
      · exact tail_ok a5 h n hn
    have hlen : (headN a0 a1 a2 a3 a4 a5 ++ tailN a5 a6 a7 a8 a9 a10 a11 a12).length ≤ 13 := by unfold headN tailN; cases a5 <;> simp
    have e := rput_loop _ [] (headN a0 a1 a2 a3 a4 a5 ++ tailN a5 a6 a7 a8 a9 a10 a11 a12) 0 (j + 5) rfl (by omega) (by omega) hz (by rw [List.length_nil]; omega) (by omega)
    rw [List.drop_zero, List.nil_append, encs_app] at e
    exact e
  · rw [if_neg hc, if_neg hc]
/-- One bit, eight bits, a byte, bytes. -/
def st1 (x : Int) : Int := if Go.bits .and .u32 x 1 = 1 then Go.bits .xor .u32 (x / 2) 2197175160 else x / 2
def stN : Nat → Int → Int
  | 0, x => x
  | n + 1, x => stN n (st1 x)
def crcL : Int → List Int → Int
  | r, [] => r
  | r, c :: t => crcL (stN 8 (Go.bits .xor .u32 r (c % 4294967296))) t
def crcE (s : Int) (b : List Int) : Int := Go.bits .xor .u32 4294967295 (crcL (Go.bits .xor .u32 4294967295 s) b)
theorem crcE_range (s : Int) (b : List Int) : 0 ≤ crcE s b ∧ crcE s b < 4294967296 := by
  unfold crcE Go.bits
  rw [IntKind.wrap_u32]
  omega
theorem rd_at8 {b : List Int} {i : Nat} (h : i < b.length) : rd b (i : Int) = b[i] := by
  unfold rd; rw [Int.toNat_natCast, List.getD_eq_getElem?_getD, List.getElem?_eq_getElem h, Option.getD_some]
theorem ext_l1 (l : List Int) (n i : Int) : ∀ (m : Nat) (x j : Int) (k : Nat), 0 ≤ j → j + m = 8 → crc_Extend.l1 (k + m + 1) x l n i j = crc_Extend.l0 k (stN m x) l n (wrap64 (i + 1))
  | 0, x, j, k, h0, hj => by
    unfold crc_Extend.l1
    rw [if_neg (by omega)]
    rfl
  | m + 1, x, j, k, h0, hj => by
    rw [show k + (m + 1) + 1 = (k + m + 1) + 1 by omega]
    unfold crc_Extend.l1
    rw [if_pos (by omega), show wrap64 (j + 1) = j + 1 by unfold wrap64; omega]
    unfold stN st1
    by_cases h : Go.bits .and .u32 x 1 = 1
    · rw [if_pos h, if_pos h, ext_l1 l n i m _ _ _ (by omega) (by omega)]
    · rw [if_neg h, if_neg h, ext_l1 l n i m _ _ _ (by omega) (by omega)]
theorem ext_l0 (l : List Int) (hl : l.length < 140737488355328) : ∀ (m i k : Nat) (r : Int), l.length - i = m → i ≤ l.length → 10 * m + 1 ≤ k → crc_Extend.l0 k r l (l.length : Int) (i : Int) = some (Go.bits .xor .u32 4294967295 (crcL r (l.drop i)))
  | 0, i, k, r, hm, hi, hk => by
    obtain ⟨k, rfl⟩ : ∃ j, k = j + 1 := ⟨k - 1, by omega⟩
    unfold crc_Extend.l0
    rw [if_neg (by omega), List.drop_of_length_le (by omega)]
    rfl
  | m + 1, i, k, r, hm, hi, hk => by
    obtain ⟨k, rfl⟩ : ∃ j, k = (j + 8 + 1) + 1 := ⟨k - 10, by omega⟩
    have hlt : i < l.length := by omega
    unfold crc_Extend.l0
    rw [if_pos (by omega), if_pos (by omega), if_pos (by omega), ext_l1 l _ _ 8 _ 0 k (by omega) (by omega), show wrap64 ((i : Int) + 1) = ((i + 1 : Nat) : Int) by unfold wrap64; omega,
      ext_l0 l hl m (i + 1) k _ (by omega) (by omega) (by omega), List.drop_eq_getElem_cons hlt, rd_at8 hlt]
    rfl
theorem ext_eq (k : Nat) (s : Int) (l : List Int) (hl : l.length < 140737488355328) (hk : 10 * l.length + 1 ≤ k) : crc_Extend.f k s l = some (crcE s l) := by
  unfold crc_Extend.f crcE
  have := ext_l0 l hl l.length 0 k (Go.bits .xor .u32 4294967295 s) (by omega) (by omega) hk
  rw [List.drop_zero] at this
  exact this
theorem sum_eq (k : Nat) (l : List Int) (hl : l.length < 140737488355328) (hk : 10 * l.length + 1 ≤ k) : crc_Sum.f k l = some (crcE 0 l) := by
  unfold crc_Sum.f
  rw [ext_eq k 0 l hl hk]
  rfl
theorem rext_l1 (l : List Int) (i : Int) : ∀ (m : Nat) (x j : Int) (k : Nat), 0 ≤ j → j + m = 8 → dancestudioref08_Extend.l1 (k + m + 1) l x i j = dancestudioref08_Extend.l0 k l (stN m x) (wrap64 (i + 1))
  | 0, x, j, k, h0, hj => by
    unfold dancestudioref08_Extend.l1
    rw [if_neg (by omega)]
    rfl
  | m + 1, x, j, k, h0, hj => by
    rw [show k + (m + 1) + 1 = (k + m + 1) + 1 by omega]
    unfold dancestudioref08_Extend.l1
    rw [if_pos (by omega), show wrap64 (j + 1) = j + 1 by unfold wrap64; omega]
    unfold stN st1
    by_cases h : Go.bits .and .u32 x 1 = 1
    · rw [if_pos h, if_pos h, rext_l1 l i m _ _ _ (by omega) (by omega)]
    · rw [if_neg h, if_neg h, rext_l1 l i m _ _ _ (by omega) (by omega)]
theorem rext_l0 (l : List Int) (hl : l.length < 140737488355328) : ∀ (m i k : Nat) (r : Int), l.length - i = m → i ≤ l.length → 10 * m + 1 ≤ k → dancestudioref08_Extend.l0 k l r (i : Int) = some (Go.bits .xor .u32 4294967295 (crcL r (l.drop i)))
  | 0, i, k, r, hm, hi, hk => by
    obtain ⟨k, rfl⟩ : ∃ j, k = j + 1 := ⟨k - 1, by omega⟩
    unfold dancestudioref08_Extend.l0
    rw [if_neg (by omega), List.drop_of_length_le (by omega)]
    rfl
  | m + 1, i, k, r, hm, hi, hk => by
    obtain ⟨k, rfl⟩ : ∃ j, k = (j + 8 + 1) + 1 := ⟨k - 10, by omega⟩
    have hlt : i < l.length := by omega
    unfold dancestudioref08_Extend.l0
    rw [if_pos (by omega), if_pos (by omega), rext_l1 l _ 8 _ 0 k (by omega) (by omega), show wrap64 ((i : Int) + 1) = ((i + 1 : Nat) : Int) by unfold wrap64; omega,
      rext_l0 l hl m (i + 1) k _ (by omega) (by omega) (by omega), List.drop_eq_getElem_cons hlt, rd_at8 hlt]
    rfl
theorem rext_eq (k : Nat) (s : Int) (l : List Int) (hl : l.length < 140737488355328) (hk : 10 * l.length + 1 ≤ k) : dancestudioref08_Extend.f k s l = some (crcE s l) := by
  unfold dancestudioref08_Extend.f crcE
  have := rext_l0 l hl l.length 0 k (Go.bits .xor .u32 4294967295 s) (by omega) (by omega) hk
  rw [List.drop_zero] at this
  exact this
theorem rsum_eq (k : Nat) (l : List Int) (hl : l.length < 140737488355328) (hk : 10 * l.length + 1 ≤ k) : dancestudioref08_Sum.f k l = some (crcE 0 l) := by
  unfold dancestudioref08_Sum.f
  rw [rext_eq k 0 l hl hk]
  rfl
/-- The four bytes of a checksum. -/
def fourP (n : Int) : List Int := [n % 256, n / 256 % 256, n / 65536 % 256, n / 16777216 % 256]
theorem and255 (x : Int) (h0 : 0 ≤ x) (h1 : x < 4294967296) : Go.bits .and .u32 x 255 = x % 256 := bits_mask .u32 32 (by decide) (fun n a b => by rw [IntKind.wrap_u32]; omega) 8 (by decide) x h0 h1
theorem four_eq (n : Int) (h0 : 0 ≤ n) (h1 : n < 4294967296) : dancestudioref08_four.f n = some (fourP n) := by
  unfold dancestudioref08_four.f fourP
  rw [and255 n h0 h1, and255 _ (by omega) (by omega), and255 _ (by omega) (by omega)]
  simp
/-- The frame of a content. -/
def frameB (c : List Int) : List Int := enc (c.length : Int) ++ (fourP (crcE (crcE 0 (enc (c.length : Int))) c) ++ c)
theorem okZ_len (c : List Int) (h : c.length ≤ 65536) : okZ (c.length : Int) := by unfold okZ; omega
theorem frame_loop (k : Nat) (c h : List Int) (s : Int) (hc : c.length ≤ 65536) (hh : h.length ≤ 10) (hk : 5 ≤ k) : crc_Frame.l0 k c h s 0 = some (h ++ (fourP s ++ c), 0) := by
  obtain ⟨k, rfl⟩ : ∃ j, k = j + 5 := ⟨k - 5, by omega⟩
  rw [show k + 5 = (k + 4) + 1 by omega]
  unfold crc_Frame.l0
  rw [if_pos (by decide), show wrap64 (8 * 0) = 0 by unfold wrap64; omega, if_pos (by decide), if_pos (by omega), show wrap64 (0 + 1) = 1 by unfold wrap64; omega]
  rw [show k + 4 = (k + 3) + 1 by omega]
  unfold crc_Frame.l0
  rw [if_pos (by decide), show wrap64 (8 * 1) = 8 by unfold wrap64; omega, if_pos (by decide), if_pos (by simp; omega), show wrap64 (1 + 1) = 2 by unfold wrap64; omega]
  rw [show k + 3 = (k + 2) + 1 by omega]
  unfold crc_Frame.l0
  rw [if_pos (by decide), show wrap64 (8 * 2) = 16 by unfold wrap64; omega, if_pos (by decide), if_pos (by simp; omega), show wrap64 (2 + 1) = 3 by unfold wrap64; omega]
  rw [show k + 2 = (k + 1) + 1 by omega]
  unfold crc_Frame.l0
  rw [if_pos (by decide), show wrap64 (8 * 3) = 24 by unfold wrap64; omega, if_pos (by decide), if_pos (by simp; omega), show wrap64 (3 + 1) = 4 by unfold wrap64; omega]
  unfold crc_Frame.l0
  rw [if_neg (by decide), if_pos (by simp; omega)]
  have t0 : shr .u32 s 0 = s := by unfold shr; simp
  have t1 : shr .u32 s 8 = s / 256 := by unfold shr; rfl
  have t2 : shr .u32 s 16 = s / 65536 := by unfold shr; rfl
  have t3 : shr .u32 s 24 = s / 16777216 := by unfold shr; rfl
  rw [t0, t1, t2, t3]
  unfold fourP
  simp
theorem frame_eq (k : Nat) (c : List Int) (hc : c.length ≤ 65536) (hk : 10 * c.length + 200 ≤ k) : crc_Frame.f k c = some (frameB c, 0) := by
  obtain ⟨j, hj⟩ : ∃ j, k = 11 + j := ⟨k - 11, by omega⟩
  have hel := (enc_len (c.length : Int)).2
  unfold crc_Frame.f
  rw [if_neg (by omega), hj, putInt_eq j [] _ (okZ_len c hc) (by simp), ← hj, Option.bind_some, List.nil_append, sum_eq k _ (by omega) (by omega), Option.bind_some, ext_eq k _ _ (by omega) (by omega), Option.bind_some, frame_loop k c _ _ hc hel (by omega)]
  rfl
theorem rframe_eq (k : Nat) (c : List Int) (hc : c.length ≤ 65536) (hk : 10 * c.length + 200 ≤ k) : dancestudioref08_Frame.f k c = some (frameB c, 0) := by
  obtain ⟨j, hj⟩ : ∃ j, k = 10 + j := ⟨k - 10, by omega⟩
  have hel := (enc_len (c.length : Int)).2
  unfold dancestudioref08_Frame.f
  rw [if_neg (by omega), hj, rputInt_eq j [] _ (okZ_len c hc) (by simp), ← hj, Option.bind_some, List.nil_append, rsum_eq k _ (by omega) (by omega), Option.bind_some, rext_eq k _ _ (by omega) (by omega), Option.bind_some]
  have hr := crcE_range (crcE 0 (enc (c.length : Int))) c
  rw [if_pos (by simp; omega), Option.bind_some, List.nil_append, four_eq _ hr.1 hr.2, Option.bind_some, if_pos (by simp [fourP]; omega), Option.bind_some, if_pos (by simp [fourP]; omega)]
  unfold frameB
  rw [List.append_assoc]
theorem frameB_len (c : List Int) : (frameB c).length = (enc (c.length : Int)).length + 4 + c.length := by
  unfold frameB fourP
  simp
  omega
theorem append_eq (k : Nat) (hk : 2000 ≤ k) (out : List Int) (ho : out.length ≤ 1000000) {a0 a1 a2 a3 a4 a6 a7 a8 a9 a10 a11 a12 : Int} (a5 : Bool) (h : okE a0 a1 a2 a3 a4 a6 a7 a8 a9 a10 a11 a12) :
    journal_Append.f k out a0 a1 a2 a3 a4 a5 a6 a7 a8 a9 a10 a11 a12 = some (if chkE a0 a1 a2 a3 a4 a5 a6 a7 a8 a9 a10 a11 a12 = 0 then (out ++ frameB (putB a0 a1 a2 a3 a4 a5 a6 a7 a8 a9 a10 a11 a12), 0) else ([], chkE a0 a1 a2 a3 a4 a5 a6 a7 a8 a9 a10 a11 a12)) := by
  unfold journal_Append.f
  rw [put_edit_eq k (by omega) a5 h, Option.bind_some]
  by_cases hz : chkE a0 a1 a2 a3 a4 a5 a6 a7 a8 a9 a10 a11 a12 = 0
  · rw [if_pos hz]
    have hl := putB_len a0 a1 a2 a3 a4 a5 a6 a7 a8 a9 a10 a11 a12
    dsimp only
    rw [if_pos rfl, frame_eq k _ (by omega) (by omega), Option.bind_some]
    dsimp only
    rw [if_pos rfl]
    have he := (enc_len ((putB a0 a1 a2 a3 a4 a5 a6 a7 a8 a9 a10 a11 a12).length : Int)).2
    have hf := frameB_len (putB a0 a1 a2 a3 a4 a5 a6 a7 a8 a9 a10 a11 a12)
    rw [show slices_Clone_byte_byte.f out = some out from by unfold slices_Clone_byte_byte.f; rw [if_pos (by omega)], Option.bind_some, if_pos (by omega), if_pos hz]
  · rw [if_neg hz]
    dsimp only
    rw [if_neg hz, if_neg hz]
theorem wrap_nat {i : Nat} (h : i ≤ 2000000) : wrap64 ((i : Int) + 1) = ((i + 1 : Nat) : Int) := by unfold wrap64; omega
/-- An edit founds another one. -/
def fndB (x y : S30) : Bool := fndsE x && decide (y.f1 = x.f1 ∧ y.f2.f0 = x.f2.f0 ∧ y.f2.f1 = x.f2.f1)
theorem founds_eq (x y : S30) : dancestudioref57_founds.f x.f0.f0 x.f0.f1 x.f1 x.f2.f0 x.f2.f1 x.f3 x.f4.f0 x.f4.f1 x.f4.f2 x.f4.f3 x.f4.f4 x.f4.f5 x.f4.f6 y.f0.f0 y.f0.f1 y.f1 y.f2.f0 y.f2.f1 y.f3 y.f4.f0 y.f4.f1 y.f4.f2 y.f4.f3 y.f4.f4 y.f4.f5 y.f4.f6 = some (fndB x y) := by
  unfold dancestudioref57_founds.f
  by_cases h1 : x.f1 = y.f1
  · rw [if_pos h1]
    by_cases h3 : x.f3 = true
    · rw [if_pos h3]
      congr 1
      unfold fndB fndsE
      rw [h3]
      rfl
    · rw [if_neg h3]
      have h3' : x.f3 = false := by simpa using h3
      by_cases h4 : (x.f0.f0 == y.f2.f0 && (x.f0.f1 == y.f2.f1)) = true
      · rw [if_pos h4]
        congr 1
        rw [Bool.eq_iff_iff]
        simp only [Bool.and_eq_true, beq_iff_eq] at h4
        simp [fndB, fndsE, h3']
        omega
      · rw [if_neg h4]
        congr 1
        symm
        rw [← Bool.not_eq_true]
        simp only [Bool.and_eq_true, beq_iff_eq] at h4
        simp [fndB, fndsE, h3']
        omega
  · rw [if_neg h1]
    congr 1
    symm
    rw [← Bool.not_eq_true]
    simp [fndB]
    intro _ h
    exact absurd h.symm h1
theorem founded_l0 (l : List S30) (hl : l.length ≤ 1000000) (y : S30) : ∀ (m i k : Nat), l.length - i = m → i ≤ l.length → m + 1 ≤ k → dancestudioref57_founded.l0 k l (i : Int) y.f0.f0 y.f0.f1 y.f1 y.f2.f0 y.f2.f1 y.f3 y.f4.f0 y.f4.f1 y.f4.f2 y.f4.f3 y.f4.f4 y.f4.f5 y.f4.f6 = some ((l.drop i).any (fun e => fndB e y))
  | 0, i, k, hm, hi, hk => by
    obtain ⟨k, rfl⟩ : ∃ j, k = j + 1 := ⟨k - 1, by omega⟩
    unfold dancestudioref57_founded.l0
    rw [if_neg (by omega), List.drop_of_length_le (by omega)]
    rfl
  | m + 1, i, k, hm, hi, hk => by
    obtain ⟨k, rfl⟩ : ∃ j, k = j + 1 := ⟨k - 1, by omega⟩
    have hlt : i < l.length := by omega
    unfold dancestudioref57_founded.l0
    rw [if_pos (by omega), if_pos (by omega), rd30_at hlt, founds_eq, Option.bind_some, wrap_nat (by omega), List.drop_eq_getElem_cons hlt, List.any_cons]
    cases fndB l[i] y
    · rw [if_neg (by decide), founded_l0 l hl y m (i + 1) k (by omega) (by omega) (by omega), Bool.false_or]
    · rw [if_pos rfl, Bool.true_or]
theorem founded_eq (k : Nat) (l : List S30) (hl : l.length ≤ 1000000) (y : S30) (hk : l.length + 1 ≤ k) : dancestudioref57_founded.f k l y.f0.f0 y.f0.f1 y.f1 y.f2.f0 y.f2.f1 y.f3 y.f4.f0 y.f4.f1 y.f4.f2 y.f4.f3 y.f4.f4 y.f4.f5 y.f4.f6 = some (kno30 l y) := by
  have := founded_l0 l hl y l.length 0 k (by omega) (by omega) hk
  rw [List.drop_zero] at this
  exact this
theorem rchk_l2 (d : Int) (l : List S30) (hl : l.length ≤ 1000000) : ∀ (m i k : Nat), l.length - i = m → i ≤ l.length → m + l.length + 2 ≤ k → dancestudioref57_Check.l2 k (i : Int) d l = some (if (l.drop i).all (kno30 l) = true then 0 else 6)
  | 0, i, k, hm, hi, hk => by
    obtain ⟨k, rfl⟩ : ∃ j, k = j + 1 := ⟨k - 1, by omega⟩
    unfold dancestudioref57_Check.l2
    rw [if_neg (by omega), List.drop_of_length_le (by omega)]
    rfl
  | m + 1, i, k, hm, hi, hk => by
    obtain ⟨k, rfl⟩ : ∃ j, k = j + 1 := ⟨k - 1, by omega⟩
    have hlt : i < l.length := by omega
    unfold dancestudioref57_Check.l2
    rw [if_pos (by omega), if_pos (by omega), rd30_at hlt, founded_eq k l hl l[i] (by omega), Option.bind_some, wrap_nat (by omega), List.drop_eq_getElem_cons hlt, List.all_cons]
    cases kno30 l l[i]
    · rw [if_neg (by decide), Bool.false_and, if_neg (by decide)]
    · rw [if_pos rfl, rchk_l2 d l hl m (i + 1) k (by omega) (by omega) (by omega), Bool.true_and]
theorem rchk_l1 (d : Int) (l : List S30) (hl : l.length ≤ 1000000) : ∀ (m i k : Nat), l.length - i = m → 1 ≤ i → (i ≤ l.length ∨ i = 1) → m + 2 * l.length + 3 ≤ k → dancestudioref57_Check.l1 k (i : Int) d l = some (if ord30 (l.drop (i - 1)) = true then (if l.all (kno30 l) = true then 0 else 6) else 5)
  | 0, i, k, hm, h1, hi, hk => by
    obtain ⟨k, rfl⟩ : ∃ j, k = j + 1 := ⟨k - 1, by omega⟩
    unfold dancestudioref57_Check.l1
    have ho : ord30 (l.drop (i - 1)) = true := by
      have : (l.drop (i - 1)).length ≤ 1 := by rw [List.length_drop]; omega
      match hd : l.drop (i - 1), this with
      | [], _ => rfl
      | [a], _ => rfl
      | a :: b :: t, h => simp at h
    rw [if_neg (by omega), ho, if_pos rfl]
    have := rchk_l2 d l hl l.length 0 k (by omega) (by omega) (by omega)
    rw [List.drop_zero] at this
    exact this
  | m + 1, i, k, hm, h1, hi, hk => by
    obtain ⟨k, rfl⟩ : ∃ j, k = j + 1 := ⟨k - 1, by omega⟩
    have hlt : i < l.length := by omega
    obtain ⟨p, rfl⟩ : ∃ p, i = p + 1 := ⟨i - 1, by omega⟩
    have hlp : p < l.length := by omega
    unfold dancestudioref57_Check.l1
    have hw : wrap64 (((p + 1 : Nat) : Int) - 1) = (p : Int) := by unfold wrap64; omega
    rw [hw, if_pos (by omega), if_pos (by omega), if_pos (by omega), if_pos (by omega), rd30_at hlp, rd30_at hlt, rless_eq, Option.bind_some, wrap_nat (by omega), Nat.add_sub_cancel, List.drop_eq_getElem_cons hlp, List.drop_eq_getElem_cons hlt]
    show _ = some (if (less26 l[p].f0 l[p + 1].f0 && ord30 (l[p + 1] :: l.drop (p + 1 + 1))) = true then _ else _)
    have hd := List.drop_eq_getElem_cons hlt
    rw [← hd]
    unfold less26
    cases lessP l[p].f0.f0 l[p].f0.f1 l[p + 1].f0.f0 l[p + 1].f0.f1
    · rw [if_neg (by decide), Bool.false_and, if_neg (by decide)]
    · rw [if_pos rfl, Bool.true_and, rchk_l1 d l hl m (p + 1 + 1) k (by omega) (by omega) (by omega) (by omega)]
      rfl
theorem rchk_l0 (d : Int) (l : List S30) (hl : l.length ≤ 1000000) : ∀ (m i k : Nat), l.length - i = m → i ≤ l.length → m + 3 * l.length + 10 ≤ k → dancestudioref57_Check.l0 k (i : Int) d l = some (if chkL30 (l.drop i) = 0 then (if ord30 l = true then (if l.all (kno30 l) = true then 0 else 6) else 5) else chkL30 (l.drop i))
  | 0, i, k, hm, hi, hk => by
    obtain ⟨k, rfl⟩ : ∃ j, k = j + 1 := ⟨k - 1, by omega⟩
    unfold dancestudioref57_Check.l0
    rw [if_neg (by omega), List.drop_of_length_le (by omega)]
    have := rchk_l1 d l hl (l.length - 1) 1 k (by omega) (by omega) (by omega) (by omega)
    rw [show 1 - 1 = 0 from rfl, List.drop_zero] at this
    exact this
  | m + 1, i, k, hm, hi, hk => by
    obtain ⟨k, rfl⟩ : ∃ j, k = j + 1 := ⟨k - 1, by omega⟩
    have hlt : i < l.length := by omega
    unfold dancestudioref57_Check.l0
    obtain ⟨q, rfl⟩ : ∃ q, k = q + 5 := ⟨k - 5, by omega⟩
    rw [if_pos (by omega), if_pos (by omega), rd30_at hlt, rcheck_eq, Option.bind_some, wrap_nat (by omega), List.drop_eq_getElem_cons hlt]
    show _ = some (if (if chk30 l[i] = 0 then chkL30 (l.drop (i + 1)) else chk30 l[i]) = 0 then _ else (if chk30 l[i] = 0 then chkL30 (l.drop (i + 1)) else chk30 l[i]))
    by_cases hz : chk30 l[i] = 0
    · rw [if_pos hz, if_pos (show chkE _ _ _ _ _ _ _ _ _ _ _ _ _ = 0 from hz), rchk_l0 d l hl m (i + 1) (q + 5) (by omega) (by omega) (by omega)]
    · rw [if_neg hz, if_neg (show ¬ chkE _ _ _ _ _ _ _ _ _ _ _ _ _ = 0 from hz), if_neg hz]
      rfl
theorem rchk_eq (k : Nat) (d : Int) (l : List S30) (hl : l.length ≤ 1000000) (hk : 4 * l.length + 20 ≤ k) : dancestudioref57_Check.f k d l = some (rchkP d l) := by
  obtain ⟨k, rfl⟩ : ∃ j, k = j + 1 := ⟨k - 1, by omega⟩
  unfold dancestudioref57_Check.f rchkP
  have h0 := rchk_l0 d l hl l.length 0 k (by omega) (by omega) (by omega)
  rw [List.drop_zero] at h0
  by_cases h1 : d < 1
  · rw [if_pos h1, if_pos (Or.inl h1)]
    rfl
  · rw [if_neg h1]
    show (if decide (d > 64) = true then some 43 else if (l.length : Int) > 512 then some 3 else dancestudioref57_Check.l0 k 0 d l) = _
    by_cases h2 : 64 < d
    · rw [if_pos (Or.inr h2), if_pos (decide_eq_true h2)]
    · rw [if_neg (show ¬ (d < 1 ∨ 64 < d) by omega), if_neg (show ¬ decide (d > 64) = true by simpa using h2)]
      by_cases h3 : 512 < l.length
      · rw [if_pos h3, if_pos (by omega)]
      · rw [if_neg h3, if_neg (by omega)]
        exact h0
theorem rchk_ord {d : Int} {l : List S30} (h : rchkP d l = 0) : ord30 l = true ∧ l.length ≤ 512 ∧ chkL30 l = 0 ∧ l.all (kno30 l) = true ∧ 1 ≤ d ∧ d ≤ 64 := by
  unfold rchkP at h
  split at h
  · cases h
  · split at h
    · cases h
    · split at h
      · split at h
        · split at h
          · exact ⟨by assumption, by omega, by assumption, by assumption, by omega, by omega⟩
          · cases h
        · cases h
      · exact absurd h (by assumption)
end Go.Proofs.Yteopkkoblbmggaa.P
end
