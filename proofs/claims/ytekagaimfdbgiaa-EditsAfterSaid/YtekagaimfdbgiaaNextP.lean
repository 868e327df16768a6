/- What edits.Next says, as a plain function; no condition. -/
import Derived.Test.YtekagaimfdbgiaaEditsP
import Derived.Test.YtekagaimfdbgiaaP17
set_option linter.unusedVariables false
set_option linter.unusedSimpArgs false
namespace Go.Proofs.Ytekagaimfdbgiaa.P
open Go.RowKit Go.Proofs.YtekagaimfdbgiaaW.PrintWords Go.Proofs.YtekagaimfdbgiaaW.PrintLast Go.Proofs.YtekagaimfdbgiaaW.PrintMore
def allV (l : List S23) : Bool := l.all fun s => valP s.f0 s.f1
def mxc : Int → List S23 → Int
  | m, [] => m
  | m, s :: l => mxc (mx m s.f0) l
def endN (dev c : Int) (l : List S23) : Int × Int × Int := if allV l = true then (if 1000000 ≤ mxc c l then (0, 0, 43) else (mxc c l + 1, dev, 0)) else (0, 0, 43)
/-- What Next says. -/
def nextP (dev : Int) (l : List S23) : Int × Int × Int := if dev < 1 ∨ 64 < dev then (0, 0, 43) else endN dev 0 l
theorem val_iff (c d : Int) : valP c d = true ↔ 1 ≤ c ∧ c ≤ 1000000 ∧ 1 ≤ d ∧ d ≤ 64 := by simp [valP]
theorem mx_eq (a b : Int) : a ≤ mx a b ∧ b ≤ mx a b ∧ (mx a b = a ∨ mx a b = b) := by unfold mx; split <;> omega
theorem rd23_at {l : List S23} {i : Nat} (h : i < l.length) : rd_T23 l (i : Int) = l[i] := by unfold rd_T23; rw [Int.toNat_natCast]; simp [List.getD, h]
theorem allV_cons {s : S23} (l : List S23) (hv : valP s.f0 s.f1 = true) : allV (s :: l) = allV l := by simp [allV, hv]
theorem allV_bad {s : S23} (l : List S23) (hv : ¬ valP s.f0 s.f1 = true) : ¬ allV (s :: l) = true := by simp [allV, hv]
theorem endN_nil (dev c : Int) : endN dev c [] = if 1000000 ≤ c then (0, 0, 43) else (c + 1, dev, 0) := rfl
theorem endN_cons (dev c : Int) {s : S23} (l : List S23) (hv : valP s.f0 s.f1 = true) : endN dev c (s :: l) = endN dev (mx c s.f0) l := by
  unfold endN; rw [allV_cons l hv]; rfl
theorem endN_bad (dev c : Int) {s : S23} (l : List S23) (hv : ¬ valP s.f0 s.f1 = true) : endN dev c (s :: l) = (0, 0, 43) := by
  unfold endN; rw [if_neg (allV_bad l hv)]
theorem next_l0 (dev : Int) : ∀ (m : Nat) (c : Int) (l : List S23) (i k : Nat), l.length - i = m → i ≤ l.length → l.length < 140737488355328 → 0 ≤ c → c ≤ 1000000 → m < k →
    edits_Next.l0 k dev c l (l.length : Int) (i : Int) = some (endN dev c (l.drop i))
  | 0, c, l, i, k, hm, hi, hl, h0, h1, hk => by
    obtain ⟨k, rfl⟩ : ∃ q, k = q + 1 := ⟨k - 1, by omega⟩
    simp only [edits_Next.l0]
    rw [if_neg (by omega), List.drop_eq_nil_of_le (by omega)]
    rw [endN_nil]
    by_cases h : 1000000 ≤ c
    · rw [if_pos h, if_pos h]
    · rw [if_neg h, if_neg h, wrap_in' _ (by omega) (by omega)]
  | m + 1, c, l, i, k, hm, hi, hl, h0, h1, hk => by
    obtain ⟨k, rfl⟩ : ∃ q, k = q + 1 := ⟨k - 1, by omega⟩
    have hi' : i < l.length := by omega
    simp only [edits_Next.l0]
    rw [if_pos (by omega), if_pos (by omega), if_pos (by omega), rd23_at hi', valid_eq, Option.bind_some, wrap_in' _ (by omega) (by omega), List.drop_eq_getElem_cons hi']
    by_cases hv : valP l[i].f0 l[i].f1 = true
    · rw [if_pos hv]
      have hv' := (val_iff _ _).mp hv
      have hx := mx_eq c l[i].f0
      rw [show ((i : Int) + 1) = ((i + 1 : Nat) : Int) by omega, next_l0 dev m _ l (i + 1) k (by omega) (by omega) hl (by omega) (by omega) (by omega)]
      rw [endN_cons dev c _ hv]
    · rw [if_neg hv, endN_bad dev c _ hv]
theorem next_eq (k : Nat) (dev : Int) (l : List S23) (hl : l.length < 140737488355328) (hk : l.length + 3 ≤ k) : edits_Next.f k dev l = some (nextP dev l) := by
  obtain ⟨k, rfl⟩ : ∃ q, k = q + 1 := ⟨k - 1, by omega⟩
  have e := next_l0 dev l.length 0 l 0 k (by omega) (by omega) hl (by omega) (by omega) (by omega)
  rw [List.drop_zero] at e
  unfold edits_Next.f nextP
  simp only [edits_Next.j0]
  by_cases h1 : dev < 1
  · rw [if_pos h1, if_pos trivial, if_pos (Or.inl h1)]
  · rw [if_neg h1]
    by_cases h2 : 64 < dev
    · rw [if_pos (by simpa using h2), if_pos (Or.inr h2)]
    · rw [if_neg (by simpa using h2), if_neg (by omega)]
      exact e
theorem mxc_ge : ∀ (l : List S23) (c : Int), c ≤ mxc c l ∧ ∀ s ∈ l, s.f0 ≤ mxc c l
  | [], c => ⟨Int.le_refl _, fun s hs => by simp at hs⟩
  | x :: l, c => by
    have h := mxc_ge l (mx c x.f0)
    have hx := mx_eq c x.f0
    refine ⟨by simp only [mxc]; omega, fun s hs => ?_⟩
    simp only [mxc]
    rcases List.mem_cons.mp hs with rfl | hs
    · omega
    · exact h.2 s hs
theorem mxc_mem : ∀ (l : List S23) (c : Int), mxc c l = c ∨ ∃ s ∈ l, s.f0 = mxc c l
  | [], c => Or.inl rfl
  | x :: l, c => by
    have hx := mx_eq c x.f0
    simp only [mxc]
    rcases mxc_mem l (mx c x.f0) with h | ⟨s, hs, h⟩
    · rcases hx.2.2 with e | e
      · exact Or.inl (h.trans e)
      · exact Or.inr ⟨x, List.mem_cons_self, by rw [h, e]⟩
    · exact Or.inr ⟨s, List.mem_cons_of_mem _ hs, h⟩
end Go.Proofs.Ytekagaimfdbgiaa.P
