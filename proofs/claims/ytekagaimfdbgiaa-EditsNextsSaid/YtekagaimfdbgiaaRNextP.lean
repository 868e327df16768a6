/- What the reference's Next says, as the same plain function; no condition. -/
import Derived.Test.YtekagaimfdbgiaaNextP
import Derived.Test.YtekagaimfdbgiaaP28
set_option linter.unusedVariables false
set_option linter.unusedSimpArgs false
namespace Go.Proofs.Ytekagaimfdbgiaa.P
open Go.RowKit Go.Proofs.YtekagaimfdbgiaaW.PrintWords Go.Proofs.YtekagaimfdbgiaaW.PrintLast Go.Proofs.YtekagaimfdbgiaaW.PrintMore
theorem rvalid_eq (c d : Int) : dancestudioref56_Valid.f c d = some (valP c d) := by
  unfold dancestudioref56_Valid.f valP
  by_cases h1 : 1 ≤ c <;> by_cases h2 : c ≤ 1000000 <;> by_cases h3 : 1 ≤ d <;> by_cases h4 : d ≤ 64 <;> simp [h1, h2, h3, h4, GE.ge]
def endR (dev c : Int) (l : List S23) : Int × Int × Int := if allV l = true then (if valP (mxc c l + 1) dev = true then (mxc c l + 1, dev, 0) else (0, 0, 43)) else (0, 0, 43)
theorem endR_nil (dev c : Int) : endR dev c [] = if valP (c + 1) dev = true then (c + 1, dev, 0) else (0, 0, 43) := rfl
theorem endR_cons (dev c : Int) {s : S23} (l : List S23) (hv : valP s.f0 s.f1 = true) : endR dev c (s :: l) = endR dev (mx c s.f0) l := by
  unfold endR; rw [allV_cons l hv]; rfl
theorem endR_bad (dev c : Int) {s : S23} (l : List S23) (hv : ¬ valP s.f0 s.f1 = true) : endR dev c (s :: l) = (0, 0, 43) := by
  unfold endR; rw [if_neg (allV_bad l hv)]
theorem rnext_l0 (dev : Int) : ∀ (m : Nat) (c : Int) (l : List S23) (i k : Nat), l.length - i = m → i ≤ l.length → l.length < 140737488355328 → 0 ≤ c → c ≤ 1000000 → m < k →
    dancestudioref56_Next.l0 k dev l c (i : Int) = some (endR dev c (l.drop i))
  | 0, c, l, i, k, hm, hi, hl, h0, h1, hk => by
    obtain ⟨k, rfl⟩ : ∃ q, k = q + 1 := ⟨k - 1, by omega⟩
    simp only [dancestudioref56_Next.l0]
    rw [if_neg (by omega), List.drop_eq_nil_of_le (by omega), rvalid_eq, wrap_in' _ (by omega) (by omega)]
    rw [endR_nil, Option.bind_some]
    by_cases h : valP (c + 1) dev = true
    · rw [if_pos h, if_pos h]
    · rw [if_neg h, if_neg h]
  | m + 1, c, l, i, k, hm, hi, hl, h0, h1, hk => by
    obtain ⟨k, rfl⟩ : ∃ q, k = q + 1 := ⟨k - 1, by omega⟩
    have hi' : i < l.length := by omega
    simp only [dancestudioref56_Next.l0]
    rw [if_pos (by omega), if_pos (by omega), rd23_at hi', rvalid_eq, Option.bind_some, wrap_in' ((i : Int) + 1) (by omega) (by omega), List.drop_eq_getElem_cons hi']
    by_cases hv : valP l[i].f0 l[i].f1 = true
    · rw [if_pos hv]
      have hv' := (val_iff _ _).mp hv
      have hx := mx_eq c l[i].f0
      rw [show ((i : Int) + 1) = ((i + 1 : Nat) : Int) by omega, rnext_l0 dev m _ l (i + 1) k (by omega) (by omega) hl (by omega) (by omega) (by omega)]
      rw [endR_cons dev c _ hv]
    · rw [if_neg hv, endR_bad dev c _ hv]
theorem mxc_le : ∀ (l : List S23) (c : Int), allV l = true → c ≤ 1000000 → mxc c l ≤ 1000000
  | [], c, _, h => h
  | x :: l, c, hv, h => by
    simp only [allV, List.all_cons, Bool.and_eq_true] at hv
    have hv' := (val_iff _ _).mp hv.1
    have hx := mx_eq c x.f0
    exact mxc_le l _ hv.2 (by omega)
theorem rnext_eq (k : Nat) (dev : Int) (l : List S23) (hl : l.length < 140737488355328) (hk : l.length + 3 ≤ k) : dancestudioref56_Next.f k dev l = some (nextP dev l) := by
  have e := rnext_l0 dev l.length 0 l 0 k (by omega) (by omega) hl (by omega) (by omega) (by omega)
  rw [List.drop_zero] at e
  unfold dancestudioref56_Next.f nextP endN
  refine e.trans ?_
  unfold endR
  by_cases hv : allV l = true
  · have hg := (mxc_ge l 0).1
    have hle := mxc_le l 0 hv (by omega)
    rw [if_pos hv, if_pos hv]
    by_cases h1 : dev < 1 ∨ 64 < dev
    · rw [if_pos h1, if_neg]
      intro h; have := (val_iff _ _).mp h; omega
    · rw [if_neg h1]
      by_cases h2 : 1000000 ≤ mxc 0 l
      · rw [if_pos h2, if_neg]
        intro h; have := (val_iff _ _).mp h; omega
      · rw [if_neg h2, if_pos ((val_iff _ _).mpr (by omega))]
  · rw [if_neg hv, if_neg hv]
    split <;> rfl
end Go.Proofs.Ytekagaimfdbgiaa.P
