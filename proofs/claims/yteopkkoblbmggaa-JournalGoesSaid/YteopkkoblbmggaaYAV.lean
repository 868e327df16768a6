/- Texts of this claim in one: VWrP; no condition. -/
import Derived.Test.YteopkkoblbmggaaYAD
import Derived.Test.YteopkkoblbmggaaYAI
import Derived.Test.YteopkkoblbmggaaYAK
import Derived.Test.YteopkkoblbmggaaYAJ
import Derived.Test.YteopkkoblbmggaaYAU
import Derived.Test.YteopkkoblbmggaaYAT
section
set_option linter.unusedVariables false
set_option linter.unusedSimpArgs false
namespace Go.Proofs.Yteopkkoblbmggaa.P
open Go.RowKit Go.Proofs.YteopkkoblbmggaaW.PrintWords Go.Proofs.YteopkkoblbmggaaW.PrintLast Go.Proofs.YteopkkoblbmggaaW.PrintMore
def zS26 (x : S26) : Prop := okZ x.f0 ∧ okZ x.f1
def zS28 (x : S28) : Prop := okZ x.f0 ∧ okZ x.f1 ∧ okZ x.f2 ∧ okZ x.f3 ∧ okZ x.f4 ∧ okZ x.f5 ∧ okZ x.f6
/-- An edit's numbers are ints. -/
def zS30 (x : S30) : Prop := zS26 x.f0 ∧ okZ x.f1 ∧ zS26 x.f2 ∧ True ∧ zS28 x.f4
theorem zS_okE {x : S30} (h : zS30 x) : okE x.f0.f0 x.f0.f1 x.f1 x.f2.f0 x.f2.f1 x.f4.f0 x.f4.f1 x.f4.f2 x.f4.f3 x.f4.f4 x.f4.f5 x.f4.f6 := by
  obtain ⟨⟨a, b⟩, c, ⟨d, e⟩, _, f, g, h, i, j, k, l⟩ := h
  exact ⟨a, b, c, d, e, f, g, h, i, j, k, l⟩
theorem zS_okE30 {x : S30} (h : zS30 x) : okE30 x := by
  have e1 : IntKind.i64.min = -9223372036854775808 := rfl
  have e2 : IntKind.i64.max = 9223372036854775807 := rfl
  obtain ⟨_, c, ⟨d, e⟩, _⟩ := h
  unfold okZ at c d e
  refine ⟨?_, ?_, ?_⟩ <;> (unfold okN; simp only [Lit.wf, e1, e2, Bool.and_eq_true, decide_eq_true_eq]; assumption)
/-- The frame of an edit. -/
def frS (x : S30) : List Int := frameB (putB x.f0.f0 x.f0.f1 x.f1 x.f2.f0 x.f2.f1 x.f3 x.f4.f0 x.f4.f1 x.f4.f2 x.f4.f3 x.f4.f4 x.f4.f5 x.f4.f6)
theorem frS_len (x : S30) : (frS x).length ≤ 150 := by
  have h1 := putB_len x.f0.f0 x.f0.f1 x.f1 x.f2.f0 x.f2.f1 x.f3 x.f4.f0 x.f4.f1 x.f4.f2 x.f4.f3 x.f4.f4 x.f4.f5 x.f4.f6
  have h2 := (enc_len ((putB x.f0.f0 x.f0.f1 x.f1 x.f2.f0 x.f2.f1 x.f3 x.f4.f0 x.f4.f1 x.f4.f2 x.f4.f3 x.f4.f4 x.f4.f5 x.f4.f6).length : Int)).2
  have h3 := frameB_len (putB x.f0.f0 x.f0.f1 x.f1 x.f2.f0 x.f2.f1 x.f3 x.f4.f0 x.f4.f1 x.f4.f2 x.f4.f3 x.f4.f4 x.f4.f5 x.f4.f6)
  unfold frS
  omega
def joinP (kp : Nat → Bool) : Nat → List S30 → List Int
  | _, [] => []
  | i, x :: t => (if kp i = true then frS x else []) ++ joinP kp (i + 1) t
theorem chkL_all : ∀ {l : List S30}, chkL30 l = 0 → ∀ x ∈ l, chk30 x = 0
  | [], _, x, hx => by cases hx
  | y :: t, h, x, hx => by
    unfold chkL30 at h
    by_cases hz : chk30 y = 0
    · rw [if_pos hz] at h
      rcases List.mem_cons.1 hx with rfl | hx
      · exact hz
      · exact chkL_all h x hx
    · rw [if_neg hz] at h
      exact absurd h hz
theorem wrP_eq (k : Nat) (hk : 2000 ≤ k) (kp : Nat → Bool) : ∀ (l : List S30) (i : Nat) (out : List Int), (∀ x ∈ l, chk30 x = 0) → (∀ x ∈ l, zS30 x) → out.length + 150 * l.length ≤ 1000000 → wrP k kp i l out = some (out ++ joinP kp i l, 0)
  | [], i, out, _, _, _ => by
    unfold wrP joinP
    rw [List.append_nil]
  | x :: t, i, out, h1, h2, h3 => by
    unfold wrP joinP
    rw [List.length_cons] at h3
    have hx := h1 x List.mem_cons_self
    have hl := frS_len x
    by_cases hq : kp i = true
    · rw [if_pos hq, if_pos hq, append_eq k hk out (by omega) x.f3 (zS_okE (h2 x List.mem_cons_self)), if_pos (show chkE _ _ _ _ _ _ _ _ _ _ _ _ _ = 0 from hx), Option.bind_some]
      dsimp only
      rw [if_pos rfl, wrP_eq k hk kp t (i + 1) _ (fun y hy => h1 y (List.mem_cons_of_mem _ hy)) (fun y hy => h2 y (List.mem_cons_of_mem _ hy)) (by rw [List.length_append]; unfold frS at hl; omega), List.append_assoc]
      rfl
    · rw [if_neg hq, if_neg hq, wrP_eq k hk kp t (i + 1) _ (fun y hy => h1 y (List.mem_cons_of_mem _ hy)) (fun y hy => h2 y (List.mem_cons_of_mem _ hy)) (by omega), List.nil_append]
/-- What is written of a replica. -/
def writP (kp : Nat → Bool) (d : Int) (l : List S30) : List Int × Int := if rchkP d l = 0 then (joinP kp 0 l, 0) else ([], rchkP d l)
theorem wrA_eq (k : Nat) (hk : 2000 ≤ k) (kp : Nat → Bool) (d : Int) (l : List S30) (hz : ∀ x ∈ l, zS30 x) : wrA k kp d l = some (writP kp d l) := by
  unfold wrA writP
  rw [if_pos (fun e he => zS_okE30 (hz e he))]
  by_cases h : rchkP d l = 0
  · obtain ⟨_, h5, hc, _⟩ := rchk_ord h
    rw [if_pos h, if_pos h, wrP_eq k hk kp l 0 [] (chkL_all hc) hz (by simp; omega), List.nil_append]
  · rw [if_neg h, if_neg h]
end Go.Proofs.Yteopkkoblbmggaa.P
end
