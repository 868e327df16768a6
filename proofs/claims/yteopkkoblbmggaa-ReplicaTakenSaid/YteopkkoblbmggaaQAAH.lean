/- Texts of this claim in one: VSymP, VChkE, VNw, VCloneE, VMapS, VFound, VInsK, VIns, VInsJ; no condition. -/
import Derived.Test.YteopkkoblbmggaaQAAE
import Derived.Test.YteopkkoblbmggaaQAAF
import Derived.Test.YteopkkoblbmggaaQAAG
import Derived.Test.YteopkkoblbmggaaQAAA
import Derived.Deep.Light
import Derived.WalkSpells
import Derived.Laws.Cover3
import Derived.Maps.OwnSet
import Derived.Maps.OwnOps
import Derived.DeepKeys4
import Derived.Laws.CopyRow
import Derived.Laws.IdiomCopy
import Derived.Shelf.Spec.SlicesInsert
import Derived.Shelf.Spec.SlicesInsertGrow
section
set_option linter.unusedVariables false
set_option linter.unusedSimpArgs false
namespace Go.Proofs.Yteopkkoblbmggaa.P
open Go.RowKit Go.Proofs.YteopkkoblbmggaaW.PrintWords Go.Proofs.YteopkkoblbmggaaW.PrintLast Go.Proofs.YteopkkoblbmggaaW.PrintMore
theorem Y2j (x : Int) (h0 : -9223372036854775808 ≤ x) (h1 : x ≤ 9223372036854775807) : wrap64 x = x := by unfold wrap64; omega
def colP (k c : Int) : Prop := if k = 1 ∨ k = 2 then c = 0 ∨ c = 1 else if k = 3 then 2 ≤ c ∧ c < 8 else c = 8
instance (k c : Int) : Decidable (colP k c) := by unfold colP; infer_instance
def sayC (k c d v m : Int) : Int :=
  if k = 1 then (if 0 ≤ d ∧ d ≤ 8 ∧ -1 ≤ v ∧ v ≤ 1 then (if m = 0 then 0 else 2) else 1)
  else if k = 2 then (if d = 0 ∧ v = 0 ∧ m = 0 then 0 else 2)
  else if k = 3 then (ofP (c - 2) d v m).2.2.2
  else if k = 4 then (if d = 0 ∧ v = 0 then (if m < -16 ∨ 16 < m ∨ m = 0 then 1 else 0) else 2) else 0
def chkP (k c b l d v m : Int) : Int :=
  if k < 1 ∨ 4 < k then 9
  else if ¬ colP k c then 16
  else if b < 0 ∨ 8191 < b ∨ l < 1 ∨ 8192 - b < l then 1
  else sayC k c d v m
theorem Y6q (j : Nat) (k c b l d v m : Int) (hc : 0 ≤ c ∧ c ≤ 8) : YF.f (j + 1) k c b l d v m = some (sayC k c d v m) := by
  unfold YF.f sayC
  rw [Y2j (c - 2) (by omega) (by omega)]
  by_cases k1 : k = 1
  · rw [if_pos k1, if_pos k1]
    have e : dir_Check.f d v = some (if 0 ≤ d ∧ d ≤ 8 ∧ -1 ≤ v ∧ v ≤ 1 then 0 else 1) := aim_Of.dcheck_eq d v
    rw [e, Option.bind_some]
    by_cases h : 0 ≤ d ∧ d ≤ 8 ∧ -1 ≤ v ∧ v ≤ 1
    · rw [if_pos h, if_pos h, if_pos rfl]; split <;> rfl
    · rw [if_neg h, if_neg h, if_neg (by decide)]
  · rw [if_neg k1, if_neg k1]
    by_cases k2 : k = 2
    · rw [if_pos k2, if_pos k2]
      by_cases h : d = 0 <;> by_cases h' : v = 0 <;> by_cases h'' : m = 0 <;> simp [h, h', h'']
    · rw [if_neg k2, if_neg k2]
      by_cases k3 : k = 3
      · rw [if_pos k3, if_pos k3]
        simp only [aim_Of.f, Option.bind_some]
      · rw [if_neg k3, if_neg k3]
        simp only [YF.j0]
        by_cases k4 : k = 4 <;> by_cases h : d = 0 <;> by_cases h' : v = 0 <;> simp [k4, h, h']
        by_cases a : m < -16 <;> by_cases a' : 16 < m <;> by_cases a'' : m = 0 <;> simp [a, a', a'']
theorem Y5K (k c b l d v m : Int) (h : ¬ (k < 1 ∨ 4 < k)) : Y1c.f k c b l d v m = some (decide (colP k c)) := by
  unfold Y1c.f Y1a.f colP
  grind
theorem Y4G (j : Nat) (x : Bool) (k c b l d v m : Int) (hx : x = false) (h1 : ¬ (k < 1 ∨ 4 < k)) : Yv.j0 (j + 2) x k c b l d v m = some (chkP k c b l d v m) := by
  subst hx
  simp only [Yv.j0, chkP, if_neg h1]
  rw [Y5K k c b l d v m h1, if_neg (by decide)]
  simp only [Option.bind_some, decide_eq_true_eq]
  by_cases h2 : colP k c
  · have hc : 0 ≤ c ∧ c ≤ 8 := by unfold colP at h2; grind
    rw [if_pos h2, if_neg (not_not_intro h2), Y6q j k c b l d v m hc]
    by_cases h3 : b < 0 ∨ 8191 < b
    · rw [if_pos (by omega : b < 0 ∨ 8191 < b ∨ l < 1 ∨ 8192 - b < l)]
      rcases h3 with h3 | h3
      · rw [if_pos h3]
      · rw [if_neg (by omega), if_pos (by omega)]
    · rw [Y2j (8192 - b) (by omega) (by omega), if_neg (by omega), if_neg (by omega)]
      by_cases h4 : l < 1 ∨ 8192 - b < l
      · rw [if_pos (by omega : b < 0 ∨ 8191 < b ∨ l < 1 ∨ 8192 - b < l)]
        rcases h4 with h4 | h4
        · rw [if_pos h4]
        · by_cases h5 : l < 1
          · rw [if_pos h5]
          · rw [if_neg h5, if_pos (by omega)]
      · rw [if_neg (by omega), if_neg (by omega), if_neg (by omega : ¬ (b < 0 ∨ 8191 < b ∨ l < 1 ∨ 8192 - b < l))]
        rfl
  · rw [if_neg h2, if_pos h2]
theorem Y35 (j : Nat) (k c b l d v m : Int) : Yv.f (j + 2) k c b l d v m = some (chkP k c b l d v m) := by
  unfold Yv.f
  by_cases h1 : k < 1 ∨ 4 < k
  · have e : chkP k c b l d v m = 9 := by rw [chkP, if_pos h1]
    rw [e]
    rcases h1 with h1 | h1
    · rw [if_pos h1]; simp [Yv.j0]
    · rw [if_neg (by omega)]; simp [Yv.j0, h1]
  · rw [if_neg (by omega)]
    exact Y4G j _ k c b l d v m (by simp; omega) h1
def valP (c d : Int) : Bool := decide (1 ≤ c ∧ c ≤ 1000000 ∧ 1 ≤ d ∧ d ≤ 64)
def lessP (a b c d : Int) : Bool := decide (a < c ∨ a = c ∧ b < d)
theorem Y5Q (c d : Int) : Y19.f c d = some (valP c d) := by
  unfold Y19.f valP
  by_cases h1 : 1 ≤ c <;> by_cases h2 : c ≤ 1000000 <;> by_cases h3 : 1 ≤ d <;> by_cases h4 : d ≤ 64 <;> simp [h1, h2, h3, h4, GE.ge]
theorem Y1F (a b c d : Int) : YW.f a b c d = some (lessP a b c d) := by
  unfold YW.f lessP
  by_cases h1 : a < c
  · simp [h1]
  · by_cases h2 : a = c <;> simp [h1, h2]
def chkE (a0 a1 a2 a3 a4 : Int) (a5 : Bool) (a6 a7 a8 a9 a10 a11 a12 : Int) : Int :=
  if valP a0 a1 = false ∨ valP a3 a4 = false ∨ lessP a0 a1 a3 a4 = true then 43
  else if a2 < 0 ∨ 12 ≤ a2 then 33
  else if a5 = true then (if a6 = 0 ∧ a7 = 0 ∧ a8 = 0 ∧ a9 = 0 ∧ a10 = 0 ∧ a11 = 0 ∧ a12 = 0 then 0 else 2)
  else chkP a6 a7 a8 a9 a10 a11 a12
theorem Y6E (j : Nat) (x : Bool) (a0 a1 a2 a3 a4 : Int) (a5 : Bool) (a6 a7 a8 a9 a10 a11 a12 : Int) :
    Yq.j0 (j + 4) x a0 a1 a2 a3 a4 a5 a6 a7 a8 a9 a10 a11 a12 = some (if x = true then 43 else if a2 < 0 ∨ 12 ≤ a2 then 33
      else if a5 = true then (if a6 = 0 ∧ a7 = 0 ∧ a8 = 0 ∧ a9 = 0 ∧ a10 = 0 ∧ a11 = 0 ∧ a12 = 0 then 0 else 2) else chkP a6 a7 a8 a9 a10 a11 a12) := by
  simp only [Yq.j0, Yq.j1, Y35, Option.bind_some]
  cases x
  · simp only [Bool.false_eq_true, if_false, if_true]
    by_cases h1 : a2 < 0
    · rw [if_pos h1, if_pos (Or.inl h1)]
    · rw [if_neg h1]
      by_cases h2 : 12 ≤ a2
      · rw [if_pos (by simpa using h2), if_pos (Or.inr h2)]
      · rw [if_neg (by simpa using h2), if_neg (show ¬ (a2 < 0 ∨ 12 ≤ a2) by omega)]
        cases a5
        · simp
        · simp only [if_true]
          by_cases h : a6 = 0 ∧ a7 = 0 ∧ a8 = 0 ∧ a9 = 0 ∧ a10 = 0 ∧ a11 = 0 ∧ a12 = 0
          · obtain ⟨rfl, rfl, rfl, rfl, rfl, rfl, rfl⟩ := h
            rfl
          · rw [if_neg h, if_pos]
            simp only [Bool.or_eq_true, Bool.not_eq_true', beq_eq_false_iff_ne]
            by_cases b1 : a6 = 0
            · by_cases b2 : a7 = 0
              · by_cases b3 : a8 = 0
                · by_cases b4 : a9 = 0
                  · by_cases b5 : a10 = 0
                    · by_cases b6 : a11 = 0
                      · by_cases b7 : a12 = 0
                        · exact absurd ⟨b1, b2, b3, b4, b5, b6, b7⟩ h
                        · exact Or.inr (Or.inr (Or.inr (Or.inr (Or.inr (Or.inr b7)))))
                      · exact Or.inr (Or.inr (Or.inr (Or.inr (Or.inr (Or.inl b6)))))
                    · exact Or.inr (Or.inr (Or.inr (Or.inr (Or.inl b5))))
                  · exact Or.inr (Or.inr (Or.inr (Or.inl b4)))
                · exact Or.inr (Or.inr (Or.inl b3))
              · exact Or.inr (Or.inl b2)
            · exact Or.inl b1
  · simp
theorem Y4o (j : Nat) (a0 a1 a2 a3 a4 : Int) (a5 : Bool) (a6 a7 a8 a9 a10 a11 a12 : Int) :
    Yq.f (j + 4) a0 a1 a2 a3 a4 a5 a6 a7 a8 a9 a10 a11 a12 = some (chkE a0 a1 a2 a3 a4 a5 a6 a7 a8 a9 a10 a11 a12) := by
  unfold Yq.f chkE
  simp only [Y5Q, Y1F, Option.bind_some, Y6E]
  cases h1 : valP a0 a1 <;> cases h2 : valP a3 a4 <;> cases h3 : lessP a0 a1 a3 a4 <;> simp
end Go.Proofs.Yteopkkoblbmggaa.P
end
section
namespace Go.Proofs.YteopkkoblbmggaaW.PrintWords
open Go.RowKit

end Go.Proofs.YteopkkoblbmggaaW.PrintWords
end
section
set_option linter.unusedVariables false
set_option linter.unusedSimpArgs false
namespace Go.Proofs.Yteopkkoblbmggaa.P
open Go.RowKit Go.Proofs.YteopkkoblbmggaaW.PrintWords Go.Proofs.YteopkkoblbmggaaW.PrintLast Go.Proofs.YteopkkoblbmggaaW.PrintMore
theorem Y6e (w : World) (t e : TypeId) (a : Option Addr) (l c : Nat) (h : Try.prog.underlying t = some (.slice e)) : (binOp .eql t (.slice a l c) (.slice none 0 0)).run Try.prog w = .ok (.bool a.isNone) w := by
  simp only [binOp]
  simp [run_equal_slice_nil w t e a l c h]
def slices_Clone_edits.f (l0 : List S30) : Option (List S30) := if l0.length ≤ 1000000000000 then some l0 else none
set_option maxHeartbeats 4000000 in
set_option maxRecDepth 100000 in
theorem slices_Clone_edits.calls (A0 : Option Addr) (c0 : Nat) (l0 r : List S30) (w : World) (hr0 : Kd.C k30 w A0 l0.length l0) (hc0 : l0.length ≤ c0) (h : slices_Clone_edits.f l0 = some r) :
    Calls Try.prog 55 #[.slice A0 l0.length c0] w fun e w' => ∃ v_ : Value, e = .returned v_ ∧ Kd.R k30 30 w' w.heap.size (fun _ => True) v_ r ∧ Below w.heap.size w w' := by
  unfold slices_Clone_edits.f at h
  by_cases hl : l0.length ≤ 1000000000000
  rotate_left
  · rw [if_neg hl] at h; cases h
  rw [if_pos hl] at h
  cases h
  have HR := Y0.mk hr0
  have HL := Y0.mk hl
  have HB := Y0.mk (Below.refl w.heap.size w)
  have hus := Try.underlying22
  have hen := fun (w : World) (a : Option Addr) (l c : Nat) => Y6e w _ _ a l c hus
  clear hl
  cases A0 with
  | none =>
    have hn : l0 = [] := by
      rcases Nat.eq_zero_or_pos l0.length with h0 | h0
      · exact List.length_eq_zero_iff.mp h0
      · obtain ⟨ad, e, _⟩ := hr0.2.2 h0
        cases e
    subst hn
    clear hr0
    go_enter Try.func55, Try.ntmps55
    go_wp2
    go_ret
    exact ⟨_, rfl, Kd.R_nil _ _ _ _ _, HB.out⟩
  | some ad =>
    clear hr0
    go_enter Try.func55, Try.ntmps55
    go_wp2_with (first | ((with_reducible refine Ye (N := 5) rfl ?_); refine Kd.R_lit k30 (w0 := w) w.heap.size 30 ?hg (N := 5) ?hd (xs := []) (inner := []) (ok := fun _ => True) (okp := fun _ => True) ?hr (Reps.none _ _) (fun _ hk => hk) trivial HB.out (Nat.le_refl _) (by simp) ?_; (case hd => rfl); (case hg => rfl); (case hr => first | (go_simp; done) | (go_simp; rfl)); intro v1 w1 ho hb hg_ hnew_; have HO := Y0.mk ho; have HB1 := Y0.mk hb; clear ho hb hg_ hnew_) | ((with_reducible refine Ye (N := 7) rfl ?_); at_builtin; refine Kd.R_append_rows k30 (w0 := w) w.heap.size rfl (.tmp 5) (.tmp 6) 22 30 (.agg #[(.int .i64 0), (.int .i64 0), (.int .i64 0), (.int .i64 0), (.int .i64 0), (.bool false), (.int .i64 0), (.int .i64 0), (.int .i64 0), (.int .i64 0), (.int .i64 0), (.int .i64 0), (.int .i64 0)]) 104 rfl Try.underlying22 Y2P rfl (by decide) (by omega) v1 [] l0 (some ad) l0.length c0 (fun _ => True) (fun _ => False) rfl rfl HO.out (Kd.C_below HR.out HB1.out) (fun _ _ h => h) (fun _ h => h.elim) (fun _ _ => trivial) HB1.out (Yf HB1.out) (by have := HL.out; simp; omega) ?_; intro v2 w2 ho hb hg_ hnew_; have HO2 := Y0.mk ho; have HB2 := Y0.mk hb; clear ho hb hg_ hnew_))
    go_ret
    exact ⟨_, rfl, by have h_ := HO2.out; rw [List.nil_append] at h_; exact h_, HB2.out⟩
end Go.Proofs.Yteopkkoblbmggaa.P
end
section
set_option linter.unusedVariables false
set_option linter.unusedSimpArgs false
namespace Go.Proofs.Yteopkkoblbmggaa.P
open Go.RowKit Go.Maps Go.Proofs.YteopkkoblbmggaaW.PrintWords Go.Proofs.YteopkkoblbmggaaW.PrintLast Go.Proofs.YteopkkoblbmggaaW.PrintMore
theorem Y5G : laidOutB Try.prog = true := by kernel_rfl
theorem rowS : (82 : TypeId) < Try.prog.types.size := of_decide_eq_true (by kernel_rfl)
theorem wideS : (match Try.prog.underlying 82 with | some (.array _ _) | some (.struct _) => true | _ => false) = true := by kernel_rfl
set_option maxRecDepth 100000 in
theorem lawS : Go.Maps.Keyed Try.prog 82 := Go.Maps.Keyed.of_law (deep_law_laid Y5G (m := 3) (by omega) rowS (by kernel_rfl) wideS)
theorem keyTS : Try.prog.keyType 82 = true := by kernel_rfl
theorem Y5T : Try.prog.cellsOf 82 = 3 := by kernel_rfl
theorem Y6D : Try.prog.cellsOf 26 = 2 := by kernel_rfl
theorem Y6C : Try.prog.cellsOf 3 = 1 := by kernel_rfl
theorem sizeS : ∃ m, Try.prog.types.size = m + 3 := ⟨Try.prog.types.size - 3, by have : 3 ≤ Try.prog.types.size := of_decide_eq_true (by kernel_rfl); omega⟩
def okN (n : Int) : Prop := (Lit.int .i64 n).wf = true
def kS (p c d : Int) : Lit := .string (keyBytes [.int .i64 p, .int .i64 c, .int .i64 d])
theorem Y1x {p c d : Int} (h1 : okN p) (h2 : okN c) (h3 : okN d) : keyOf Try.prog 82 (.agg #[.int .i64 p, .int .i64 c, .int .i64 d]) = some (kS p c d) := by
  unfold okN at h1 h2 h3
  obtain ⟨m, hm⟩ := sizeS
  unfold keyOf
  rw [Try.underlying82]
  simp only [keyTS, Value.formed, Try.underlying82, Y5T, hm]
  simp [Program.keyLits, Try.underlying82, Try.underlying26, Try.underlying3, Y5T, Y6D, Y6C, h1, h2, h3, Value.cells, kS]
  rw [if_pos (by decide)]; rfl
theorem Y5X {p c d p' c' d' : Int} (h1 : okN p) (h2 : okN c) (h3 : okN d) (h1' : okN p') (h2' : okN c') (h3' : okN d') (h : kS p c d = kS p' c' d') : p = p' ∧ c = c' ∧ d = d' := by
  have := lawS.inj (Y1x h1 h2 h3) (h ▸ Y1x h1' h2' h3')
  simp at this
  exact this
theorem Y1T {H : Type} {P : Program} {e : TypeId} (he : P.underlying e = some .bool) {v : Value} {z : DataW H × List MemPlace} (h : plainElem P e v = some z) : ∃ x, v = .bool x ∧ z = (.lit (.bool x), []) := by
  unfold plainElem at h
  rw [he] at h
  cases v <;> simp at h
  exact ⟨_, rfl, h.symm⟩
theorem zeroB (w : World) : (zeroValue 4).run Try.prog w = .ok (.bool false) w := by kernel_rfl
theorem Y1V {H : Type} {P : Program} (w : World) {ops : Array Oper} {rest : List Oper} {o : Oper} {a : Act} {Q : Exit → Act → World → Prop}
    (hg : o.guard = none) (m x : Operand) (t : TypeId) (hop : o.op = Op.lookup t m x false)
    (k e : TypeId) (K : Keyed P k) (ht : P.underlying t = some (.map k e)) (he : P.underlying e = some .bool) (hz : (zeroValue e).run P w = .ok (.bool false) w) (b n : Nat) (D : DataW H)
    (hm : a.eval m = .map (some b)) (hown : w.ownsMap P k (plainElem P e) b n D) (key : Value) (kl : Lit) (hx : a.eval x = key) (hkey : keyOf P k key = some kl) (r : Bool) (hr : D.atKey kl (.lit (.bool false)) = .lit (.bool r))
    (hK : wpList P ops Q rest (a.put o.dst (.bool r)) w) :
    wpList P ops Q (o :: rest) a w := by
  refine wpList_plain hg fun K' hK' => ?_
  obtain ⟨v, ps, hrun, hv⟩ := hown.lookup K ht hz (plainElem_bool he false) hkey
  obtain ⟨c, rfl, hc⟩ := Y1T he hv
  simp only [Prod.mk.injEq] at hc
  have hcr : c = r := by
    have := hc.1.symm.trans hr
    simpa using this
  subst hcr
  unfold Oper.wp
  simp [execOp, hop, hm, hx, hrun, Result.andThen]
  exact hK' _ _ hK
def SaysB (D : DataW Unit) (f : Int → Int → Int → Bool) : Prop := ∀ p c d, okN p → okN c → okN d → D.atKey (kS p c d) (.lit (.bool false)) = .lit (.bool (f p c d))
theorem Y5i {D : DataW Unit} {f : Int → Int → Int → Bool} (h : SaysB D f) (hD : IsMap D) {p c d : Int} (h1 : okN p) (h2 : okN c) (h3 : okN d) :
    SaysB (D.put (kS p c d) (.lit (.bool true))) (fun p' c' d' => f p' c' d' || decide (p' = p ∧ c' = c ∧ d' = d)) := by
  intro p' c' d' g1 g2 g3
  by_cases e : p' = p ∧ c' = c ∧ d' = d
  · obtain ⟨rfl, rfl, rfl⟩ := e
    rw [atKey_put_same hD (lawS.key (Y1x h1 h2 h3))]
    simp
  · have hne : kS p' c' d' ≠ kS p c d := fun q => e (Y5X g1 g2 g3 h1 h2 h3 q)
    rw [atKey_put_other hne, h p' c' d' g1 g2 g3]
    simp [e]
end Go.Proofs.Yteopkkoblbmggaa.P
end
section
set_option linter.unusedVariables false
set_option linter.unusedSimpArgs false
namespace Go.Proofs.Yteopkkoblbmggaa.P
open Go.RowKit Go.Maps Go.Proofs.YteopkkoblbmggaaW.PrintWords Go.Proofs.YteopkkoblbmggaaW.PrintLast Go.Proofs.YteopkkoblbmggaaW.PrintMore
attribute [local go_sem high] eqA26
theorem Y1l {xs : List S30} {i : Nat} (h : i < xs.length) : Y8 xs (i : Int) = xs[i] := by
  unfold Y8; rw [Int.toNat_natCast, List.getD_eq_getElem?_getD, List.getElem?_eq_getElem h, Option.getD_some]
def fndsE (e : S30) : Bool := !e.f3 && (e.f0.f0 == e.f2.f0 && (e.f0.f1 == e.f2.f1))
def fouB (l : List S30) (p c d : Int) : Bool := l.any (fun e => fndsE e && decide (p = e.f1 ∧ c = e.f2.f0 ∧ d = e.f2.f1))
def okE30 (e : S30) : Prop := okN e.f1 ∧ okN e.f2.f0 ∧ okN e.f2.f1
theorem Y50 (l : List S30) (i : Nat) (h : i < l.length) : (fun p c d => fouB (l.take (i + 1)) p c d) = fun p c d => fouB (l.take i) p c d || (fndsE l[i] && decide (p = l[i].f1 ∧ c = l[i].f2.f0 ∧ d = l[i].f2.f1)) := by
  funext p c d
  unfold fouB
  rw [List.take_add_one, List.getElem?_eq_getElem h, List.any_append]
  simp
set_option maxHeartbeats 4000000 in
set_option maxRecDepth 100000 in
theorem Y1X (A0 : Option Addr) (c0 : Nat) (l0 : List S30) (w : World) (hr0 : Kd.C k30 w A0 l0.length l0) (hc0 : l0.length ≤ c0) (hlen : l0.length ≤ 1000000) (hv : ∀ e ∈ l0, okE30 e) :
    Calls Try.prog 57 #[.slice A0 l0.length c0] w fun e w' => ∃ B D, e = .returned (.map (some B)) ∧ World.ownsMap (H := Unit) w' Try.prog 82 (plainElem Try.prog 4) B l0.length D ∧ SaysB D (fouB l0) ∧ w.heap.size ≤ B ∧ Below w.heap.size w w' := by
  have HR := Y0.mk hr0
  have HC := Y0.mk hc0
  have HN := Y0.mk hlen
  have HV := Y0.mk hv
  have HB := Y0.mk (Below.refl w.heap.size w)
  have hmm := @run_makeMap Try.prog
  clear hr0 hc0 hlen hv
  go_enter Try.func57, Try.ntmps57
  go_wp2
  go_loopg [9] l0.length (fun kq v9 W => ∃ (i : Nat) (D : DataW Unit), v9 = .int .i64 (i : Int) ∧ Y0 (i + kq = l0.length) ∧ Y0 (World.ownsMap W Try.prog 82 (plainElem Try.prog 4) w.heap.size i D) ∧ Y0 (SaysB D (fouB (l0.take i))) ∧ Y0 (Below w.heap.size w W))
  case atStart => exact ⟨0, .map [], rfl, ⟨by omega⟩, ⟨World.ownsMap_made _ _ _ _⟩, ⟨fun p c d _ _ _ => rfl⟩, ⟨Ys (Below.refl _ _) _⟩⟩
  case round =>
    clear HB
    obtain ⟨i, D, rfl, HK, HO, HS, HB⟩ := hrel
    cases gk with
    | zero =>
      have hi : i = l0.length := by have := HK.out; omega
      have hlt : decide (i < l0.length) = false := by simp; omega
      have ho := HO.out
      have hs := HS.out
      rw [hi, List.take_length] at hs
      rw [hi] at ho
      clear hi HO HS
      have HO := Y0.mk ho
      have HS := Y0.mk hs
      clear ho hs
      go_wp2
      go_ret
      exact ⟨_, D, rfl, HO.out, HS.out, Nat.le_refl _, HB.out⟩
    | succ k1 =>
      have hi : i < l0.length := by have := HK.out; omega
      have hlt : decide (i < l0.length) = true := by simp; exact hi
      obtain ⟨ad, e0, hx0, hx1, hx2, hx3, hx4, hx5, hx6, hx7, hx8, hx9, hx10, hx11, hx12⟩ := Y1i HR.out (i : Int) (by omega) (by omega)
      cases e0
      rw [Int.toNat_natCast] at hx0 hx1 hx2 hx3 hx4 hx5 hx6 hx7 hx8 hx9 hx10 hx11 hx12
      rw [Y1l hi] at hx0 hx1 hx2 hx3 hx4 hx5 hx6 hx7 hx8 hx9 hx10 hx11 hx12
      replace hx0 := (HB.out.cell (World.block_lt_of_cell? w _ hx0)).trans hx0
      replace hx1 := (HB.out.cell (World.block_lt_of_cell? w _ hx1)).trans hx1
      replace hx2 := (HB.out.cell (World.block_lt_of_cell? w _ hx2)).trans hx2
      replace hx3 := (HB.out.cell (World.block_lt_of_cell? w _ hx3)).trans hx3
      replace hx4 := (HB.out.cell (World.block_lt_of_cell? w _ hx4)).trans hx4
      replace hx5 := (HB.out.cell (World.block_lt_of_cell? w _ hx5)).trans hx5
      replace hx6 := (HB.out.cell (World.block_lt_of_cell? w _ hx6)).trans hx6
      replace hx7 := (HB.out.cell (World.block_lt_of_cell? w _ hx7)).trans hx7
      replace hx8 := (HB.out.cell (World.block_lt_of_cell? w _ hx8)).trans hx8
      replace hx9 := (HB.out.cell (World.block_lt_of_cell? w _ hx9)).trans hx9
      replace hx10 := (HB.out.cell (World.block_lt_of_cell? w _ hx10)).trans hx10
      replace hx11 := (HB.out.cell (World.block_lt_of_cell? w _ hx11)).trans hx11
      replace hx12 := (HB.out.cell (World.block_lt_of_cell? w _ hx12)).trans hx12
      have q0 : (0 ≤ ((i : Nat) : Int)) = True := by simp
      have q1 : (((i : Nat) : Int) < (l0.length : Int)) = True := by simp; exact hi
      have HT := Y0.mk (Y50 l0 i hi)
      have HE := Y0.mk (HV.out _ (List.getElem_mem hi))
      generalize l0[i]'hi = x at hx0 hx1 hx2 hx3 hx4 hx5 hx6 hx7 hx8 hx9 hx10 hx11 hx12 HT HE
      have HI := Y0.mk hi
      clear hi
      go_upto_region 5 with (fail)
      have HB1 : Y0 (Below w.heap.size w (wr.alloc (.cells #[.int .i64 x.f0.f0, .int .i64 x.f0.f1, .int .i64 x.f1, .int .i64 x.f2.f0, .int .i64 x.f2.f1, .bool x.f3, .int .i64 x.f4.f0, .int .i64 x.f4.f1, .int .i64 x.f4.f2, .int .i64 x.f4.f3, .int .i64 x.f4.f4, .int .i64 x.f4.f5, .int .i64 x.f4.f6] 30))) := ⟨Ys HB.out _⟩
      have HO1 : Y0 (World.ownsMap (H := Unit) (wr.alloc (.cells #[.int .i64 x.f0.f0, .int .i64 x.f0.f1, .int .i64 x.f1, .int .i64 x.f2.f0, .int .i64 x.f2.f1, .bool x.f3, .int .i64 x.f4.f0, .int .i64 x.f4.f1, .int .i64 x.f4.f2, .int .i64 x.f4.f3, .int .i64 x.f4.f4, .int .i64 x.f4.f5, .int .i64 x.f4.f6] 30)) Try.prog 82 (plainElem Try.prog 4) w.heap.size i D) := ⟨HO.out.alloc _⟩
      have B5 : Y0 ((wr.alloc (.cells #[.int .i64 x.f0.f0, .int .i64 x.f0.f1, .int .i64 x.f1, .int .i64 x.f2.f0, .int .i64 x.f2.f1, .bool x.f3, .int .i64 x.f4.f0, .int .i64 x.f4.f1, .int .i64 x.f4.f2, .int .i64 x.f4.f3, .int .i64 x.f4.f4, .int .i64 x.f4.f5, .int .i64 x.f4.f6] 30)).heap[wr.heap.size]? = some (.cells #[.int .i64 x.f0.f0, .int .i64 x.f0.f1, .int .i64 x.f1, .int .i64 x.f2.f0, .int .i64 x.f2.f1, .bool x.f3, .int .i64 x.f4.f0, .int .i64 x.f4.f1, .int .i64 x.f4.f2, .int .i64 x.f4.f3, .int .i64 x.f4.f4, .int .i64 x.f4.f5, .int .i64 x.f4.f6] 30 (0, 0))) := ⟨Y1f _ _⟩
      generalize (wr.alloc (.cells #[.int .i64 x.f0.f0, .int .i64 x.f0.f1, .int .i64 x.f1, .int .i64 x.f2.f0, .int .i64 x.f2.f1, .bool x.f3, .int .i64 x.f4.f0, .int .i64 x.f4.f1, .int .i64 x.f4.f2, .int .i64 x.f4.f3, .int .i64 x.f4.f4, .int .i64 x.f4.f5, .int .i64 x.f4.f6] 30)) = W1 at HB1 HO1 B5 ⊢
      generalize wr.heap.size = g5 at B5 ⊢
      clear HO HB hx0 hx1 hx2 hx3 hx4 hx5 hx6 hx7 hx8 hx9 hx10 hx11 hx12
      have hc5 := Y2 B5.out
      have skip_ : fndsE x = false → SaysB D (fouB (l0.take (i + 1))) := fun e => by
        have h := HT.out
        rw [e] at h
        simp only [Bool.false_and, Bool.or_false] at h
        have h2 := HS.out
        unfold SaysB at h2 ⊢
        intro p c d g1 g2 g3
        rw [h2 p c d g1 g2 g3, congrFun (congrFun (congrFun h p) c) d]
      have HSK := Y0.mk skip_
      clear skip_
      by_cases c0_ : x.f3 = true
      · have hf : fndsE x = false := by unfold fndsE; rw [c0_]; rfl
        have HF := Y0.mk hf
        clear hf
        go_wp2
        go_roundg k1
        case measure => have := HK.out; omega
        case rel => exact ⟨i + 1, D, by first | (simp; done) | (simp; unfold wrap64; have := HN.out; have := HI.out; omega), ⟨by have := HK.out; omega⟩, ⟨HO1.out.mono (Nat.le_succ _)⟩, ⟨HSK.out HF.out⟩, HB1⟩
      · have c0b : x.f3 = false := Bool.eq_false_iff.mpr c0_
        clear c0_
        by_cases c1_ : x.f0.f0 = x.f2.f0
        · have b1_ : (x.f0.f0 == x.f2.f0) = true := beq_iff_eq.mpr c1_
          by_cases c2_ : x.f0.f1 = x.f2.f1
          · have b2_ : (x.f0.f1 == x.f2.f1) = true := beq_iff_eq.mpr c2_
            have hf : fndsE x = true := by unfold fndsE; rw [c0b, b1_, b2_]; rfl
            have hput := Y5i HS.out HO1.out.isMap HE.out.1 HE.out.2.1 HE.out.2.2
            have HP : Y0 (SaysB (D.put (kS x.f1 x.f2.f0 x.f2.f1) (.lit (.bool true))) (fouB (l0.take (i + 1)))) := ⟨by
              have h := HT.out
              rw [hf] at h
              simp only [Bool.true_and] at h
              intro p c d g1 g2 g3
              rw [hput p c d g1 g2 g3, congrFun (congrFun (congrFun h p) c) d]⟩
            clear hput hf c1_ c2_
            go_wp2_with (first | (at_mapUpdate; refine wpList_mapUpdate_own _ rfl _ _ _ 79 rfl 82 4 lawS Try.underlying79 _ w.heap.size i D rfl HO1.out (by unfold maxLen; have := HN.out; have := HI.out; omega) _ _ _ rfl rfl (Y1x HE.out.1 HE.out.2.1 HE.out.2.2) _ [] (plainElem_bool Try.underlying4 true) ?_; intro w1 hown1 hgrow1; have HO2 := Y0.mk hown1; have HB2 := Y0.mk (HB1.out.grown hgrow1 (Yf HB1.out) (fun j hj => by cases hj; exact Nat.le_refl _)); clear hown1 hgrow1))
            go_roundg k1
            case measure => have := HK.out; omega
            case rel => exact ⟨i + 1, _, by first | (simp; done) | (simp; unfold wrap64; have := HN.out; have := HI.out; omega), ⟨by have := HK.out; omega⟩, HO2, HP, HB2⟩
          · have b2_ : (x.f0.f1 == x.f2.f1) = false := beq_eq_false_iff_ne.mpr c2_
            have hf : fndsE x = false := by unfold fndsE; rw [b2_, Bool.and_false, Bool.and_false]
            have HF := Y0.mk hf
            clear hf c1_ c2_
            go_wp2
            go_roundg k1
            case measure => have := HK.out; omega
            case rel => exact ⟨i + 1, D, by first | (simp; done) | (simp; unfold wrap64; have := HN.out; have := HI.out; omega), ⟨by have := HK.out; omega⟩, ⟨HO1.out.mono (Nat.le_succ _)⟩, ⟨HSK.out HF.out⟩, HB1⟩
        · have b1_ : (x.f0.f0 == x.f2.f0) = false := beq_eq_false_iff_ne.mpr c1_
          have hf : fndsE x = false := by unfold fndsE; rw [b1_, Bool.false_and, Bool.and_false]
          have HF := Y0.mk hf
          clear hf c1_
          go_wp2
          go_roundg k1
          case measure => have := HK.out; omega
          case rel => exact ⟨i + 1, D, by first | (simp; done) | (simp; unfold wrap64; have := HN.out; have := HI.out; omega), ⟨by have := HK.out; omega⟩, ⟨HO1.out.mono (Nat.le_succ _)⟩, ⟨HSK.out HF.out⟩, HB1⟩
end Go.Proofs.Yteopkkoblbmggaa.P
end
section
set_option linter.unusedVariables false
namespace Go.Proofs.Yteopkkoblbmggaa.P
open Go
theorem Y1J {P : Program} (w : World) (dT sT ty elem : TypeId) (g o dLen dCap : Nat) (a : Addr) (sLen sCap sz : Nat) (cur : Array Value) (t : TypeId) (cs : List Value)
    (hu : P.underlying dT = some (.slice elem)) (hs : (P.info? elem).map (·.size) = some sz)
    (hg : w.heap[g]? = some (.cells cur t (0, 0))) (hn : cs.length = Nat.min sLen dLen * sz)
    (hsrc : ∀ j v, cs[j]? = some v → w.cell? (a.add j) = some v) (hfit : o + cs.length ≤ cur.size) (h1 : ∀ v ∈ cs, v.oneCell' = true) :
    (Builtin.copy_ #[dT, sT] ty #[.slice (some ⟨g, o, none⟩) dLen dCap, .slice (some a) sLen sCap]).run P w =
      .ok (goInt (Nat.min sLen dLen)) (w.setRow g (cur.toList.take o ++ cs ++ cur.toList.drop (o + cs.length)).toArray) := by
  have hl := run_loadCells_list (P := P) w a cs hsrc
  have hst := run_storeCells_at P g o t cs 0 cur w hg (by simpa using hfit) h1
  cases hq : P.info? elem with
  | none => simp [hq] at hs
  | some i =>
    have hi : i.size = sz := by simpa [hq] using hs
    simp [Builtin.copy_, run_underlying hu, Builtin.lenOf, Builtin.firstCells, sizeOf, typeInfo, hq, hi, ← hn, hl, hst]
end Go.Proofs.Yteopkkoblbmggaa.P
end
section
set_option linter.unusedVariables false
set_option linter.unusedSimpArgs false
namespace Go.Proofs.Yteopkkoblbmggaa.P
open Go.RowKit Go.Lib Go.Proofs.YteopkkoblbmggaaW.PrintWords Go.Proofs.YteopkkoblbmggaaW.PrintLast Go.Proofs.YteopkkoblbmggaaW.PrintMore
theorem Y6N (w : World) : (Go.sizeOf 30).run Try.prog w = .ok 13 w := by kernel_rfl
theorem Y3v : (Try.prog.info? 30).map (·.size) = some 13 := by kernel_rfl
set_option maxHeartbeats 8000000 in
set_option maxRecDepth 100000 in
theorem Y53 (g cap n i vb : Nat) (cur : Array Value) (ec : List Value) (w : World) (hi : i < n) (hroom : n + 1 ≤ cap) (hc63 : cap ≤ 9223372036854775807) (hn : n ≤ 1000000)
    (hg : w.heap[g]? = some (.cells cur 30 (0, 0))) (hsz : cur.size = cap * 13) (hv : w.heap[vb]? = some (.cells ec.toArray 30 (0, 0))) (hec : ec.length = 13) (hne : vb ≠ g)
    (mid : List Value) (hmid : mid = (cur.toList.take (n * 13)).drop (i * 13)) (R1 R2 : Array Value) (hR1 : R1 = (cur.toList.take ((i + 1) * 13) ++ mid ++ cur.toList.drop ((i + 1) * 13 + mid.length)).toArray)
    (hR2 : R2 = (R1.toList.take (i * 13) ++ ec ++ R1.toList.drop (i * 13 + ec.length)).toArray)
    (h1c : ∀ v ∈ mid, v.oneCell' = true) (h1v : ∀ v ∈ ec, v.oneCell' = true) :
    Calls Try.prog 58 #[.slice (some ⟨g, 0, none⟩) n cap, .int .i64 i, .slice (some ⟨vb, 0, none⟩) 1 1] w fun e w' =>
      e = .returned (.slice (some ⟨g, 0, none⟩) (n + 1) cap) ∧ w' = (w.drew.setRow g R1).setRow g R2 := by
  have hus := Try.underlying22
  have hz2 : ¬ ((i : Int) = (n : Int)) := by omega
  have hml : mid.length = (n - i) * 13 := by rw [hmid, List.length_drop, List.length_take, Array.length_toList, hsz]; omega
  have hov : ∀ o lb cb, (callFunc 94 #[.slice (some ⟨vb, 0, none⟩) 1 1, .slice (some ⟨g, o, none⟩) lb cb]).run Try.prog w = .ok (.value (.bool false)) w := fun o lb cb => by
    rw [run_callFunc_extern Try.func94 (by kernel_rfl) (by kernel_rfl) (by kernel_rfl) (e := Extern.SlicesOverlaps.overlaps #[22, 22] #[4]) (by kernel_rfl),
      Lib.run_overlaps_apart w 22 4 30 hus 13 Y6N ⟨vb, 0, none⟩ ⟨g, o, none⟩ 1 1 lb cb hne 30 30 ec.toArray.size cur.size (by simp [World.shape?, hv]) (by simp [World.shape?, hg]) (by omega) (Y7 hv 0) (Y7 hv _)]
    rfl
  have hcp1 : ∀ ty dc sc, (Builtin.copy_ #[22, 22] ty #[.slice (some ⟨g, (i + 1) * 13, none⟩) (n - i) dc, .slice (some ⟨g, i * 13, none⟩) (n + 1 - i) sc]).run Try.prog w.drew = .ok (goInt ((n - i : Nat) : Int)) (w.drew.setRow g R1) := fun ty dc sc => by
    have h := Y1J (P := Try.prog) w.drew 22 22 ty 30 g ((i + 1) * 13) (n - i) dc ⟨g, i * 13, none⟩ (n + 1 - i) sc 13 cur 30 mid hus Y3v hg (by rw [hml]; simp only [Nat.min_def]; split <;> omega)
      (fun j v hj => by
        rw [Addr.add_lit]
        refine (Y2 hg _).trans ?_
        rw [hmid, List.getElem?_drop, List.getElem?_take] at hj
        split at hj
        · rw [Array.getElem?_toList] at hj; exact hj
        · cases hj)
      (by rw [hml, hsz]; omega) h1c
    rw [show Nat.min (n + 1 - i) (n - i) = n - i by simp only [Nat.min_def]; split <;> omega, ← hR1] at h
    exact h
  have hR1l : R1.size = cur.size := by rw [hR1, List.size_toArray, List.length_append, List.length_append, List.length_take, List.length_drop, Array.length_toList, hml, hsz]; omega
  have hvW : (w.drew.setRow g R1).heap[vb]? = some (.cells ec.toArray 30 (0, 0)) := by
    have : (w.drew.setRow g R1).heap[vb]? = w.heap[vb]? := by
      show (w.heap.modify g _)[vb]? = _
      rw [Array.getElem?_modify, if_neg (Ne.symm hne)]
    rw [this]; exact hv
  have hcp2 : ∀ ty dc, (Builtin.copy_ #[22, 22] ty #[.slice (some ⟨g, i * 13, none⟩) (n + 1 - i) dc, .slice (some ⟨vb, 0, none⟩) 1 1]).run Try.prog (w.drew.setRow g R1) = .ok (goInt 1) ((w.drew.setRow g R1).setRow g R2) := fun ty dc => by
    have h := Y1J (P := Try.prog) (w.drew.setRow g R1) 22 22 ty 30 g (i * 13) (n + 1 - i) dc ⟨vb, 0, none⟩ 1 1 13 R1 30 ec hus Y3v (setRow_heap w.drew g cur R1 30 (0, 0) hg) (by rw [hec]; simp only [Nat.min_def]; split <;> omega)
      (fun j v hj => by
        rw [Addr.add_lit]
        refine (Y2 hvW _).trans ?_
        rw [Nat.zero_add, List.getElem?_toArray]; exact hj)
      (by rw [hec, hR1l, hsz]; omega) h1v
    rw [show Nat.min 1 (n + 1 - i) = 1 by simp only [Nat.min_def]; split <;> omega, ← hR2] at h
    exact h
  have hw1 : IntKind.i64.wrap ((i : Int) + 1) = (i : Int) + 1 := by rw [IntKind.wrap_i64]; omega
  have hw2 : wrap64 ((i : Int) + 1) = (i : Int) + 1 := by unfold wrap64; omega
  have hb1 : (0 : Int) ≤ (i : Int) + 1 := by omega
  have hin : i ≤ n := by omega
  have htn : ((i : Int) + 1).toNat = i + 1 := by omega
  have hb2 : ¬ (cap = i + 1) := by omega
  have hb3 : (i : Int) ≤ (n : Int) + 1 := by omega
  have hb4 : ¬ (cap = i) := by omega
  have hb5 : i ≤ n + 1 := by omega
  clear hmid hR1 hR2 hml hR1l hvW
  have mixed : Try.prog.follows .mixedOrders = true := by kernel_rfl
  go_enter Try.func58, Try.ntmps58
  go_wp2_with (simp only [hov])
  go_region_law_o (refine step_copy_runI rfl _ _ 22 22 rfl _ _ (by simp [Act.eval, Act.put]) (by simp [Act.eval, Act.put]) (hcp1 _ _ _) ?_)
  go_wp2_with (at_builtin; refine wpList_copy_runI _ rfl _ _ 22 22 rfl _ _ rfl rfl (hcp2 _ _) ?_)
  go_ret
  exact ⟨rfl, rfl⟩
def z30v : Value := (.agg #[(.int .i64 0), (.int .i64 0), (.int .i64 0), (.int .i64 0), (.int .i64 0), (.bool false), (.int .i64 0), (.int .i64 0), (.int .i64 0), (.int .i64 0), (.int .i64 0), (.int .i64 0), (.int .i64 0)] : Value)
theorem Y40 : z30v.cells.size = 13 := by kernel_rfl
set_option maxHeartbeats 8000000 in
set_option maxRecDepth 100000 in
theorem Y5D (g cap n i vb : Nat) (cur : Array Value) (ec : List Value) (w : World) (hi : i < n) (hnc : n ≤ cap) (hroom : cap < n + 1) (hn : n ≤ 1000000)
    (hg : w.heap[g]? = some (.cells cur 30 (0, 0))) (hsz : cur.size = cap * 13) (hv : w.heap[vb]? = some (.cells ec.toArray 30 (0, 0))) (hec : ec.length = 13)
    (mid : List Value) (hmid : mid = (cur.toList.take (n * 13)).drop (i * 13)) (G : Nat) (hG : G = grownCap w (n + 1) cap 30)
    (ROW R1 R2 : Array Value) (hROW : ROW = (cur.toList.take (i * 13)).toArray ++ Builtin.zeroCells z30v.cells (n + 1 - i) ++ Builtin.zeroCells z30v.cells (G - (n + 1)))
    (hR1 : R1 = (ROW.toList.take (i * 13) ++ ec ++ ROW.toList.drop (i * 13 + ec.length)).toArray) (hR2 : R2 = (R1.toList.take ((i + 1) * 13) ++ mid ++ R1.toList.drop ((i + 1) * 13 + mid.length)).toArray)
    (h1c : ∀ v ∈ mid, v.oneCell' = true) (h1v : ∀ v ∈ ec, v.oneCell' = true) :
    Calls Try.prog 58 #[.slice (some ⟨g, 0, none⟩) n cap, .int .i64 i, .slice (some ⟨vb, 0, none⟩) 1 1] w fun e w' =>
      e = .returned (.slice (some ⟨w.heap.size, 0, none⟩) (n + 1) G) ∧ w' = (((w.drew.alloc (.cells ROW 30)).setRow w.heap.size R1).drew).setRow w.heap.size R2 := by
  have HG := Y0.mk hG
  clear hG
  have hus := Try.underlying22
  obtain ⟨i0, hi0, hz0, hzs, hzb⟩ := info_parts Y2P
  have hz2 : ¬ ((i : Int) = (n : Int)) := by omega
  have hci : ¬ (cap = i) := by omega
  have hw1 : IntKind.i64.wrap ((i : Int) + 1) = (i : Int) + 1 := by rw [IntKind.wrap_i64]; omega
  have hw2 : wrap64 ((i : Int) + 1) = (i : Int) + 1 := by unfold wrap64; omega
  have hb1 : (0 : Int) ≤ (i : Int) + 1 := by omega
  have hin : i ≤ n := by omega
  have htn : ((i : Int) + 1).toNat = i + 1 := by omega
  have hb3 : (i : Int) ≤ (n : Int) := by omega
  have hb5 : i ≤ n + 1 := by omega
  have hb6 : i + 1 ≤ n + 1 := by omega
  have hz3 : (cap : Int) < (n : Int) + 1 := by omega
  have hml : mid.length = (n - i) * 13 := by rw [hmid, List.length_drop, List.length_take, Array.length_toList, hsz]; omega
  have hkk : (n : Int) + 1 - (i : Int) = ((n + 1 - i : Nat) : Int) := by omega
  have hik : i + (n + 1 - i) = n + 1 := by omega
  have hold : (Builtin.firstCells i0.size i (.slice (some ⟨g, 0, none⟩) i cap)).run Try.prog w.drew = .ok (cur.toList.take (i * 13)).toArray w.drew := by
    rw [hzs]
    exact run_firstCells_some w.drew 13 i ⟨g, 0, none⟩ i cap (cur.toList.take (i * 13)) (by rw [List.length_take, Array.length_toList, hsz]; omega) (fun j v hj => by
      rw [Addr.add_lit, Nat.zero_add]
      refine (Y2 hg _).trans ?_
      rw [List.getElem?_take] at hj
      split at hj
      · rw [Array.getElem?_toList] at hj; exact hj
      · cases hj)
  have hrz : ∀ ty, (Builtin.append_ #[22, 3] ty #[.slice (some ⟨g, 0, none⟩) i cap, .int .i64 ((n : Int) + 1 - (i : Int))]).run Try.prog w =
      .ok (.slice (some ⟨w.heap.size, 0, none⟩) (n + 1) G) (w.drew.alloc (.cells ROW 30)) := fun ty => by
    have h := Lib.run_append_grow_zeros w 22 3 ty 30 i0 _ .i64 .i64 hus Try.underlying3 hi0 hz0 (some ⟨g, 0, none⟩) i cap (cur.toList.take (i * 13)) hold (n + 1 - i) (by omega) (by omega) (by omega) (by omega) (by rw [hzb]; omega) (by rw [hzb, hik]; exact growslice_fits hroom (by omega))
    rw [hik, ← HG.out] at h
    rw [hkk, hROW]
    exact h
  have hgw : g < w.heap.size := YZ hg
  have hvw : vb < w.heap.size := YZ hv
  have hz13 := Y40
  have hGn : n + 1 ≤ G := by rw [HG.out]; exact grownCap_ge w _ _ _
  have hG63 : G ≤ 9223372036854775807 := by
    have := grownCap_le_maxLen w (n + 1) cap 30 (by unfold maxLen; omega)
    rw [← HG.out] at this
    unfold maxLen at this
    omega
  have hRs : ROW.size = G * 13 := by
    rw [hROW]
    simp only [Array.size_append, Builtin.zeroCells, Array.size_map, Array.size_range, List.size_toArray, List.length_take, Array.length_toList, hz13, hsz]
    omega
  have hR1l : R1.size = G * 13 := by rw [hR1, List.size_toArray, List.length_append, List.length_append, List.length_take, List.length_drop, Array.length_toList, hec, hRs]; omega
  have hcpA : ∀ (W : World), W.heap = (w.drew.alloc (.cells ROW 30)).heap → ∀ ty dc, (Builtin.copy_ #[22, 22] ty #[.slice (some ⟨w.heap.size, i * 13, none⟩) (n + 1 - i) dc, .slice (some ⟨vb, 0, none⟩) 1 1]).run Try.prog W = .ok (goInt 1) (W.setRow w.heap.size R1) := fun W hW ty dc => by
    have hWn : W.heap[w.heap.size]? = some (.cells ROW 30 (0, 0)) := by rw [hW]; exact Y1f w.drew _
    have hWv : W.heap[vb]? = some (.cells ec.toArray 30 (0, 0)) := by rw [hW]; exact Y4 (w := w.drew) hv _
    have h := Y1J (P := Try.prog) W 22 22 ty 30 w.heap.size (i * 13) (n + 1 - i) dc ⟨vb, 0, none⟩ 1 1 13 ROW 30 ec hus Y3v hWn (by rw [hec]; simp only [Nat.min_def]; split <;> omega)
      (fun j v hj => by
        rw [Addr.add_lit]
        refine (Y2 hWv _).trans ?_
        rw [Nat.zero_add, List.getElem?_toArray]; exact hj)
      (by rw [hec, hRs]; omega) h1v
    rw [show Nat.min 1 (n + 1 - i) = 1 by simp only [Nat.min_def]; split <;> omega, ← hR1] at h
    exact h
  have hcpB : ∀ (W : World), W.heap = ((w.drew.alloc (.cells ROW 30)).setRow w.heap.size R1).heap → ∀ ty dc sc, (Builtin.copy_ #[22, 22] ty #[.slice (some ⟨w.heap.size, (i + 1) * 13, none⟩) (n - i) dc, .slice (some ⟨g, i * 13, none⟩) (n - i) sc]).run Try.prog W = .ok (goInt ((n - i : Nat) : Int)) (W.setRow w.heap.size R2) := fun W hW ty dc sc => by
    have hWn : W.heap[w.heap.size]? = some (.cells R1 30 (0, 0)) := by rw [hW]; exact setRow_heap (w.drew.alloc (.cells ROW 30)) w.heap.size ROW R1 30 (0, 0) (Y1f w.drew _)
    have hWg : W.heap[g]? = some (.cells cur 30 (0, 0)) := by
      rw [hW]
      show ((w.drew.alloc (.cells ROW 30)).heap.modify w.heap.size _)[g]? = _
      rw [Array.getElem?_modify, if_neg (by omega)]
      exact Y4 (w := w.drew) hg _
    have h := Y1J (P := Try.prog) W 22 22 ty 30 w.heap.size ((i + 1) * 13) (n - i) dc ⟨g, i * 13, none⟩ (n - i) sc 13 R1 30 mid hus Y3v hWn (by rw [hml]; simp only [Nat.min_def]; split <;> omega)
      (fun j v hj => by
        rw [Addr.add_lit]
        refine (Y2 hWg _).trans ?_
        rw [hmid, List.getElem?_drop, List.getElem?_take] at hj
        split at hj
        · rw [Array.getElem?_toList] at hj; exact hj
        · cases hj)
      (by rw [hml, hR1l]; omega) h1c
    rw [show Nat.min (n - i) (n - i) = n - i by simp only [Nat.min_def]; split <;> omega, ← hR2] at h
    exact h
  have hGi : ¬ (G = i) := by omega
  have hGim : ¬ (G = i + 1) := by omega
  have hcA := hcpA ((w.alloc (.cells ROW 30)).drew) rfl
  have hcB := hcpB ((((w.alloc (.cells ROW 30)).drew).setRow w.heap.size R1).drew) rfl
  clear hcpA hcpB
  clear hkk hik hold hROW HG hRs hR1l hR1 hR2 hmid hml hz13 hi0 hz0 hzs hzb
  have mixed : Try.prog.follows .mixedOrders = true := by kernel_rfl
  go_enter Try.func58, Try.ntmps58
  go_wp2_with (first
    | (at_builtin; refine Lib.wpList_append_run _ rfl _ _ _ _ rfl _ _ rfl rfl _ _ (hrz _) ?_))
  go_region_law_o (refine step_copy_runI rfl _ _ 22 22 rfl (.slice (some ⟨w.heap.size, (i + 1) * 13, none⟩) (n - i) (G - (i + 1))) (.slice (some ⟨g, i * 13, none⟩) (n - i) (cap - i)) (by simp [Act.eval, Act.put]) (by simp [Act.eval, Act.put]) (hcB 3 (G - (i + 1)) (cap - i)) ?_)
  go_wp2
  go_ret
  exact ⟨rfl, rfl⟩
theorem Y4k {α : Type} {R : α → List Value → Prop} {size : Nat} {ps qs : List α} {cs ds : List Value} (h : Reps R size ps cs) (g : Reps R size qs ds) : Reps R size (ps ++ qs) (cs ++ ds) := by
  refine ⟨by rw [List.length_append, h.1, g.1, List.length_append, Nat.add_mul], fun j p hj => ?_⟩
  rcases Nat.lt_or_ge j ps.length with hl | hl
  · rw [List.getElem?_append_left hl] at hj
    have h1 : j * size + size ≤ cs.length := by rw [h.1, ← Nat.succ_mul]; exact Nat.mul_le_mul_right _ hl
    rw [List.drop_append_of_le_length (by omega), List.take_append_of_le_length (by rw [List.length_drop]; omega)]
    exact h.2 j p hj
  · rw [List.getElem?_append_right hl] at hj
    have e : j * size = cs.length + (j - ps.length) * size := by rw [h.1, ← Nat.add_mul]; congr 1; omega
    rw [e, ← List.drop_drop, List.drop_left]
    exact g.2 _ p hj
theorem Y4M {α : Type} {R : α → List Value → Prop} {size : Nat} {ps : List α} {cs : List Value} (h : Reps R size ps cs) (i : Nat) (hi : i ≤ ps.length) : Reps R size (ps.take i) (cs.take (i * size)) := by
  refine ⟨by rw [List.length_take, List.length_take, h.1, Nat.min_eq_left hi, Nat.min_eq_left (Nat.mul_le_mul_right _ hi)], fun j p hj => ?_⟩
  have hji : j < i := by
    have := (List.getElem?_eq_some_iff.1 hj).1
    rw [List.length_take] at this
    omega
  rw [List.getElem?_take, if_pos hji] at hj
  have h1 : j * size + size ≤ i * size := by rw [← Nat.succ_mul]; exact Nat.mul_le_mul_right _ hji
  rw [List.drop_take, List.take_take, Nat.min_eq_left (by omega)]
  exact h.2 j p hj
theorem Y4L {α : Type} {R : α → List Value → Prop} {size : Nat} {ps : List α} {cs : List Value} (h : Reps R size ps cs) (i : Nat) : Reps R size (ps.drop i) (cs.drop (i * size)) := by
  refine ⟨by rw [List.length_drop, List.length_drop, h.1, Nat.sub_mul], fun j p hj => ?_⟩
  rw [List.getElem?_drop] at hj
  rw [List.drop_drop, ← Nat.add_mul]
  exact h.2 _ p hj
def cE (y : S30) : List Value := [.int .i64 y.f0.f0, .int .i64 y.f0.f1, .int .i64 y.f1, .int .i64 y.f2.f0, .int .i64 y.f2.f1, .bool y.f3, .int .i64 y.f4.f0, .int .i64 y.f4.f1, .int .i64 y.f4.f2, .int .i64 y.f4.f3, .int .i64 y.f4.f4, .int .i64 y.f4.f5, .int .i64 y.f4.f6]
theorem Y5E {w w1 : World} {base base1 : Nat} {ok ok1 : Nat → Prop} {x : S30} {cs : List Value} (h : k30.M w base ok x cs) : k30.M w1 base1 ok1 x cs := by
  rw [Y54 h]; exact Y1N _ _ _ _
theorem Y5f {cur : List Value} {n cap i : Nat} {ec mid inner R1 R2 : List Value} (hec : ec.length = 13) (hsz : cur.length = cap * 13) (hi : i < n) (hroom : n + 1 ≤ cap) (hin : cur.take (n * 13) = inner) (hmid : mid = inner.drop (i * 13))
    (hR1 : R1 = cur.take ((i + 1) * 13) ++ mid ++ cur.drop ((i + 1) * 13 + mid.length)) (hR2 : R2 = R1.take (i * 13) ++ ec ++ R1.drop (i * 13 + ec.length)) :
    R2.length = cap * 13 ∧ R2.take ((n + 1) * 13) = inner.take (i * 13) ++ (ec ++ inner.drop (i * 13)) := by
  have hil : inner.length = n * 13 := by rw [← hin, List.length_take]; omega
  have hml : mid.length = (n - i) * 13 := by rw [hmid, List.length_drop, hil]; omega
  have h1l : (cur.take ((i + 1) * 13)).length = (i + 1) * 13 := by rw [List.length_take]; omega
  have e1 : R1.take (i * 13) = inner.take (i * 13) := by
    rw [hR1, List.append_assoc, List.take_append_of_le_length (by omega), List.take_take, Nat.min_eq_left (by omega), ← hin, List.take_take, Nat.min_eq_left (by omega)]
  have e2 : R1.drop (i * 13 + ec.length) = mid ++ cur.drop ((i + 1) * 13 + mid.length) := by
    rw [hR1, List.append_assoc, show i * 13 + ec.length = (cur.take ((i + 1) * 13)).length by omega, List.drop_left]
  rw [e1, e2, hmid] at hR2
  have hl : (inner.take (i * 13)).length = i * 13 := by rw [List.length_take]; omega
  refine ⟨?_, ?_⟩
  · rw [hR2, List.length_append, List.length_append, List.length_append, hl, hec, ← hmid, hml, List.length_drop, hsz]; omega
  · rw [hR2, ← List.append_assoc, List.take_append_of_le_length (by rw [List.length_append, List.length_append, hl, hec, ← hmid, hml]; omega), List.take_of_length_le (by rw [List.length_append, List.length_append, hl, hec, ← hmid, hml]; omega), List.append_assoc]
theorem Y5P {cur Z : List Value} {n cap i G : Nat} {ec mid inner R1 R2 ROW : List Value} (hec : ec.length = 13) (hsz : cur.length = cap * 13) (hi : i < n) (hnc : n ≤ cap) (hin : cur.take (n * 13) = inner) (hmid : mid = inner.drop (i * 13))
    (hROW : ROW = cur.take (i * 13) ++ Z) (hRl : ROW.length = G * 13) (hG : n + 1 ≤ G)
    (hR1 : R1 = ROW.take (i * 13) ++ ec ++ ROW.drop (i * 13 + ec.length)) (hR2 : R2 = R1.take ((i + 1) * 13) ++ mid ++ R1.drop ((i + 1) * 13 + mid.length)) :
    R2.length = G * 13 ∧ R2.take ((n + 1) * 13) = inner.take (i * 13) ++ (ec ++ inner.drop (i * 13)) := by
  have hil : inner.length = n * 13 := by rw [← hin, List.length_take]; omega
  have hml : mid.length = (n - i) * 13 := by rw [hmid, List.length_drop, hil]; omega
  have hl : (inner.take (i * 13)).length = i * 13 := by rw [List.length_take]; omega
  have e0 : ROW.take (i * 13) = inner.take (i * 13) := by
    have : (cur.take (i * 13)).length = i * 13 := by rw [List.length_take]; omega
    rw [hROW, List.take_append_of_le_length (by omega), List.take_take, Nat.min_self, ← hin, List.take_take, Nat.min_eq_left (by omega)]
  rw [e0] at hR1
  have e1 : R1.take ((i + 1) * 13) = inner.take (i * 13) ++ ec := by
    rw [hR1, List.take_append_of_le_length (by rw [List.length_append, hl, hec]; omega), List.take_of_length_le (by rw [List.length_append, hl, hec]; omega)]
  have h1l : R1.length = G * 13 := by rw [hR1, List.length_append, List.length_append, hl, hec, List.length_drop, hRl]; omega
  rw [e1, hmid] at hR2
  refine ⟨?_, ?_⟩
  · rw [hR2, List.length_append, List.length_append, List.length_append, hl, hec, ← hmid, hml, List.length_drop, h1l]; omega
  · rw [hR2, List.take_append_of_le_length (by rw [List.length_append, List.length_append, hl, hec, ← hmid, hml]; omega), List.take_of_length_le (by rw [List.length_append, List.length_append, hl, hec, ← hmid, hml]; omega), List.append_assoc]
theorem Y2L {w w1 : World} {base base1 : Nat} {ok ok1 : Nat → Prop} {l : List S30} {inner : List Value} (i : Nat) (hi : i ≤ l.length) (y : S30) (h : Reps (k30.M w base ok) 13 l inner) :
    Reps (k30.M w1 base1 ok1) 13 (l.take i ++ y :: l.drop i) (inner.take (i * 13) ++ (cE y ++ inner.drop (i * 13))) := by
  have h1 : Reps (k30.M w1 base1 ok1) 13 l inner := h.imp_ (fun _ _ hp => Y5E hp)
  refine Y4k (Y4M h1 i hi) (Y4k (ps := [y]) (cs := cE y) ?_ (Y4L h1 i))
  have := Reps.snoc (Reps.none (k30.M w1 base1 ok1) 13) (Y1N w1 base1 ok1 y) (by rfl)
  exact this
theorem Y61 (y : S30) : ∀ v ∈ cE y, v.oneCell' = true := by
  intro v hv
  simp [cE] at hv
  rcases hv with h | h | h | h | h | h | h | h | h | h | h | h | h <;> rw [h] <;> rfl
theorem Y59 {w : World} {base : Nat} {ok : Nat → Prop} {l : List S30} {inner : List Value} (h : Reps (k30.M w base ok) 13 l inner) : ∀ v ∈ inner, v.oneCell' = true := by
  intro v hv
  obtain ⟨j, hj, rfl⟩ := List.getElem_of_mem hv
  have h0 : 0 < 13 := by decide
  have hl := h.1
  have hq : j / 13 < l.length := by rw [Nat.div_lt_iff_lt_mul h0]; omega
  have hp := h.2 (j / 13) _ (List.getElem?_eq_getElem hq)
  refine k30.K_one (k30.K_of_M hp) _ ?_
  have hm : j % 13 < 13 := Nat.mod_lt _ h0
  have he : j / 13 * 13 + j % 13 = j := Nat.div_add_mod' j 13
  rw [List.mem_iff_getElem]
  have hlen : j % 13 < ((inner.drop (j / 13 * 13)).take 13).length := by rw [List.length_take, List.length_drop]; omega
  refine ⟨j % 13, hlen, ?_⟩
  rw [List.getElem_take, List.getElem_drop]
  simp only [he]
theorem Y2c (w : World) (g k : Nat) (R : Array Value) (h : g ≠ k) : (w.setRow g R).heap[k]? = w.heap[k]? := by
  unfold World.setRow
  simp only [Array.getElem?_modify, if_neg h]
theorem Y4A (w : World) (g : Nat) (R1 R2 : Array Value) : w.grownBy ((w.drew.setRow g R1).setRow g R2) (some g) := by
  refine ⟨rfl, rfl, rfl, ?_, fun k hk hne => ?_⟩
  · rw [setRow_size, setRow_size]; exact Nat.le_refl _
  · have : g ≠ k := fun e => hne (by rw [e])
    rw [Y2c _ _ _ _ this, Y2c _ _ _ _ this]; rfl
theorem Y51 (w : World) (o : Obj) (R1 R2 : Array Value) (row : Option Nat) : w.grownBy ((((w.drew.alloc o).setRow w.heap.size R1).drew).setRow w.heap.size R2) row := by
  refine ⟨rfl, rfl, rfl, ?_, fun k hk hne => ?_⟩
  · rw [setRow_size]
    show _ ≤ ((w.drew.alloc o).setRow w.heap.size R1).heap.size
    rw [setRow_size, World.size_alloc]
    exact Nat.le_succ _
  · rw [Y2c _ _ _ _ (by omega)]
    show ((w.drew.alloc o).setRow w.heap.size R1).heap[k]? = _
    rw [Y2c _ _ _ _ (by omega)]
    show (w.heap.push o)[k]? = _
    rw [Array.getElem?_push, if_neg (by omega)]
theorem Y2h {base : Nat} {w0 w w1 : World} {row : Option Nat} (hb : Below base w0 w) (hg : w.grownBy w1 row) (hbase : base ≤ w.heap.size) (hr : ∀ k, row = some k → base ≤ k) : Below base w0 w1 := hb.grown hg hbase hr
set_option maxHeartbeats 8000000 in
set_option maxRecDepth 100000 in
theorem Y6g (base : Nat) (l : List S30) (y : S30) (v : Value) (vb : Nat) (w : World) (hn : l.length ≤ 1000000) (hr : Kd.R k30 30 w base (fun _ => True) v l) (hbase : base ≤ w.heap.size)
    (hv : w.heap[vb]? = some (.cells (cE y).toArray 30 (0, 0))) :
    Calls Try.prog 58 #[v, .int .i64 l.length, .slice (some ⟨vb, 0, none⟩) 1 1] w fun e w' =>
      ∃ v', e = .returned v' ∧ Kd.R k30 30 w' base (fun _ => True) v' (l ++ [y]) ∧ w.grownBy w' v.ownBlock := by
  have hus := Try.underlying22
  have HR := Y0.mk hr
  have HN := Y0.mk hn
  have HBS := Y0.mk hbase
  have HY : Y0 (Kd.C k30 w (some ⟨vb, 0, none⟩) 1 [y]) := ⟨⟨rfl, by decide, fun _ => ⟨⟨vb, 0, none⟩, rfl, fun j p hj => by
    cases j with
    | zero =>
      obtain rfl : y = p := by simpa using hj
      refine ⟨cE y, rfl, Y6I w y, fun i u hu => ?_⟩
      rw [Addr.add_lit]
      refine (Y2 hv _).trans ?_
      simpa using hu
    | succ j => simp at hj⟩⟩⟩
  obtain ⟨A, c, rfl, hlc, hC⟩ := Kd.R_reads hr
  clear hr hn hbase hC hv
  have hob : (Value.slice A l.length c).ownBlock = A.map (·.block) := by cases A <;> rfl
  have HOB := Y0.mk hob
  clear hob
  rw [HOB.out]
  obtain ⟨ob, hob⟩ : ∃ ob, ob = A.map (·.block) := ⟨_, rfl⟩
  rw [← hob]
  rw [← hob] at HOB
  clear hob
  go_enter Try.func58, Try.ntmps58
  go_wp2_with (at_builtin; refine Kd.R_append_rows k30 (w0 := w) base rfl (.tmp 23) (.tmp 24) 22 30 (.agg #[(.int .i64 0), (.int .i64 0), (.int .i64 0), (.int .i64 0), (.int .i64 0), (.bool false), (.int .i64 0), (.int .i64 0), (.int .i64 0), (.int .i64 0), (.int .i64 0), (.int .i64 0), (.int .i64 0)]) 104 rfl Try.underlying22 Y2P rfl (by decide) (by omega) _ l [y] (some ⟨vb, 0, none⟩) 1 1 (fun _ => True) (fun _ => False) rfl rfl HR.out HY.out (fun _ _ h => h) (fun _ h => h.elim) (fun _ _ => trivial) (Below.refl _ _) HBS.out (by have := HN.out; omega) ?_; intro v2 w2 ho hb hg_ hnew_; have HO2 := Y0.mk ho; have HG2 : Y0 (w.grownBy w2 ob) := ⟨by rw [← HOB.out]; exact hg_⟩; clear ho hb hg_ hnew_)
  all_goals
    go_ret
    exact ⟨_, rfl, HO2.out, HG2.out⟩
theorem Y2R (base : Nat) (i : Nat) (l : List S30) (y : S30) (v : Value) (vb : Nat) (w : World) (hn : l.length ≤ 1000000) (hi : i ≤ l.length) (hr : Kd.R k30 30 w base (fun _ => True) v l) (hbase : base ≤ w.heap.size)
    (hv : w.heap[vb]? = some (.cells (cE y).toArray 30 (0, 0))) (hne : some vb ≠ v.ownBlock) :
    Calls Try.prog 58 #[v, .int .i64 i, .slice (some ⟨vb, 0, none⟩) 1 1] w fun e w' =>
      ∃ v', e = .returned v' ∧ Kd.R k30 30 w' base (fun _ => True) v' (l.take i ++ y :: l.drop i) ∧ w.grownBy w' v.ownBlock := by
  rcases Nat.lt_or_ge i l.length with hlt | hge
  rotate_left
  · obtain rfl : i = l.length := Nat.le_antisymm hi hge
    rw [List.take_length, List.drop_length]
    exact Y6g base l y v vb w hn hr hbase hv
  have hr0 := hr
  obtain ⟨hok, inner, ⟨hil, hown⟩, hrep⟩ := hr
  rcases hown with ⟨rfl, h0⟩ | ⟨g, cap, cur, rfl, hgb, hg, hnc, hcm, hsz, hin⟩
  · omega
  have hvg : vb ≠ g := fun e => hne (by rw [e]; rfl)
  have hone := Y59 hrep
  have hc13 : cur.toList.length = cap * 13 := by rw [Array.length_toList]; exact hsz
  rw [show k30.sz = 13 from rfl] at hsz hin hil
  rcases Nat.lt_or_ge cap (l.length + 1) with hroom | hroom
  · obtain ⟨G, hG⟩ : ∃ G, G = grownCap w (l.length + 1) cap 30 := ⟨_, rfl⟩
    have hGn : l.length + 1 ≤ G := by rw [hG]; exact grownCap_ge w _ _ _
    have hGm : G ≤ maxLen := by rw [hG]; exact grownCap_le_maxLen w (l.length + 1) cap 30 (by unfold maxLen; omega)
    obtain ⟨ROW, hROW⟩ : ∃ ROW, ROW = (cur.toList.take (i * 13)).toArray ++ Builtin.zeroCells z30v.cells (l.length + 1 - i) ++ Builtin.zeroCells z30v.cells (G - (l.length + 1)) := ⟨_, rfl⟩
    obtain ⟨R1, hR1⟩ : ∃ R1, R1 = (ROW.toList.take (i * 13) ++ cE y ++ ROW.toList.drop (i * 13 + (cE y).length)).toArray := ⟨_, rfl⟩
    obtain ⟨R2, hR2⟩ : ∃ R2, R2 = (R1.toList.take ((i + 1) * 13) ++ (cur.toList.take (l.length * 13)).drop (i * 13) ++ R1.toList.drop ((i + 1) * 13 + ((cur.toList.take (l.length * 13)).drop (i * 13)).length)).toArray := ⟨_, rfl⟩
    have hmid : (cur.toList.take (l.length * 13)).drop (i * 13) = inner.drop (i * 13) := by rw [hin]
    have hRs : ROW.size = G * 13 := by
      rw [hROW]
      simp only [Array.size_append, Builtin.zeroCells, Array.size_map, Array.size_range, List.size_toArray, List.length_take, Array.length_toList, Y40, hsz]
      omega
    obtain ⟨q1, q2⟩ := Y5P (cur := cur.toList) (Z := (Builtin.zeroCells z30v.cells (l.length + 1 - i) ++ Builtin.zeroCells z30v.cells (G - (l.length + 1))).toList) (ec := cE y) (mid := (cur.toList.take (l.length * 13)).drop (i * 13)) (R1 := R1.toList) (R2 := R2.toList) (ROW := ROW.toList) rfl hc13 hlt hnc hin hmid
      (by rw [hROW]; simp) (by rw [Array.length_toList]; exact hRs) hGn (by rw [hR1]) (by rw [hR2])
    refine (Y5D g cap l.length i vb cur (cE y) w hlt hnc hroom hn hg hsz hv rfl _ rfl G hG ROW R1 R2 hROW hR1 hR2 (fun u hu => hone u (by rw [hmid] at hu; exact List.mem_of_mem_drop hu)) (Y61 y)).mono ?_
    rintro e w' ⟨rfl, rfl⟩
    have hn0 : (w.drew.alloc (.cells ROW 30)).heap[w.heap.size]? = some (.cells ROW 30 (0, 0)) := Y1f w.drew _
    have hn1 := setRow_heap _ _ _ R1 _ _ hn0
    have hn2 := setRow_heap (((w.drew.alloc (.cells ROW 30)).setRow w.heap.size R1).drew) _ _ R2 _ _ hn1
    refine ⟨_, rfl, ⟨fun _ _ => trivial, R2.toList.take ((l.length + 1) * 13), ⟨?_, .inr ⟨w.heap.size, G, R2, ?_, hbase, hn2, ?_, hGm, ?_, ?_⟩⟩, ?_⟩, Y51 _ _ _ _ _⟩
    · rw [q2, (Y2L (w1 := w) (base1 := 0) (ok1 := fun _ => True) i hi y hrep).1]; rfl
    · rw [List.length_append, List.length_cons, List.length_take, List.length_drop, show min i l.length + (l.length - i + 1) = l.length + 1 by omega]
    · rw [List.length_append, List.length_cons, List.length_take, List.length_drop]; omega
    · rw [← Array.length_toList, q1]; rfl
    · rw [List.length_append, List.length_cons, List.length_take, List.length_drop, show min i l.length + (l.length - i + 1) = l.length + 1 by omega]; rfl
    · rw [q2]; exact Y2L i hi y hrep
  · obtain ⟨R1, hR1⟩ : ∃ R1, R1 = (cur.toList.take ((i + 1) * 13) ++ (cur.toList.take (l.length * 13)).drop (i * 13) ++ cur.toList.drop ((i + 1) * 13 + ((cur.toList.take (l.length * 13)).drop (i * 13)).length)).toArray := ⟨_, rfl⟩
    obtain ⟨R2, hR2⟩ : ∃ R2, R2 = (R1.toList.take (i * 13) ++ cE y ++ R1.toList.drop (i * 13 + (cE y).length)).toArray := ⟨_, rfl⟩
    have hmid : (cur.toList.take (l.length * 13)).drop (i * 13) = inner.drop (i * 13) := by rw [hin]
    obtain ⟨q1, q2⟩ := Y5f (cur := cur.toList) (ec := cE y) (mid := (cur.toList.take (l.length * 13)).drop (i * 13)) (R1 := R1.toList) (R2 := R2.toList) rfl hc13 hlt hroom hin hmid (by rw [hR1]) (by rw [hR2])
    refine (Y53 g cap l.length i vb cur (cE y) w hlt hroom (by unfold maxLen at hcm; omega) hn hg hsz hv rfl hvg _ rfl R1 R2 hR1 hR2 (fun u hu => hone u (by rw [hmid] at hu; exact List.mem_of_mem_drop hu)) (Y61 y)).mono ?_
    rintro e w' ⟨rfl, rfl⟩
    have hn1 := setRow_heap w.drew _ _ R1 _ _ hg
    have hn2 := setRow_heap (w.drew.setRow g R1) _ _ R2 _ _ hn1
    refine ⟨_, rfl, ⟨fun _ _ => trivial, R2.toList.take ((l.length + 1) * 13), ⟨?_, .inr ⟨g, cap, R2, ?_, hgb, hn2, ?_, hcm, ?_, ?_⟩⟩, ?_⟩, Y4A _ _ _ _⟩
    · rw [q2, (Y2L (w1 := w) (base1 := 0) (ok1 := fun _ => True) i hi y hrep).1]; rfl
    · rw [List.length_append, List.length_cons, List.length_take, List.length_drop, show min i l.length + (l.length - i + 1) = l.length + 1 by omega]
    · rw [List.length_append, List.length_cons, List.length_take, List.length_drop]; omega
    · rw [← Array.length_toList, q1]; rfl
    · rw [List.length_append, List.length_cons, List.length_take, List.length_drop, show min i l.length + (l.length - i + 1) = l.length + 1 by omega]; rfl
    · rw [q2]; exact Y2L i hi y hrep
end Go.Proofs.Yteopkkoblbmggaa.P
end
