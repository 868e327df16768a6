/- Texts of this claim in one: VFrames, VCloneE, VP12; no condition. -/
import Derived.Test.YteopkkoblbmggaaQAH
import Derived.Test.YteopkkoblbmggaaQAE
import Derived.Test.YteopkkoblbmggaaQAL
import Derived.RangeFuncNested
import Derived.RangeFuncBound
import Derived.RangeFuncCalls
import Derived.RangeFuncLeaves
import Derived.Shelf.Abstract
import Derived.Shelf.RegionOpen
import Derived.WalkKit
import Derived.OwnWalkIn
import Derived.TacticsInMore
import Derived.LoopNIn
import Derived.LoopIn
import Derived.Deep.Light
import Derived.WalkSpells
import Derived.Laws.Cover3
import Derived.Test.YteopkkoblbmggaaQAC
section
set_option linter.unusedVariables false
set_option linter.unusedSimpArgs false
namespace Go.Proofs.Yteopkkoblbmggaa.P
open Go.RowKit Go.Shelf Go.Proofs.YteopkkoblbmggaaW.PrintWords Go.Proofs.YteopkkoblbmggaaW.PrintLast Go.Proofs.YteopkkoblbmggaaW.PrintMore
attribute [local go_sem] Oper.semAt_some
def Y2n (k : Nat) (l : List Int) : Bool := match YY.f k l with
  | some (_, n, e) => if e = 0 then decide (0 < n ∧ n ≤ (l.length : Int)) else true
  | none => false
theorem Y2L {k : Nat} {l : List Int} (h : Y2n k l = true) : ∃ c n e, YY.f k l = some (c, n, e) ∧ (e = 0 → 0 < n ∧ n ≤ (l.length : Int)) := by
  unfold Y2n at h
  split at h
  · rename_i c n e heq
    refine ⟨c, n, e, heq, fun he => ?_⟩
    rw [if_pos he] at h
    exact of_decide_eq_true h
  · cases h
abbrev FX := (Option Addr × Nat) × (List Int × Int)
def encF (x : FX) : Array Value := #[.slice x.1.1 x.2.1.length x.1.2, .int .i64 x.2.2]
def endF : Int → List FX → Int
  | at_, [] => at_
  | _, x :: t => endF x.2.2 t
def goodF (k : Nat) (b : List Int) : Int → List FX → Prop
  | at_, [] => True
  | at_, x :: t => (∃ n, YY.f k (b.drop at_.toNat) = some (x.2.1, n, 0) ∧ x.2.2 = at_ + n) ∧ goodF k b x.2.2 t
theorem Y2H (at_ : Int) (pre : List FX) (x : FX) : endF at_ (pre ++ [x]) = x.2.2 := by
  induction pre generalizing at_ with
  | nil => rfl
  | cons y t ih => exact ih _
theorem Y4n {k : Nat} {b : List Int} {at_ : Int} {pre : List FX} {x : FX} (h : goodF k b at_ pre) (hx : ∃ n, YY.f k (b.drop (endF at_ pre).toNat) = some (x.2.1, n, 0) ∧ x.2.2 = endF at_ pre + n) : goodF k b at_ (pre ++ [x]) := by
  induction pre generalizing at_ with
  | nil => exact ⟨hx, trivial⟩
  | cons y t ih => exact ⟨h.1, ih h.2 hx⟩
theorem Y4m {k : Nat} {b : List Int} {at_ : Int} {pre : List FX} {x : FX} (h : goodF k b at_ (pre ++ [x])) : ∃ n, YY.f k (b.drop (endF at_ pre).toNat) = some (x.2.1, n, 0) ∧ x.2.2 = endF at_ pre + n := by
  induction pre generalizing at_ with
  | nil => exact h.1
  | cons y t ih => exact ih h.2
def CxF (k : Nat) (b : List Int) (pre : List FX) (x : FX) (W : World) : Prop := goodF k b 0 (pre ++ [x]) ∧ Kd.C (Kd.int .u8) W x.1.1 x.2.1.length x.2.1 ∧ x.2.1.length ≤ x.1.2
def SF (k : Nat) (b : List Int) (xs : List FX) : Prop := goodF k b 0 xs ∧ ∃ c n e, YY.f k (b.drop (endF 0 xs).toNat) = some (c, n, e) ∧ e ≠ 0
def KpT (n₁ Bc t : Nat) (W W' : World) : Prop := Below n₁ W W' ∧ ∀ cs, W.heap[Bc]? = some (.cells cs t (0, 0)) → W'.heap[Bc]? = some (.cells cs t (0, 0))
theorem Y1S {W W' : World} {row : Option Nat} {k : Nat} {cs : Array Value} {t : TypeId} (h : W.heap[k]? = some (.cells cs t (0, 0))) (hg : W.grownBy W' row) (hr : ∀ r, row = some r → ∃ o : Obj, W.heap[r]? = some o ∧ o.isCells = false) : W'.heap[k]? = some (.cells cs t (0, 0)) :=
  (hg.block k (Y1i h) (fun e => by obtain ⟨o, ho, hc⟩ := hr k e.symm; rw [h] at ho; cases ho; cases hc)).trans h
theorem kpT_t {n₁ Bc t : Nat} {A B C : World} (h : KpT n₁ Bc t A B) (k : KpT n₁ Bc t B C) : KpT n₁ Bc t A C := ⟨h.1.trans k.1, fun cs hb => k.2 cs (h.2 cs hb)⟩
theorem Y2b {n₁ : Nat} {w : World} (hn : n₁ ≤ w.heap.size) (W : World) (l : Nat) (o o' : Obj) (hl : w.heap.size ≤ l) (h : W.heap[l]? = some o) (hc : o.isCells = false) (hw : o.isWalk = false) : Below n₁ W (W.putObj l o') :=
  (Below.refl n₁ W).grown (grownBy_putObj' W l o') (Nat.le_trans hn (by have := (Array.getElem?_eq_some_iff.1 h).1; omega)) (fun k e => by cases e; omega)
theorem kpT_b {n₁ Bc t : Nat} {w : World} (hn : n₁ ≤ w.heap.size) (W : World) (l : Nat) (o o' : Obj) (hl : w.heap.size ≤ l) (h : W.heap[l]? = some o) (hc : o.isCells = false) (hw : o.isWalk = false) : KpT n₁ Bc t W (W.putObj l o') :=
  ⟨Y2b hn W l o o' hl h hc hw, fun cs hb => Y1S hb (grownBy_putObj' W l o') (fun r e => by cases e; exact ⟨o, h, hc⟩)⟩
theorem Y2B {β : Type} {B : Nat} {J : β → World → Prop} (hJ : AbidesFrom B J) {s : β} {W W' : World} (h : J s W) (hb : Below W.heap.size W W') : J s W' :=
  hJ s W W' none h ⟨hb.os, hb.tape, hb.output, hb.size, fun k hk _ => hb.block k hk⟩ (fun r e => by cases e)
set_option maxRecDepth 100000 in
set_option maxHeartbeats 8000000 in
theorem Y4l (n : Nat) (hn : 1 ≤ n) (k lq Bl : Nat) (A0 : Option Addr) (c0 : Nat) (b : List Int) (w : World) (hr0 : Kd.C (Kd.int .u8) w A0 b.length b) (hc0 : b.length ≤ c0) (hlen : b.length ≤ 1000000) (hok : ∀ i, i ≤ b.length → Y2n k (b.drop i) = true)
    (W : World) (hwW : Below w.heap.size w W) (hBl : W.heap[Bl]? = some (.cells #[.slice A0 b.length c0] 60 (0, 0)))
    (J Jx : List FX → World → Prop) (hJ : AbidesFrom W.heap.size J)
    (hY : ∀ pre x W1, J pre W1 → CxF k b pre x W1 → pre.length < b.length + 1 → YieldAt Fence.wide (n - 1) Try.prog lq (encF x) W1 fun e W' =>
      (e = .returned (.bool true) ∧ J (pre ++ [x]) W' ∧ KpT w.heap.size Bl 60 W1 W') ∨ (e = .returned (.bool false) ∧ Jx (pre ++ [x]) W'))
    (h0 : J [] W) :
    CallsIn Fence.wide n Try.prog 115 #[.func (.yield lq) #[] #[], .pointer (some ⟨Bl, 0, none⟩)] W fun e W' => (∃ v, e = .returned v) ∧
      ((∃ xs, SF k b xs ∧ J xs W') ∨ (∃ pre, True ∧ Jx pre W')) := by
  refine callsIn_of_wp Try.func115 rfl trivial ?_ rfl
  simp only [Try.ntmps115, List.size_toArray, List.length_cons, List.length_nil, Nat.reduceAdd, Nat.reduceSub, Array.replicate_succ, Array.replicate_zero, List.push_toArray, List.append_toArray, List.nil_append, List.cons_append]
  have HJA := Y0.mk hJ
  have HY := Y0.mk hY
  have HR := Y0.mk hr0
  have HC := Y0.mk hc0
  have HL := Y0.mk hlen
  have HOK := Y0.mk hok
  have HJ0 := Y0.mk h0
  have HBL0 := Y0.mk hBl
  have HW0 := Y0.mk hwW
  have HWW := Y0.mk (Below.refl W.heap.size W)
  clear hJ hY hr0 hc0 hlen hok h0 hBl hwW
  gi_wp2
  gi_loopw [3] (fun v wr => ∃ (xs : List FX) (e : Nat), v = .int .i64 (e : Int) ∧ Y0 (endF 0 xs = (e : Int)) ∧ Y0 (e ≤ b.length) ∧ Y0 (xs.length ≤ e) ∧ Y0 (goodF k b 0 xs) ∧ Y0 (J xs wr) ∧ Y0 (Below w.heap.size w wr) ∧ Y0 (wr.heap[Bl]? = some (.cells #[.slice A0 b.length c0] 60 (0, 0))))
    (fun v _ => b.length - (intOf v).toNat)
  case atStart => exact ⟨[], 0, rfl, ⟨rfl⟩, ⟨Nat.zero_le _⟩, ⟨Nat.le_refl _⟩, ⟨trivial⟩, HJ0, HW0, HBL0⟩
  case round =>
    obtain ⟨xs, e, rfl, HE, HLE, HXL, HG, HJ, HB, HBL⟩ := hrel
    clear HBL0 HW0
    obtain ⟨ct, fn, fe, ho, hn0⟩ := Y2L (HOK.out e HLE.out)
    have h0 : (0 : Int) ≤ (e : Int) := by omega
    have h1 : (e : Int) ≤ (b.length : Int) := by have := HLE.out; omega
    obtain ⟨i0, hi0, _, hsz, _⟩ := info_parts info5
    obtain ⟨Ac, hcut, hA, hCc⟩ := Y1Q (P := Try.prog) (Value.int .u8) 0 60 5 .i64 Try.underlying60 hi0 hsz A0 c0 b (e : Int) h0 h1 HC.out
    have HRc := Y0.mk (Kd.C_of_reads (h1 := fun _ => rfl) (hA _ (Kd.reads_of_C HR.out)))
    have HCc := Y0.mk hCc
    have HO : Y0 (YY.f k (b.drop (e : Int).toNat) = some (ct, fn, fe)) := ⟨by rw [Int.toNat_natCast]; exact ho⟩
    have HN := Y0.mk hn0
    have hcall := YY.calls k Ac (c0 - (e : Int).toNat) (b.drop (e : Int).toNat) ct fn fe wr (Kd.C_below HRc.out HB.out) HCc.out HO.out
    simp only [List.length_drop, Int.toNat_natCast] at hcall
    have HCALL := Y0.mk hcall
    clear hA hCc hi0 hsz ho hn0 hcall
    have hbl := Y1 HBL.out
    by_cases hz : fe = 0
    · subst hz
      obtain ⟨hf0, hf1⟩ := HN.out rfl
      rw [List.length_drop] at hf1
      obtain ⟨m, rfl⟩ : ∃ m : Nat, fn = (m : Int) := ⟨fn.toNat, by omega⟩
      have hm0 : 0 < m := by omega
      have hm1 : e + m ≤ b.length := by have := HLE.out; omega
      have hsm : (e : Int) + (m : Int) ≤ 1000000 := by have := HL.out; omega
      have hs0 : (0 : Int) ≤ (e : Int) + (m : Int) := by omega
      have HM0 := Y0.mk hm0
      have HM1 := Y0.mk hm1
      clear hf0 hf1 hm0 hm1 HN
      gi_wp2_with (fail)
      refine ⟨trivial, (callsIn_wide.2 HCALL.out).mono ?_⟩
      rintro e1 W1 ⟨v, rfl, hown, hb⟩
      obtain ⟨A1, c1, rfl⟩ := Kd.R_slice hown; have HO1 := Y0.mk hown; have HB1 := Y0.mk (Y4 HB.out hb); have HJ1 := Y0.mk (Y2B HJA.out HJ.out hb); have HBL1 := Y0.mk (Y6 HBL.out hb); have HCX : Y0 (CxF k b xs ((A1, c1), (ct, (e : Int) + (m : Int))) W1) := ⟨Y4n HG.out ⟨m, by rw [HE.out]; exact HO.out, by rw [HE.out]⟩, (Kd.R_reads' hown).2.2, (Kd.R_reads' hown).2.1⟩; obtain ⟨yfn, ytmps, yassign, ybody, hy, hR⟩ := HY.out xs ((A1, c1), (ct, (e : Int) + (m : Int))) W1 HJ1.out HCX.out (by have := HXL.out; have := HLE.out; omega); dsimp only [encF] at hy; clear hown hb
      gi_wp2
      refine hR.mono ?_
      rintro e W3 (⟨rfl, hJ3, hk3, hk4⟩ | ⟨rfl, hJx3⟩)
      · gi_wp2
        go_roundw
        case rel => exact ⟨xs ++ [(((A1, c1), (ct, (e : Int) + (m : Int))) : FX)], e + m, by first | rfl | (simp; done) | go_num, ⟨by rw [Y2H]; simp⟩, HM1, ⟨by have := HXL.out; have := HM0.out; simp; omega⟩, ⟨HCX.out.1⟩, ⟨hJ3⟩, ⟨HB1.out.trans hk3⟩, ⟨hk4 _ HBL1.out⟩⟩
        case measure => have := HM0.out; have := HM1.out; simp [intOf]; omega
      · gi_wp2
        refine bodyPost_ret (results_none rfl _ _ _) rfl ?_
        exact ⟨⟨_, rfl⟩, .inr ⟨_, trivial, hJx3⟩⟩
    · have hz2 : (fe != 0) = true := by simp; exact hz
      have HZ := Y0.mk hz
      clear hz HN
      gi_wp2_with (fail)
      refine ⟨trivial, (callsIn_wide.2 HCALL.out).mono ?_⟩
      rintro e1 W1 ⟨v, rfl, hown, hb⟩
      obtain ⟨A1, c1, rfl⟩ := Kd.R_slice hown
      have HJ1 := Y0.mk (Y2B HJA.out HJ.out hb)
      clear hown hb
      gi_wp2
      refine bodyPost_ret (results_none rfl _ _ _) rfl ?_
      exact ⟨⟨_, rfl⟩, .inl ⟨xs, ⟨HG.out, _, _, _, by rw [HE.out]; exact HO.out, HZ.out⟩, HJ1.out⟩⟩
theorem Y3P (n : Nat) (hn : 1 ≤ n) (k Bl : Nat) (A0 : Option Addr) (c0 : Nat) (b : List Int) (w w0 : World) (hr0 : Kd.C (Kd.int .u8) w A0 b.length b) (hc0 : b.length ≤ c0) (hlen : b.length ≤ 1000000) (hok : ∀ i, i ≤ b.length → Y2n k (b.drop i) = true)
    (hw : Below w.heap.size w w0) (hBl : w0.heap[Bl]? = some (.cells #[.slice A0 b.length c0] 60 (0, 0))) :
    Y4B Fence.wide n Try.prog 115 #[.pointer (some ⟨Bl, 0, none⟩)] encF (CxF k b) (KpT w.heap.size Bl 60) (SF k b) (fun _ => True) (b.length + 1) w0 := fun lq J Jx W hW hJ hJx hY h0 =>
  Y4l n hn k lq Bl A0 c0 b w hr0 hc0 hlen hok W (Y4 hw hW) (Y6 hBl hW) J Jx hJ hY h0
set_option maxRecDepth 100000 in
set_option maxHeartbeats 1000000 in
theorem Y3O (A0 : Option Addr) (c0 n : Nat) (w : World) :
    Calls Try.prog 86 #[.slice A0 n c0] w fun e w' => e = .returned (.func (.func 115) #[] #[.pointer (some ⟨w.heap.size, 0, none⟩)]) ∧
      Below w.heap.size w w' ∧ w'.heap.size = w.heap.size + 1 ∧ w'.heap[w.heap.size]? = some (.cells #[.slice A0 n c0] 60 (0, 0)) := by
  go_enter Try.func86, Try.ntmps86
  go_wp2
  go_ret
  exact ⟨rfl, YH (Below.refl _ _) _, by rw [World.size_alloc], Y1x _ _⟩
end Go.Proofs.Yteopkkoblbmggaa.P
end
section
set_option linter.unusedVariables false
set_option linter.unusedSimpArgs false
namespace Go.Proofs.Yteopkkoblbmggaa.P
open Go.RowKit Go.Proofs.YteopkkoblbmggaaW.PrintWords Go.Proofs.YteopkkoblbmggaaW.PrintLast Go.Proofs.YteopkkoblbmggaaW.PrintMore
theorem Y6h (w : World) (t e : TypeId) (a : Option Addr) (l c : Nat) (h : Try.prog.underlying t = some (.slice e)) : (binOp .eql t (.slice a l c) (.slice none 0 0)).run Try.prog w = .ok (.bool a.isNone) w := by
  simp only [binOp]
  simp [run_equal_slice_nil w t e a l c h]
def slices_Clone_edits.f (l0 : List S30) : Option (List S30) := if l0.length ≤ 1000000000000 then some l0 else none
set_option maxHeartbeats 4000000 in
set_option maxRecDepth 100000 in
theorem slices_Clone_edits.calls (A0 : Option Addr) (c0 : Nat) (l0 r : List S30) (w : World) (hr0 : Kd.C k30 w A0 l0.length l0) (hc0 : l0.length ≤ c0) (h : slices_Clone_edits.f l0 = some r) :
    Calls Try.prog 55 #[.slice A0 l0.length c0] w fun e w' => ∃ v_ : Value, e = .returned v_ ∧ Kd.R k30 30 w' w.heap.size (fun _ => True) v_ r ∧ Below w.heap.size w w' := by
  unfold slices_Clone_edits.f at h
  by_cases hl : l0.length ≤ 1000000000000
  rotate_left
  · rw [if_neg hl] at h; cases h
  rw [if_pos hl] at h
  cases h
  have HR := Y0.mk hr0
  have HL := Y0.mk hl
  have HB := Y0.mk (Below.refl w.heap.size w)
  have hus := Try.underlying22
  have hen := fun (w : World) (a : Option Addr) (l c : Nat) => Y6h w _ _ a l c hus
  clear hl
  cases A0 with
  | none =>
    have hn : l0 = [] := by
      rcases Nat.eq_zero_or_pos l0.length with h0 | h0
      · exact List.length_eq_zero_iff.mp h0
      · obtain ⟨ad, e, _⟩ := hr0.2.2 h0
        cases e
    subst hn
    clear hr0
    go_enter Try.func55, Try.ntmps55
    go_wp2
    go_ret
    exact ⟨_, rfl, Kd.R_nil _ _ _ _ _, HB.out⟩
  | some ad =>
    clear hr0
    go_enter Try.func55, Try.ntmps55
    go_wp2_with (first | ((with_reducible refine Yl (N := 5) rfl ?_); refine Kd.R_lit k30 (w0 := w) w.heap.size 30 ?hg (N := 5) ?hd (xs := []) (inner := []) (ok := fun _ => True) (okp := fun _ => True) ?hr (Reps.none _ _) (fun _ hk => hk) trivial HB.out (Nat.le_refl _) (by simp) ?_; (case hd => rfl); (case hg => rfl); (case hr => first | (go_simp; done) | (go_simp; rfl)); intro v1 w1 ho hb hg_ hnew_; have HO := Y0.mk ho; have HB1 := Y0.mk hb; clear ho hb hg_ hnew_) | ((with_reducible refine Yl (N := 7) rfl ?_); at_builtin; refine Kd.R_append_rows k30 (w0 := w) w.heap.size rfl (.tmp 5) (.tmp 6) 22 30 (.agg #[(.int .i64 0), (.int .i64 0), (.int .i64 0), (.int .i64 0), (.int .i64 0), (.bool false), (.int .i64 0), (.int .i64 0), (.int .i64 0), (.int .i64 0), (.int .i64 0), (.int .i64 0), (.int .i64 0)]) 104 rfl Try.underlying22 Y2m rfl (by decide) (by omega) v1 [] l0 (some ad) l0.length c0 (fun _ => True) (fun _ => False) rfl rfl HO.out (Kd.C_below HR.out HB1.out) (fun _ _ h => h) (fun _ h => h.elim) (fun _ _ => trivial) HB1.out (Yi HB1.out) (by have := HL.out; simp; omega) ?_; intro v2 w2 ho hb hg_ hnew_; have HO2 := Y0.mk ho; have HB2 := Y0.mk hb; clear ho hb hg_ hnew_))
    go_ret
    exact ⟨_, rfl, by have h_ := HO2.out; rw [List.nil_append] at h_; exact h_, HB2.out⟩
end Go.Proofs.Yteopkkoblbmggaa.P
end
section
namespace Go.Proofs.Yteopkkoblbmggaa.P
open Go.RowKit Go.Proofs.YteopkkoblbmggaaW.PrintWords Go.Proofs.YteopkkoblbmggaaW.PrintLast Go.Proofs.YteopkkoblbmggaaW.PrintMore
attribute [local go_sem] Y11 Y13 Y19 Y1a YR YS Y12 Y14
set_option linter.unusedVariables false
set_option linter.unusedSimpArgs false
attribute [local go_sem high] eqA26
def Yx.l0 : Nat → List (S30) → Int → Int → Int → Option (Int × Bool)
 | 0, _, _, _, _ => none
 | k + 1, x0, x6, x_1, x_0 => if x6 < (x0.length : Int) then (if 0 ≤ x6 then ((Y1B.f ((Y2 x0 x6).f0.f0) ((Y2 x0 x6).f0.f1) x_1 x_0).bind fun t_0 => (if t_0 = true then (Yx.l0 k x0 (wrap64 (x6 + 1)) x_1 x_0) else (some (x6, (((Y2 x0 x6).f0.f0) == x_1 && (((Y2 x0 x6).f0.f1) == x_0)))))) else (none)) else (some (x6, false))
def Yx.f (k : Nat) (l0 : List (S30)) (a1_0 : Int) (a1_1 : Int) : Option (Int × Bool) := Yx.l0 k l0 0 a1_0 a1_1
theorem Yx.mono_l : ∀ k, (∀ y0 y1 y2 y3, LeO (Yx.l0 k y0 y1 y2 y3) (Yx.l0 (k + 1) y0 y1 y2 y3))
 | 0 => fun _ _ _ _ r h => by simp [Yx.l0] at h
 | k + 1 => by
  have ih0 := Yx.mono_l k
  ·intro y0 y1 y2 y3
   unfold Yx.l0
   repeat' first
   | (with_reducible exact ih0 _ _ _ _)
   | (with_reducible exact LeO.refl _)
   | (with_reducible exact LeO.none _)
   | (with_reducible refine LeO.ite ?_ ?_)
   | (with_reducible refine LeO.bind ?_ (fun _ => ?_))
theorem Yx.mono : ∀ a0 a1 a2 k, LeO (Yx.f k a0 a1 a2) (Yx.f (k + 1) a0 a1 a2) := by
 intro a0 a1 a2 k
 have ih0 := Yx.mono_l k
 unfold Yx.f
 repeat' first
   | (with_reducible exact ih0 _ _ _ _)
   | (with_reducible exact LeO.refl _)
   | (with_reducible exact LeO.none _)
   | (with_reducible refine LeO.ite ?_ ?_)
   | (with_reducible refine LeO.bind ?_ (fun _ => ?_))
def Yx.T2 : Bool × List (List Nat × List Nat) := (true, [([], []), ([], []), ([1], [1]), ([0, 2], [0, 2]), ([3], [3]), ([4], [4]), ([4], [4]), ([5, 6, 4], [4, 5, 6]), ([7, 4], [4, 7]), ([8, 4], [4, 8]), ([4], [4]), ([9, 10, 4, 4], [4, 9, 10]), ([4, 11], [4, 11])])
def Yx.B2 : List Nat := [0, 0, 2, 7, 15, 31, 31, 127, 255, 511, 31, 2047, 4095]
theorem Yx.tab2 : rtab .any (opsOf Try.f56 2) = Yx.T2 := by kernel_rfl
theorem Yx.bits2 : Y22 Yx.T2.2 Yx.B2 = true := by kernel_rfl
def Yx.T4 : Bool × List (List Nat × List Nat) := (true, [([], []), ([], []), ([], []), ([2], [2]), ([1, 3], [1, 3]), ([4], [4]), ([5], [5]), ([5], [5]), ([6, 7, 5], [5, 6, 7]), ([8, 5], [5, 8]), ([9, 5], [5, 9]), ([5], [5]), ([10, 11, 5], [5, 10, 11]), ([5, 12], [5, 12]), ([0, 5, 0], [0]), ([13, 14, 0, 1, 2, 3, 4, 5, 6, 7, 8, 9, 10, 11, 12, 13, 14], [13])])
def Yx.B4 : List Nat := [0, 0, 0, 4, 14, 30, 62, 62, 254, 510, 1022, 62, 4094, 8190, 63, 32767]
theorem Yx.tab4 : rtab .any (opsOf Try.f56 4) = Yx.T4 := by kernel_rfl
theorem Yx.bits4 : Y22 Yx.T4.2 Yx.B4 = true := by kernel_rfl
set_option maxHeartbeats 8000000 in
set_option maxRecDepth 100000 in
theorem Yx.calls (k : Nat) (A0 : Option Addr) (c0 : Nat) (l0 : List (S30)) (a1_0 : Int) (a1_1 : Int) (r1 : Int) (r2 : Bool) (w : World) (hr0 : Kd.C k30 w A0 l0.length l0) (hc0 : l0.length ≤ c0) (h : Yx.f k l0 a1_0 a1_1 = some (r1, r2)) :
  Calls Try.prog 56 #[.slice A0 l0.length c0, .agg #[.int .i64 a1_0, .int .i64 a1_1]] w fun e w' => e = .returned (.tuple #[.int .i64 r1, .bool r2]) ∧ Below w.heap.size w w' := by
 have hu26 := Try.underlying26
 have HR0 := Y0.mk hr0
 have HC0 := Y0.mk hc0
 clear hr0 hc0
 have HB := Y0.mk (Below.refl w.heap.size w)
 have H : (Yx.l0 k l0 0 a1_0 a1_1) = some (r1, r2) := h
 clear h
 have H' := Y0.mk H
 clear H
 go_enter Try.func56, Try.ntmps56
 go_wp2_with (first | ((with_reducible refine Yl (N := 3) rfl ?_); refine Yk ?hg (N := 3) ?hd (cs := #[.int .i64 a1_0, .int .i64 a1_1]) (t := 26) ?hr ?_; (case hd => rfl); (case hg => rfl); (case hr => first | (go_simp; done) | (go_simp; rfl)); intro g_0 hg w3 hbox hb; have n0_ := Y0.mk (Y4 (hU HB.out) hb); have n1_ := Y0.mk (hbox); have n2_ := gE hg HB; have n3_ := gE hg HB; clear HB; have HB := n0_; have B_0 := n1_; have W_0 := n2_; have G_0 := n3_; clear n0_ n1_ n2_ n3_; clear hb hbox hg))
 go_loopg [6] k (fun kq v6 w' => ∃ (x6_1 : Int), v6 = .int .i64 x6_1 ∧ Y0 (Yx.l0 kq l0 x6_1 a1_0 a1_1 = some (r1, r2)) ∧ Y0 (kq ≤ k) ∧ Y0 (w'.heap[g_0]? = some (.cells #[.int .i64 a1_0, .int .i64 a1_1] 26 (0, 0))) ∧ Y0 (Below w.heap.size w w'))
 case atStart => exact ⟨(0), reS, H', ⟨Nat.le_refl _⟩, ⟨kB B_0⟩, ⟨hU HB.out⟩⟩
 case round =>
  clear H'
  try clear p2
  obtain ⟨x6_1, rfl, HA, HK1, B_0, HB⟩ := hrel
  cases gk with
  | zero => exact absurd HA.out (by simp [Yx.l0])
  | succ k1 =>
   have H := HA.out
   clear HA
   simp only [Yx.l0] at H
   by_cases c4 : x6_1 < (l0.length : Int)
   ·rw [if_pos c4] at H
    have c4b0 := decide_eq_true c4
    clear c4
    obtain ⟨c5, H⟩ := iS H
    have c5b0 := decide_eq_true c5
    clear c5
    obtain ⟨t_0, A60, H⟩ := bS H
    try dsimp only at H
    have A6 := Y0.mk A60
    clear A60
    by_cases c7 : t_0 = true
    ·subst c7
     have H1 : (Yx.l0 k1 l0 (wrap64 (x6_1 + 1)) a1_0 a1_1) = some (r1, r2) := by rw [if_pos rfl] at H; exact H
     clear H
     have H := H1
     clear H1
     have H' := Y0.mk H
     clear H
     try go_wp2
     replace B_0 := Y0.mk (Yd B_0.out)
     replace HB := Y0.mk (YC HB.out)
     have p128 : 0 ≤ (x6_1 : Int) := of_decide_eq_true (by first | (with_reducible assumption) | assumption)
     have q128 : x6_1 < (l0.length : Int) := of_decide_eq_true (by first | (with_reducible assumption) | assumption)
     obtain ⟨d_0, e128, m_6, m_8, m_0, m_3, m_b, m_a, m_c, m_9, m_2, m_7, m_4, m_5, m_1⟩ := Y1v HR0.out x6_1 p128 q128
     have q_6 := m_1
     have q_2 := m_5
     have q_a := m_4
     have q_3 := m_7
     have q_7 := m_2
     have q_b := m_9
     have q_5 := m_c
     have q_c := m_a
     have q_4 := m_b
     have q_9 := m_3
     have q_8 := m_0
     have q_1 := m_8
     have q_0 := m_6
     cases e128
     replace m_6 := hbC HB m_6
     replace m_8 := hbC HB m_8
     replace m_0 := hbC HB m_0
     replace m_3 := hbC HB m_3
     replace m_b := hbC HB m_b
     replace m_a := hbC HB m_a
     replace m_c := hbC HB m_c
     replace m_9 := hbC HB m_9
     replace m_2 := hbC HB m_2
     replace m_7 := hbC HB m_7
     replace m_4 := hbC HB m_4
     replace m_5 := hbC HB m_5
     replace m_1 := hbC HB m_1
     replace p128 := eq_true p128
     replace q128 := eq_true q128
     refine Y1w (n := 13) (S := fun w' => w'.cell? ⟨g_0, 0, none⟩ = some (.int .i64 a1_0) ∧ w'.cell? ⟨g_0, 1, none⟩ = some (.int .i64 a1_1) ∧ w'.cell? (d_0.add ((x6_1).toNat * 13)) = some (.int .i64 ((Y2 l0 x6_1).f0.f0)) ∧ w'.cell? ⟨(d_0.add ((x6_1).toNat * 13)).block, (d_0.add ((x6_1).toNat * 13)).off + 1, none⟩ = some (.int .i64 ((Y2 l0 x6_1).f0.f1)) ∧ w'.cell? ⟨(d_0.add ((x6_1).toNat * 13)).block, (d_0.add ((x6_1).toNat * 13)).off + 2, none⟩ = some (.int .i64 ((Y2 l0 x6_1).f1)) ∧ w'.cell? ⟨(d_0.add ((x6_1).toNat * 13)).block, (d_0.add ((x6_1).toNat * 13)).off + 3, none⟩ = some (.int .i64 ((Y2 l0 x6_1).f2.f0)) ∧ w'.cell? ⟨(d_0.add ((x6_1).toNat * 13)).block, (d_0.add ((x6_1).toNat * 13)).off + 4, none⟩ = some (.int .i64 ((Y2 l0 x6_1).f2.f1)) ∧ w'.cell? ⟨(d_0.add ((x6_1).toNat * 13)).block, (d_0.add ((x6_1).toNat * 13)).off + 5, none⟩ = some (.bool ((Y2 l0 x6_1).f3)) ∧ w'.cell? ⟨(d_0.add ((x6_1).toNat * 13)).block, (d_0.add ((x6_1).toNat * 13)).off + 6, none⟩ = some (.int .i64 ((Y2 l0 x6_1).f4.f0)) ∧ w'.cell? ⟨(d_0.add ((x6_1).toNat * 13)).block, (d_0.add ((x6_1).toNat * 13)).off + 7, none⟩ = some (.int .i64 ((Y2 l0 x6_1).f4.f1)) ∧ w'.cell? ⟨(d_0.add ((x6_1).toNat * 13)).block, (d_0.add ((x6_1).toNat * 13)).off + 8, none⟩ = some (.int .i64 ((Y2 l0 x6_1).f4.f2)) ∧ w'.cell? ⟨(d_0.add ((x6_1).toNat * 13)).block, (d_0.add ((x6_1).toNat * 13)).off + 9, none⟩ = some (.int .i64 ((Y2 l0 x6_1).f4.f3)) ∧ w'.cell? ⟨(d_0.add ((x6_1).toNat * 13)).block, (d_0.add ((x6_1).toNat * 13)).off + 10, none⟩ = some (.int .i64 ((Y2 l0 x6_1).f4.f4)) ∧ w'.cell? ⟨(d_0.add ((x6_1).toNat * 13)).block, (d_0.add ((x6_1).toNat * 13)).off + 11, none⟩ = some (.int .i64 ((Y2 l0 x6_1).f4.f5)) ∧ w'.cell? ⟨(d_0.add ((x6_1).toNat * 13)).block, (d_0.add ((x6_1).toNat * 13)).off + 12, none⟩ = some (.int .i64 ((Y2 l0 x6_1).f4.f6))) (ds := []) #[false, false, false, false, false, false, false, false, false, false, false, false, false] (by kernel_rfl) rfl rfl ⟨(Y1 B_0.out 0).trans rfl, (Y1 B_0.out 1).trans rfl, (hbC HB q_0), (hbC HB q_1), (hbC HB q_8), (hbC HB q_9), (hbC HB q_4), (hbC HB q_c), (hbC HB q_5), (hbC HB q_b), (hbC HB q_7), (hbC HB q_3), (hbC HB q_a), (hbC HB q_2), (hbC HB q_6)⟩ (fun hHeld => ?_); refine Y1q Yx.tab2 Yx.bits2 (fun HT_ HW_ => ?_)
     generalize wr.drew = w8 at B_0 HB m_6 m_8 m_4 m_5 m_1 m_0 m_3 m_b m_a m_c m_9 m_2 m_7 hHeld ⊢
     refine puA 0 7 (bs 13 1) ?_
     refine puA 1 8 (bs 13 3) ?_
     refine puA 2 9 (bs 13 7) ?_
     refine puA 3 10 (bs 13 15) ?_
     refine puA 4 11 (bs 13 31) ?_
     refine puA 5 12 (bs 13 63) ?_
     refine puA 6 13 (bs 13 127) ?_
     refine puA 7 14 (bs 13 255) ?_
     refine puA 8 15 (bs 13 511) ?_
     refine tkA 9 16 (bs 13 1023) hHeld ?_
     refine tkA 10 17 (bs 13 2047) hHeld ?_
     refine one_ (i := 11) (N := some 18) (bs 13 4095) rfl rfl (Y1N HT_.out (by kernel_rfl)) (by decide) (fun K hK => ?_)
     refine goes_ Try.func75 (by kernel_rfl) rfl #[.agg #[.int .i64 ((Y2 l0 x6_1).f0.f0), .int .i64 ((Y2 l0 x6_1).f0.f1)], .agg #[.int .i64 a1_0, .int .i64 a1_1]] (by rfl) rfl rfl (by (try simp only [List.map_toArray, List.map_cons, List.map_nil]); first | done | rfl | (simp only [List.length_drop, List.length_take]; rfl)) ?_
     with_reducible refine (Y1B.calls ((Y2 l0 x6_1).f0.f0) ((Y2 l0 x6_1).f0.f1) a1_0 a1_1 true _ A6.out).mono ?_
     rintro e w9 ⟨rfl, hb⟩
     refine ⟨_, rfl, ?_⟩
     replace B_0 := Y0.mk (Y6 (bU B_0.out) hb)
     replace HB := Y0.mk (Y4 (hU HB.out) hb)
     (try clear hb)
     (try clear hb2)
     (try clear hk)
     (try clear hi)
     refine hK.out _ _ ⟨(Y1 B_0.out 0).trans rfl, (Y1 B_0.out 1).trans rfl, (hbC HB q_0), (hbC HB q_1), (hbC HB q_8), (hbC HB q_9), (hbC HB q_4), (hbC HB q_c), (hbC HB q_5), (hbC HB q_b), (hbC HB q_7), (hbC HB q_3), (hbC HB q_a), (hbC HB q_2), (hbC HB q_6)⟩ (fun hHeld => ?_)
     clear hK K
     refine nmA 18 ?_
     refine puA 12 19 (bs 13 8191) ?_
     refine done_ (Y1G HT_.out (by kernel_rfl)) ?_
     try go_wp2
     go_roundg k1
     case measure => have := HK1.out; omega
     case rel => exact ⟨(wrap64 (x6_1 + 1)), reS, H', ⟨by have := HK1.out; omega⟩, ⟨kB B_0⟩, ⟨hU HB.out⟩⟩
    ·replace c7 := Bool.eq_false_iff.mpr c7
     subst c7
     have H1 : (some (x6_1, (((Y2 l0 x6_1).f0.f0) == a1_0 && (((Y2 l0 x6_1).f0.f1) == a1_1)))) = some (r1, r2) := by rw [if_neg (show ¬ (false = true) by decide)] at H; exact H
     clear H
     have H := H1
     clear H1
     simp only [Option.some.injEq, Prod.mk.injEq] at H
     obtain ⟨rfl, rfl⟩ := H
     try go_wp2
     replace B_0 := Y0.mk (Yd B_0.out)
     replace HB := Y0.mk (YC HB.out)
     have p128 : 0 ≤ (x6_1 : Int) := of_decide_eq_true (by first | (with_reducible assumption) | assumption)
     have q128 : x6_1 < (l0.length : Int) := of_decide_eq_true (by first | (with_reducible assumption) | assumption)
     obtain ⟨d_0, e128, m_6, m_8, m_0, m_3, m_b, m_a, m_c, m_9, m_2, m_7, m_4, m_5, m_1⟩ := Y1v HR0.out x6_1 p128 q128
     have q_6 := m_1
     have q_2 := m_5
     have q_a := m_4
     have q_3 := m_7
     have q_7 := m_2
     have q_b := m_9
     have q_5 := m_c
     have q_c := m_a
     have q_4 := m_b
     have q_9 := m_3
     have q_8 := m_0
     have q_1 := m_8
     have q_0 := m_6
     cases e128
     replace m_6 := hbC HB m_6
     replace m_8 := hbC HB m_8
     replace m_0 := hbC HB m_0
     replace m_3 := hbC HB m_3
     replace m_b := hbC HB m_b
     replace m_a := hbC HB m_a
     replace m_c := hbC HB m_c
     replace m_9 := hbC HB m_9
     replace m_2 := hbC HB m_2
     replace m_7 := hbC HB m_7
     replace m_4 := hbC HB m_4
     replace m_5 := hbC HB m_5
     replace m_1 := hbC HB m_1
     replace p128 := eq_true p128
     replace q128 := eq_true q128
     refine Y1w (n := 13) (S := fun w' => w'.cell? ⟨g_0, 0, none⟩ = some (.int .i64 a1_0) ∧ w'.cell? ⟨g_0, 1, none⟩ = some (.int .i64 a1_1) ∧ w'.cell? (d_0.add ((x6_1).toNat * 13)) = some (.int .i64 ((Y2 l0 x6_1).f0.f0)) ∧ w'.cell? ⟨(d_0.add ((x6_1).toNat * 13)).block, (d_0.add ((x6_1).toNat * 13)).off + 1, none⟩ = some (.int .i64 ((Y2 l0 x6_1).f0.f1)) ∧ w'.cell? ⟨(d_0.add ((x6_1).toNat * 13)).block, (d_0.add ((x6_1).toNat * 13)).off + 2, none⟩ = some (.int .i64 ((Y2 l0 x6_1).f1)) ∧ w'.cell? ⟨(d_0.add ((x6_1).toNat * 13)).block, (d_0.add ((x6_1).toNat * 13)).off + 3, none⟩ = some (.int .i64 ((Y2 l0 x6_1).f2.f0)) ∧ w'.cell? ⟨(d_0.add ((x6_1).toNat * 13)).block, (d_0.add ((x6_1).toNat * 13)).off + 4, none⟩ = some (.int .i64 ((Y2 l0 x6_1).f2.f1)) ∧ w'.cell? ⟨(d_0.add ((x6_1).toNat * 13)).block, (d_0.add ((x6_1).toNat * 13)).off + 5, none⟩ = some (.bool ((Y2 l0 x6_1).f3)) ∧ w'.cell? ⟨(d_0.add ((x6_1).toNat * 13)).block, (d_0.add ((x6_1).toNat * 13)).off + 6, none⟩ = some (.int .i64 ((Y2 l0 x6_1).f4.f0)) ∧ w'.cell? ⟨(d_0.add ((x6_1).toNat * 13)).block, (d_0.add ((x6_1).toNat * 13)).off + 7, none⟩ = some (.int .i64 ((Y2 l0 x6_1).f4.f1)) ∧ w'.cell? ⟨(d_0.add ((x6_1).toNat * 13)).block, (d_0.add ((x6_1).toNat * 13)).off + 8, none⟩ = some (.int .i64 ((Y2 l0 x6_1).f4.f2)) ∧ w'.cell? ⟨(d_0.add ((x6_1).toNat * 13)).block, (d_0.add ((x6_1).toNat * 13)).off + 9, none⟩ = some (.int .i64 ((Y2 l0 x6_1).f4.f3)) ∧ w'.cell? ⟨(d_0.add ((x6_1).toNat * 13)).block, (d_0.add ((x6_1).toNat * 13)).off + 10, none⟩ = some (.int .i64 ((Y2 l0 x6_1).f4.f4)) ∧ w'.cell? ⟨(d_0.add ((x6_1).toNat * 13)).block, (d_0.add ((x6_1).toNat * 13)).off + 11, none⟩ = some (.int .i64 ((Y2 l0 x6_1).f4.f5)) ∧ w'.cell? ⟨(d_0.add ((x6_1).toNat * 13)).block, (d_0.add ((x6_1).toNat * 13)).off + 12, none⟩ = some (.int .i64 ((Y2 l0 x6_1).f4.f6))) (ds := []) #[false, false, false, false, false, false, false, false, false, false, false, false, false] (by kernel_rfl) rfl rfl ⟨(Y1 B_0.out 0).trans rfl, (Y1 B_0.out 1).trans rfl, (hbC HB q_0), (hbC HB q_1), (hbC HB q_8), (hbC HB q_9), (hbC HB q_4), (hbC HB q_c), (hbC HB q_5), (hbC HB q_b), (hbC HB q_7), (hbC HB q_3), (hbC HB q_a), (hbC HB q_2), (hbC HB q_6)⟩ (fun hHeld => ?_); refine Y1q Yx.tab2 Yx.bits2 (fun HT_ HW_ => ?_)
     generalize wr.drew = w10 at B_0 HB m_6 m_8 m_4 m_5 m_1 m_0 m_3 m_b m_a m_c m_9 m_2 m_7 hHeld ⊢
     refine puA 0 7 (bs 13 1) ?_
     refine puA 1 8 (bs 13 3) ?_
     refine puA 2 9 (bs 13 7) ?_
     refine puA 3 10 (bs 13 15) ?_
     refine puA 4 11 (bs 13 31) ?_
     refine puA 5 12 (bs 13 63) ?_
     refine puA 6 13 (bs 13 127) ?_
     refine puA 7 14 (bs 13 255) ?_
     refine puA 8 15 (bs 13 511) ?_
     refine tkA 9 16 (bs 13 1023) hHeld ?_
     refine tkA 10 17 (bs 13 2047) hHeld ?_
     refine one_ (i := 11) (N := some 18) (bs 13 4095) rfl rfl (Y1N HT_.out (by kernel_rfl)) (by decide) (fun K hK => ?_)
     refine goes_ Try.func75 (by kernel_rfl) rfl #[.agg #[.int .i64 ((Y2 l0 x6_1).f0.f0), .int .i64 ((Y2 l0 x6_1).f0.f1)], .agg #[.int .i64 a1_0, .int .i64 a1_1]] (by rfl) rfl rfl (by (try simp only [List.map_toArray, List.map_cons, List.map_nil]); first | done | rfl | (simp only [List.length_drop, List.length_take]; rfl)) ?_
     with_reducible refine (Y1B.calls ((Y2 l0 x6_1).f0.f0) ((Y2 l0 x6_1).f0.f1) a1_0 a1_1 false _ A6.out).mono ?_
     rintro e w11 ⟨rfl, hb⟩
     refine ⟨_, rfl, ?_⟩
     replace B_0 := Y0.mk (Y6 (bU B_0.out) hb)
     replace HB := Y0.mk (Y4 (hU HB.out) hb)
     (try clear hb)
     (try clear hb2)
     (try clear hk)
     (try clear hi)
     refine hK.out _ _ ⟨(Y1 B_0.out 0).trans rfl, (Y1 B_0.out 1).trans rfl, (hbC HB q_0), (hbC HB q_1), (hbC HB q_8), (hbC HB q_9), (hbC HB q_4), (hbC HB q_c), (hbC HB q_5), (hbC HB q_b), (hbC HB q_7), (hbC HB q_3), (hbC HB q_a), (hbC HB q_2), (hbC HB q_6)⟩ (fun hHeld => ?_)
     clear hK K
     refine nmA 18 ?_
     refine puA 12 19 (bs 13 8191) ?_
     refine done_ (Y1G HT_.out (by kernel_rfl)) ?_
     try go_wp2
     replace B_0 := Y0.mk (Yd B_0.out)
     replace HB := Y0.mk (YC HB.out)
     have p130 : 0 ≤ (x6_1 : Int) := of_decide_eq_true (by first | (with_reducible assumption) | assumption)
     have q130 : x6_1 < (l0.length : Int) := of_decide_eq_true (by first | (with_reducible assumption) | assumption)
     obtain ⟨d_1, e130, m_e, m_k, m_h, m_n, m_p, m_j, m_f, m_m, m_o, m_l, m_i, m_g, m_d⟩ := Y1v HR0.out x6_1 p130 q130
     have q_j := m_d
     have q_o := m_g
     have q_d := m_i
     have q_e := m_l
     have q_k := m_o
     have q_g := m_m
     have q_l := m_f
     have q_p := m_j
     have q_i := m_p
     have q_f := m_n
     have q_n := m_h
     have q_h := m_k
     have q_m := m_e
     obtain rfl : d_0 = d_1 := (by injection e130)
     replace m_e := hbC HB m_e
     replace m_k := hbC HB m_k
     replace m_h := hbC HB m_h
     replace m_n := hbC HB m_n
     replace m_p := hbC HB m_p
     replace m_j := hbC HB m_j
     replace m_f := hbC HB m_f
     replace m_m := hbC HB m_m
     replace m_o := hbC HB m_o
     replace m_l := hbC HB m_l
     replace m_i := hbC HB m_i
     replace m_g := hbC HB m_g
     replace m_d := hbC HB m_d
     replace p130 := eq_true p130
     replace q130 := eq_true q130
     refine Y1w (n := 16) (S := fun w' => w'.cell? ⟨g_0, 0, none⟩ = some (.int .i64 a1_0) ∧ w'.cell? ⟨g_0, 1, none⟩ = some (.int .i64 a1_1) ∧ w'.cell? (d_0.add ((x6_1).toNat * 13)) = some (.int .i64 ((Y2 l0 x6_1).f0.f0)) ∧ w'.cell? ⟨(d_0.add ((x6_1).toNat * 13)).block, (d_0.add ((x6_1).toNat * 13)).off + 1, none⟩ = some (.int .i64 ((Y2 l0 x6_1).f0.f1)) ∧ w'.cell? ⟨(d_0.add ((x6_1).toNat * 13)).block, (d_0.add ((x6_1).toNat * 13)).off + 2, none⟩ = some (.int .i64 ((Y2 l0 x6_1).f1)) ∧ w'.cell? ⟨(d_0.add ((x6_1).toNat * 13)).block, (d_0.add ((x6_1).toNat * 13)).off + 3, none⟩ = some (.int .i64 ((Y2 l0 x6_1).f2.f0)) ∧ w'.cell? ⟨(d_0.add ((x6_1).toNat * 13)).block, (d_0.add ((x6_1).toNat * 13)).off + 4, none⟩ = some (.int .i64 ((Y2 l0 x6_1).f2.f1)) ∧ w'.cell? ⟨(d_0.add ((x6_1).toNat * 13)).block, (d_0.add ((x6_1).toNat * 13)).off + 5, none⟩ = some (.bool ((Y2 l0 x6_1).f3)) ∧ w'.cell? ⟨(d_0.add ((x6_1).toNat * 13)).block, (d_0.add ((x6_1).toNat * 13)).off + 6, none⟩ = some (.int .i64 ((Y2 l0 x6_1).f4.f0)) ∧ w'.cell? ⟨(d_0.add ((x6_1).toNat * 13)).block, (d_0.add ((x6_1).toNat * 13)).off + 7, none⟩ = some (.int .i64 ((Y2 l0 x6_1).f4.f1)) ∧ w'.cell? ⟨(d_0.add ((x6_1).toNat * 13)).block, (d_0.add ((x6_1).toNat * 13)).off + 8, none⟩ = some (.int .i64 ((Y2 l0 x6_1).f4.f2)) ∧ w'.cell? ⟨(d_0.add ((x6_1).toNat * 13)).block, (d_0.add ((x6_1).toNat * 13)).off + 9, none⟩ = some (.int .i64 ((Y2 l0 x6_1).f4.f3)) ∧ w'.cell? ⟨(d_0.add ((x6_1).toNat * 13)).block, (d_0.add ((x6_1).toNat * 13)).off + 10, none⟩ = some (.int .i64 ((Y2 l0 x6_1).f4.f4)) ∧ w'.cell? ⟨(d_0.add ((x6_1).toNat * 13)).block, (d_0.add ((x6_1).toNat * 13)).off + 11, none⟩ = some (.int .i64 ((Y2 l0 x6_1).f4.f5)) ∧ w'.cell? ⟨(d_0.add ((x6_1).toNat * 13)).block, (d_0.add ((x6_1).toNat * 13)).off + 12, none⟩ = some (.int .i64 ((Y2 l0 x6_1).f4.f6))) (ds := []) #[false, false, false, false, false, false, false, false, false, false, false, false, false, false, false, false] (by kernel_rfl) rfl rfl ⟨(Y1 B_0.out 0).trans rfl, (Y1 B_0.out 1).trans rfl, (hbC HB q_m), (hbC HB q_h), (hbC HB q_n), (hbC HB q_f), (hbC HB q_i), (hbC HB q_p), (hbC HB q_l), (hbC HB q_g), (hbC HB q_k), (hbC HB q_e), (hbC HB q_d), (hbC HB q_o), (hbC HB q_j)⟩ (fun hHeld => ?_); refine Y1q Yx.tab4 Yx.bits4 (fun HT_ HW_ => ?_)
     generalize w11.drew = w12 at B_0 HB m_e m_k m_i m_g m_d m_h m_n m_p m_j m_f m_m m_o m_l hHeld ⊢
     refine puA 0 22 (bs 16 1) ?_
     refine puA 1 23 (bs 16 3) ?_
     refine puA 2 24 (bs 16 7) ?_
     refine puA 3 25 (bs 16 15) ?_
     refine puA 4 26 (bs 16 31) ?_
     refine puA 5 27 (bs 16 63) ?_
     refine puA 6 28 (bs 16 127) ?_
     refine puA 7 29 (bs 16 255) ?_
     refine puA 8 30 (bs 16 511) ?_
     refine puA 9 31 (bs 16 1023) ?_
     refine puA 14 4 (bs 16 17407) ?_
     refine tkA 10 32 (bs 16 18431) hHeld ?_
     refine tkA 11 33 (bs 16 20479) hHeld ?_
     refine puA 12 34 (bs 16 24575) ?_
     refine puA 13 35 (bs 16 32767) ?_
     refine puA 15 5 (bs 16 65535) ?_
     refine done_ (Y1G HT_.out (by kernel_rfl)) ?_
     try go_wp2
     go_ret2
     exact ⟨reT, hU HB.out⟩
   ·rw [if_neg c4] at H
    have c4b0 := decide_eq_false c4
    clear c4
    simp only [Option.some.injEq, Prod.mk.injEq] at H
    obtain ⟨rfl, rfl⟩ := H
    try go_wp2
    replace B_0 := Y0.mk (Yd B_0.out)
    replace HB := Y0.mk (YC HB.out)
    refine Y1w (n := 13) (S := fun w' => True) (ds := []) #[false, false, false, false, false, false, false, false, false, false, false, false, false] (by kernel_rfl) rfl rfl trivial (fun hHeld => ?_); refine Y1q Yx.tab2 Yx.bits2 (fun HT_ HW_ => ?_)
    generalize wr.drew = w13 at B_0 HB hHeld ⊢
    refine puA 0 7 (bs 13 1) ?_
    refine puA 1 8 (bs 13 3) ?_
    refine puA 2 9 (bs 13 7) ?_
    refine puA 3 10 (bs 13 15) ?_
    refine puA 4 11 (bs 13 31) ?_
    refine skA 5 12 (bs 13 63) ?_
    refine skA 6 13 (bs 13 127) ?_
    refine skA 7 14 (bs 13 255) ?_
    refine skA 8 15 (bs 13 511) ?_
    refine skA 9 16 (bs 13 1023) ?_
    refine skA 10 17 (bs 13 2047) ?_
    refine skA 11 18 (bs 13 4095) ?_
    refine puA 12 19 (bs 13 8191) ?_
    refine done_ (Y1G HT_.out (by kernel_rfl)) ?_
    try go_wp2
    replace B_0 := Y0.mk (Yd B_0.out)
    replace HB := Y0.mk (YC HB.out)
    refine Y1w (n := 16) (S := fun w' => True) (ds := []) #[false, false, false, false, false, false, false, false, false, false, false, false, false, false, false, false] (by kernel_rfl) rfl rfl trivial (fun hHeld => ?_); refine Y1q Yx.tab4 Yx.bits4 (fun HT_ HW_ => ?_)
    generalize w13.drew = w14 at B_0 HB hHeld ⊢
    refine puA 0 22 (bs 16 1) ?_
    refine puA 1 23 (bs 16 3) ?_
    refine puA 2 24 (bs 16 7) ?_
    refine puA 3 25 (bs 16 15) ?_
    refine puA 4 26 (bs 16 31) ?_
    refine puA 5 27 (bs 16 63) ?_
    refine skA 6 28 (bs 16 127) ?_
    refine skA 7 29 (bs 16 255) ?_
    refine skA 8 30 (bs 16 511) ?_
    refine skA 9 31 (bs 16 1023) ?_
    refine skA 10 32 (bs 16 2047) ?_
    refine skA 11 33 (bs 16 4095) ?_
    refine skA 12 34 (bs 16 8191) ?_
    refine puA 13 35 (bs 16 16383) ?_
    refine puA 14 4 (bs 16 32767) ?_
    refine puA 15 5 (bs 16 65535) ?_
    refine done_ (Y1G HT_.out (by kernel_rfl)) ?_
    try go_wp2
    go_ret2
    exact ⟨reT, hU HB.out⟩
end Go.Proofs.Yteopkkoblbmggaa.P
end
