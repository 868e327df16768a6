/- Texts of this claim in one: PCheck, InsK, Ins; no condition. -/
import Derived.Deep.Light
import Derived.WalkSpells
import Derived.Test.YteopkkoblbmggaaYAI
import Derived.Test.YteopkkoblbmggaaYAD
import Derived.Laws.CopyRow
import Derived.Laws.IdiomCopy
import Derived.Shelf.Spec.SlicesInsert
import Derived.Shelf.Spec.SlicesInsertGrow
section
set_option linter.unusedVariables false
set_option linter.unusedSimpArgs false
namespace Go.Proofs.Yteopkkoblbmggaa.P
open Go.RowKit Go.Maps Go.Proofs.YteopkkoblbmggaaW.PrintWords Go.Proofs.YteopkkoblbmggaaW.PrintLast Go.Proofs.YteopkkoblbmggaaW.PrintMore
/-- The error of an edit. -/
def chk30 (e : S30) : Int := chkE e.f0.f0 e.f0.f1 e.f1 e.f2.f0 e.f2.f1 e.f3 e.f4.f0 e.f4.f1 e.f4.f2 e.f4.f3 e.f4.f4 e.f4.f5 e.f4.f6
def chkL30 : List S30 → Int
  | [] => 0
  | e :: t => if chk30 e = 0 then chkL30 t else chk30 e
def less26 (a b : S26) : Bool := lessP a.f0 a.f1 b.f0 b.f1
def ord30 : List S30 → Bool
  | a :: b :: t => less26 a.f0 b.f0 && ord30 (b :: t)
  | _ => true
def kno30 (l : List S30) (e : S30) : Bool := fouB l e.f1 e.f2.f0 e.f2.f1
/-- The error of a replica. -/
def rchkP (d : Int) (l : List S30) : Int :=
  if d < 1 ∨ 64 < d then 43 else if 512 < l.length then 3 else if chkL30 l = 0 then (if ord30 l = true then (if l.all (kno30 l) = true then 0 else 6) else 5) else chkL30 l
instance (n : Int) : Decidable (okN n) := inferInstanceAs (Decidable (_ = true))
instance (e : S30) : Decidable (okE30 e) := inferInstanceAs (Decidable (_ ∧ _ ∧ _))
def replica_Check.f (a0 : Int) (l1 : List S30) : Option Int := if ∀ e ∈ l1, okE30 e then some (rchkP a0 l1) else none
set_option maxHeartbeats 16000000 in
set_option maxRecDepth 100000 in
theorem replica_Check.calls (a0 : Int) (A1 : Option Addr) (c1 : Nat) (l1 : List S30) (r : Int) (w : World) (hr1 : Kd.C k30 w A1 l1.length l1) (hc1 : l1.length ≤ c1) (h : replica_Check.f a0 l1 = some r) :
    Calls Try.prog 29 #[.agg #[.int .i64 a0, .slice A1 l1.length c1]] w fun e w' => e = .returned (.int .i64 r) ∧ Below w.heap.size w w' := by
  unfold replica_Check.f at h
  by_cases hv : ∀ e ∈ l1, okE30 e
  rotate_left
  · rw [if_neg hv] at h; cases h
  rw [if_pos hv] at h
  have HH : Aside0 (rchkP a0 l1 = r) := ⟨Option.some.inj h⟩
  have HR := Aside0.mk hr1
  have HC := Aside0.mk hc1
  have HV := Aside0.mk hv
  have HB := Aside0.mk (Below.refl w.heap.size w)
  have hu24 := Try.underlying24
  clear hr1 hc1 hv h
  go_enter Try.func29, Try.ntmps29
  go_upto_region 1 with (fail)
  have n1_ : Below w.heap.size w (w.alloc (.cells #[.int .i64 a0, .slice A1 l1.length c1] 24)) := below_alloc HB.out _
  have B0 : Aside0 ((w.alloc (.cells #[.int .i64 a0, .slice A1 l1.length c1] 24)).heap[w.heap.size]? = some (.cells #[.int .i64 a0, .slice A1 l1.length c1] 24 (0, 0))) := ⟨blk_new _ _⟩
  have GE : Aside0 (w.heap.size ≤ w.heap.size) := ⟨Nat.le_refl _⟩
  clear HB
  have HB := Aside0.mk n1_
  clear n1_
  generalize hg0 : w.heap.size = g0 at B0 HB GE ⊢
  rw [← hg0] at HB
  generalize (w.alloc (.cells #[.int .i64 a0, .slice A1 l1.length c1] 24)) = W0 at B0 HB ⊢
  have hc0 := blk_cell B0.out
  by_cases d0 : a0 < 1
  · have hr : r = 43 := by have := HH.out; unfold rchkP at this; rw [if_pos (Or.inl d0)] at this; exact this.symm
    subst hr
    have d0b : decide (a0 < 1) = true := decide_eq_true d0
    clear d0
    go_wp2
    go_ret
    exact ⟨rfl, HB.out⟩
  have d0b : decide (a0 < 1) = false := decide_eq_false d0
  by_cases d1 : 64 < a0
  · have hr : r = 43 := by have := HH.out; unfold rchkP at this; rw [if_pos (Or.inr d1)] at this; exact this.symm
    subst hr
    have d1b : decide (64 < a0) = true := decide_eq_true d1
    clear d0 d1
    go_wp2
    go_ret
    exact ⟨rfl, HB.out⟩
  have d1b : decide (64 < a0) = false := decide_eq_false d1
  by_cases d2 : 512 < l1.length
  · have hr : r = 3 := by have := HH.out; unfold rchkP at this; rw [if_neg (by omega), if_pos d2] at this; exact this.symm
    subst hr
    have d2b : decide ((512 : Int) < (l1.length : Int)) = true := decide_eq_true (by omega)
    clear d0 d1
    go_wp2
    go_ret
    exact ⟨rfl, HB.out⟩
  have d2b : decide ((512 : Int) < (l1.length : Int)) = false := decide_eq_false (by omega)
  have HX : Aside0 ((if chkL30 l1 = 0 then (if ord30 l1 = true then (if l1.all (kno30 l1) = true then 0 else 6) else 5) else chkL30 l1) = r) := ⟨by have := HH.out; unfold rchkP at this; rw [if_neg (by omega), if_neg d2] at this; exact this⟩
  have HN : Aside0 (l1.length ≤ 512) := ⟨by omega⟩
  clear HH d0 d1 d2
  go_wp2
  go_loopg [25] l1.length (fun kq v25 W => ∃ (i : Nat), v25 = .int .i64 (i : Int) ∧ Aside0 (i + kq = l1.length) ∧ Aside0 (chkL30 l1 = chkL30 (l1.drop i)) ∧ Aside0 (W.heap[g0]? = some (.cells #[.int .i64 a0, .slice A1 l1.length c1] 24 (0, 0))) ∧ Aside0 (Below w.heap.size w W))
  case atStart => exact ⟨0, rfl, ⟨by omega⟩, ⟨by rw [List.drop_zero]⟩, B0, HB⟩
  case round =>
    clear HB B0 hc0
    obtain ⟨i, rfl, HK, HS, B0, HB⟩ := hrel
    have hc0 := blk_cell B0.out
    cases gk with
    | succ k1 =>
      have hi : i < l1.length := by have := HK.out; omega
      have hlt : decide (i < l1.length) = true := by simp; exact hi
      obtain ⟨adx, e0x, hx0, hx1, hx2, hx3, hx4, hx5, hx6, hx7, hx8, hx9, hx10, hx11, hx12⟩ := at_T30 HR.out (i : Int) (by omega) (by omega)
      cases e0x
      rw [Int.toNat_natCast] at hx0 hx1 hx2 hx3 hx4 hx5 hx6 hx7 hx8 hx9 hx10 hx11 hx12
      rw [rd30_at hi] at hx0 hx1 hx2 hx3 hx4 hx5 hx6 hx7 hx8 hx9 hx10 hx11 hx12
      replace hx0 := (HB.out.cell (World.block_lt_of_cell? w _ hx0)).trans hx0
      replace hx1 := (HB.out.cell (World.block_lt_of_cell? w _ hx1)).trans hx1
      replace hx2 := (HB.out.cell (World.block_lt_of_cell? w _ hx2)).trans hx2
      replace hx3 := (HB.out.cell (World.block_lt_of_cell? w _ hx3)).trans hx3
      replace hx4 := (HB.out.cell (World.block_lt_of_cell? w _ hx4)).trans hx4
      replace hx5 := (HB.out.cell (World.block_lt_of_cell? w _ hx5)).trans hx5
      replace hx6 := (HB.out.cell (World.block_lt_of_cell? w _ hx6)).trans hx6
      replace hx7 := (HB.out.cell (World.block_lt_of_cell? w _ hx7)).trans hx7
      replace hx8 := (HB.out.cell (World.block_lt_of_cell? w _ hx8)).trans hx8
      replace hx9 := (HB.out.cell (World.block_lt_of_cell? w _ hx9)).trans hx9
      replace hx10 := (HB.out.cell (World.block_lt_of_cell? w _ hx10)).trans hx10
      replace hx11 := (HB.out.cell (World.block_lt_of_cell? w _ hx11)).trans hx11
      replace hx12 := (HB.out.cell (World.block_lt_of_cell? w _ hx12)).trans hx12
      have q0 : (0 ≤ ((i : Nat) : Int)) = True := by simp
      have q1 : (((i : Nat) : Int) < (l1.length : Int)) = True := by simp; exact hi
      have HD := Aside0.mk (List.drop_eq_getElem_cons hi)
      generalize l1[i]'hi = x at hx0 hx1 hx2 hx3 hx4 hx5 hx6 hx7 hx8 hx9 hx10 hx11 hx12 HD
      have HI := Aside0.mk hi
      obtain ⟨v, hv⟩ : ∃ v, v = chk30 x := ⟨_, rfl⟩
      have HQ := Aside0.mk (check_eq 0 x.f0.f0 x.f0.f1 x.f1 x.f2.f0 x.f2.f1 x.f3 x.f4.f0 x.f4.f1 x.f4.f2 x.f4.f3 x.f4.f4 x.f4.f5 x.f4.f6)
      rw [show chkE x.f0.f0 x.f0.f1 x.f1 x.f2.f0 x.f2.f1 x.f3 x.f4.f0 x.f4.f1 x.f4.f2 x.f4.f3 x.f4.f4 x.f4.f5 x.f4.f6 = v from hv.symm] at HQ
      have HV2 := Aside0.mk hv
      clear hi hv
      go_upto_region 8 with (fail)
      have HB1 : Aside0 (Below w.heap.size w (wr.alloc (.cells #[.int .i64 x.f0.f0, .int .i64 x.f0.f1, .int .i64 x.f1, .int .i64 x.f2.f0, .int .i64 x.f2.f1, .bool x.f3, .int .i64 x.f4.f0, .int .i64 x.f4.f1, .int .i64 x.f4.f2, .int .i64 x.f4.f3, .int .i64 x.f4.f4, .int .i64 x.f4.f5, .int .i64 x.f4.f6] 30))) := ⟨below_alloc HB.out _⟩
      have B01 : Aside0 ((wr.alloc (.cells #[.int .i64 x.f0.f0, .int .i64 x.f0.f1, .int .i64 x.f1, .int .i64 x.f2.f0, .int .i64 x.f2.f1, .bool x.f3, .int .i64 x.f4.f0, .int .i64 x.f4.f1, .int .i64 x.f4.f2, .int .i64 x.f4.f3, .int .i64 x.f4.f4, .int .i64 x.f4.f5, .int .i64 x.f4.f6] 30)).heap[g0]? = some (.cells #[.int .i64 a0, .slice (some adx) l1.length c1] 24 (0, 0))) := ⟨blk_alloc B0.out _⟩
      have B4 : Aside0 ((wr.alloc (.cells #[.int .i64 x.f0.f0, .int .i64 x.f0.f1, .int .i64 x.f1, .int .i64 x.f2.f0, .int .i64 x.f2.f1, .bool x.f3, .int .i64 x.f4.f0, .int .i64 x.f4.f1, .int .i64 x.f4.f2, .int .i64 x.f4.f3, .int .i64 x.f4.f4, .int .i64 x.f4.f5, .int .i64 x.f4.f6] 30)).heap[wr.heap.size]? = some (.cells #[.int .i64 x.f0.f0, .int .i64 x.f0.f1, .int .i64 x.f1, .int .i64 x.f2.f0, .int .i64 x.f2.f1, .bool x.f3, .int .i64 x.f4.f0, .int .i64 x.f4.f1, .int .i64 x.f4.f2, .int .i64 x.f4.f3, .int .i64 x.f4.f4, .int .i64 x.f4.f5, .int .i64 x.f4.f6] 30 (0, 0))) := ⟨blk_new _ _⟩
      generalize (wr.alloc (.cells #[.int .i64 x.f0.f0, .int .i64 x.f0.f1, .int .i64 x.f1, .int .i64 x.f2.f0, .int .i64 x.f2.f1, .bool x.f3, .int .i64 x.f4.f0, .int .i64 x.f4.f1, .int .i64 x.f4.f2, .int .i64 x.f4.f3, .int .i64 x.f4.f4, .int .i64 x.f4.f5, .int .i64 x.f4.f6] 30)) = W1 at HB1 B01 B4 ⊢
      generalize wr.heap.size = g4 at B4 ⊢
      clear HB B0 hc0 hx0 hx1 hx2 hx3 hx4 hx5 hx6 hx7 hx8 hx9 hx10 hx11 hx12
      have hc4 := blk_cell B4.out
      by_cases hz : v = 0
      · subst hz
        have HS2 : Aside0 (chkL30 l1 = chkL30 (l1.drop (i + 1))) := ⟨by rw [HS.out, HD.out]; show (if chk30 x = 0 then _ else _) = _; rw [if_pos HV2.out.symm]⟩
        go_wp2_with (first | ((with_reducible refine gate_callee (f := 54) rfl ?_); refine goesL_ (some 30) rfl rfl Try.func54 (by kernel_rfl) rfl #[.agg #[.int .i64 x.f0.f0, .int .i64 x.f0.f1, .int .i64 x.f1, .int .i64 x.f2.f0, .int .i64 x.f2.f1, .bool x.f3, .int .i64 x.f4.f0, .int .i64 x.f4.f1, .int .i64 x.f4.f2, .int .i64 x.f4.f3, .int .i64 x.f4.f4, .int .i64 x.f4.f5, .int .i64 x.f4.f6]] rfl (by (try simp only [List.map_toArray, List.map_cons, List.map_nil]); first | done | (go_simp; done) | rfl) ?_; refine (edits_Check.calls _ _ _ _ _ _ _ _ _ _ _ _ _ _ _ _ HQ.out).mono ?_; rintro e w2 ⟨rfl, hb⟩; refine ⟨_, rfl, ?_⟩; have HB2 := Aside0.mk (below_step (hU HB1.out) hb); have B02 := Aside0.mk (blk_below B01.out hb); clear hb))
        go_roundg k1
        case measure => have := HK.out; omega
        case rel => exact ⟨i + 1, by first | (simp; done) | (simp; unfold wrap64; have := HN.out; have := HI.out; omega), ⟨by have := HK.out; omega⟩, HS2, B02, HB2⟩
      · have hr : v = r := by
          have h := HX.out
          have h3 : chkL30 l1 = v := by rw [HS.out, HD.out]; show (if chk30 x = 0 then _ else _) = _; rw [if_neg (by rw [← HV2.out]; exact hz), HV2.out]
          rw [h3, if_neg hz] at h
          exact h
        subst hr
        have hz2 : (v != 0) = true := by simp; exact hz
        go_wp2_with (first | ((with_reducible refine gate_callee (f := 54) rfl ?_); refine goesL_ (some 30) rfl rfl Try.func54 (by kernel_rfl) rfl #[.agg #[.int .i64 x.f0.f0, .int .i64 x.f0.f1, .int .i64 x.f1, .int .i64 x.f2.f0, .int .i64 x.f2.f1, .bool x.f3, .int .i64 x.f4.f0, .int .i64 x.f4.f1, .int .i64 x.f4.f2, .int .i64 x.f4.f3, .int .i64 x.f4.f4, .int .i64 x.f4.f5, .int .i64 x.f4.f6]] rfl (by (try simp only [List.map_toArray, List.map_cons, List.map_nil]); first | done | (go_simp; done) | rfl) ?_; refine (edits_Check.calls _ _ _ _ _ _ _ _ _ _ _ _ _ _ _ _ HQ.out).mono ?_; rintro e w2 ⟨rfl, hb⟩; refine ⟨_, rfl, ?_⟩; have HB2 := Aside0.mk (below_step (hU HB1.out) hb); have B02 := Aside0.mk (blk_below B01.out hb); clear hb))
        (try rw [Exit.noGoto_ret])
        go_ret
        exact ⟨rfl, HB2.out⟩
    | zero =>
      have hi : i = l1.length := by have := HK.out; omega
      have hlt : decide (i < l1.length) = false := by simp; omega
      have H2 : Aside0 ((if ord30 l1 = true then (if l1.all (kno30 l1) = true then 0 else 6) else 5) = r) := ⟨by have h := HX.out; rw [HS.out, hi, List.drop_length, if_pos (show chkL30 [] = 0 from rfl)] at h; exact h⟩
      clear HX HS HK hi
      go_wp2
      clear hlt
      go_loopg [6] l1.length (fun kq v6 W => ∃ (i : Nat) (X : Int), v6 = .int .i64 X ∧ Aside0 (X = (i : Int) + 1) ∧ Aside0 (l1.length ≤ i + 1 + kq) ∧ Aside0 (i ≤ l1.length) ∧ Aside0 (ord30 l1 = ord30 (l1.drop i)) ∧ Aside0 (W.heap[g0]? = some (.cells #[.int .i64 a0, .slice A1 l1.length c1] 24 (0, 0))) ∧ Aside0 (Below w.heap.size w W))
      case atStart => exact ⟨0, 1, rfl, ⟨by omega⟩, ⟨by omega⟩, ⟨by omega⟩, ⟨by rw [List.drop_zero]⟩, B0, HB⟩
      case round =>
       clear HB B0 hc0
       obtain ⟨i, X, rfl, HX, HK, HI, HS, B0, HB⟩ := hrel
       have hc0 := blk_cell B0.out
       by_cases hi : i + 1 < l1.length
       · have hlt : decide (X < (l1.length : Int)) = true := by have := HX.out; simp; omega
         have hi0 : i < l1.length := by omega
         have hX : X = ((i + 1 : Nat) : Int) := by have := HX.out; omega
         obtain ⟨J, hJ⟩ : ∃ J : Int, J = (i : Int) := ⟨_, rfl⟩
         have hwJ : wrap64 (X - 1) = J := by have := HN.out; unfold wrap64; omega
         have hX0 : 0 ≤ X := by omega
         have hX1 : X < (l1.length : Int) := by omega
         have hJ0 : 0 ≤ J := by omega
         have hJ1 : J < (l1.length : Int) := by omega
         obtain ⟨adx, e0x, hx0, hx1, hx2, hx3, hx4, hx5, hx6, hx7, hx8, hx9, hx10, hx11, hx12⟩ := at_T30 HR.out J hJ0 hJ1
         cases e0x
         obtain ⟨ady, e0y, hy0, hy1, hy2, hy3, hy4, hy5, hy6, hy7, hy8, hy9, hy10, hy11, hy12⟩ := at_T30 HR.out X hX0 hX1
         cases e0y
         have hx_ : rd_T30 l1 J = l1[i] := by rw [hJ]; exact rd30_at hi0
         have hy_ : rd_T30 l1 X = l1[i + 1] := by rw [hX]; exact rd30_at hi
         have HD := Aside0.mk (List.drop_eq_getElem_cons hi0)
         have HD2 := Aside0.mk (List.drop_eq_getElem_cons hi)
         rw [← hx_] at HD
         rw [← hy_] at HD2
         rw [show (i + 1 : Nat) = i + 1 from rfl] at HD2
         generalize rd_T30 l1 J = x at hx0 hx1 hx2 hx3 hx4 hx5 hx6 hx7 hx8 hx9 hx10 hx11 hx12 HD
         generalize rd_T30 l1 X = y at hy0 hy1 hy2 hy3 hy4 hy5 hy6 hy7 hy8 hy9 hy10 hy11 hy12 HD2
         have hwx0 := hx0
         have hwx1 := hx1
         have hwy0 := hy0
         have hwy1 := hy1
         replace hx0 := (HB.out.cell (World.block_lt_of_cell? w _ hx0)).trans hx0
         replace hx1 := (HB.out.cell (World.block_lt_of_cell? w _ hx1)).trans hx1
         replace hy0 := (HB.out.cell (World.block_lt_of_cell? w _ hy0)).trans hy0
         replace hy1 := (HB.out.cell (World.block_lt_of_cell? w _ hy1)).trans hy1
         clear hx2 hx3 hx4 hx5 hx6 hx7 hx8 hx9 hx10 hx11 hx12 hy2 hy3 hy4 hy5 hy6 hy7 hy8 hy9 hy10 hy11 hy12
         have q0 : (0 ≤ J) = True := eq_true hJ0
         have q1 : (J < (l1.length : Int)) = True := eq_true hJ1
         have q2 : (0 ≤ X) = True := eq_true hX0
         have q3 : (X < (l1.length : Int)) = True := eq_true hX1
         have HXi := Aside0.mk hX
         clear hX0 hX1 hJ0 hJ1 hX hJ hx_ hy_ hi0
         obtain ⟨b, hb0⟩ : ∃ b, b = less26 x.f0 y.f0 := ⟨_, rfl⟩
         have HQ := Aside0.mk (eless_eq x.f0.f0 x.f0.f1 y.f0.f0 y.f0.f1)
         rw [show lessP x.f0.f0 x.f0.f1 y.f0.f0 y.f0.f1 = b from hb0.symm] at HQ
         have HS2 : Aside0 (ord30 l1 = (b && ord30 (l1.drop (i + 1)))) := ⟨by rw [HS.out, HD.out, HD2.out]; show (less26 x.f0 y.f0 && _) = _; rw [hb0]⟩
         have HI2 := Aside0.mk hi
         clear hb0 hi
         go_upto_region 15 with (fail)
         refine start_ (n := 15) (S := fun w' => w'.cell? ⟨g0, 1, none⟩ = some (.slice (some adx) l1.length c1) ∧ w'.cell? (adx.add (J.toNat * 13)) = some (.int .i64 x.f0.f0) ∧ w'.cell? ⟨(adx.add (J.toNat * 13)).block, (adx.add (J.toNat * 13)).off + 1, none⟩ = some (.int .i64 x.f0.f1) ∧ w'.cell? (adx.add (X.toNat * 13)) = some (.int .i64 y.f0.f0) ∧ w'.cell? ⟨(adx.add (X.toNat * 13)).block, (adx.add (X.toNat * 13)).off + 1, none⟩ = some (.int .i64 y.f0.f1)) (ds := []) (bs 15 0) rfl rfl (by kernel_rfl) ⟨(blk_cell B0.out 1).trans rfl, hx0, hx1, hy0, hy1⟩ (fun hHeld => ?_)
         refine puA 0 42 (bs 15 1) ?_
         refine tkA 1 43 (bs 15 3) hHeld ?_ (hy := Or.inl ⟨by rfl, by rintro w' ⟨s0, s1, s2, s3, s4⟩; go_simp; with_reducible rfl⟩)
         refine puA 2 44 (bs 15 7) ?_
         refine puA 3 45 (bs 15 15) ?_
         refine puA 4 46 (bs 15 31) ?_
         refine puA 5 47 (bs 15 63) ?_
         refine tkA 6 48 (bs 15 127) hHeld ?_ (hy := Or.inl ⟨by rfl, by rintro w' ⟨s0, s1, s2, s3, s4⟩; go_simp; with_reducible rfl⟩)
         refine puA 7 49 (bs 15 255) ?_
         refine tkA 8 50 (bs 15 511) hHeld ?_ (hy := Or.inl ⟨by rfl, by rintro w' ⟨s0, s1, s2, s3, s4⟩; go_simp; with_reducible rfl⟩)
         refine puA 9 51 (bs 15 1023) ?_
         refine puA 10 52 (bs 15 2047) ?_
         refine puA 11 53 (bs 15 4095) ?_
         refine tkA 12 54 (bs 15 8191) hHeld ?_ (hy := Or.inl ⟨by rfl, by rintro w' ⟨s0, s1, s2, s3, s4⟩; go_simp; with_reducible rfl⟩)
         refine one_ (i := 13) (N := some 55) (bs 15 16383) rfl rfl (by kernel_rfl) (by decide) (fun K hK => ?_)
         refine goes_ Try.func75 (by kernel_rfl) rfl #[.agg #[.int .i64 x.f0.f0, .int .i64 x.f0.f1], .agg #[.int .i64 y.f0.f0, .int .i64 y.f0.f1]] (by rfl) rfl rfl (by (try simp only [List.map_toArray, List.map_cons, List.map_nil]); first | done | (go_simp; done) | rfl) ?_
         refine (edits_Less.calls _ _ _ _ b _ HQ.out).mono ?_
         rintro e w2 ⟨rfl, hb⟩
         refine ⟨_, rfl, ?_⟩
         have HB2 := Aside0.mk (below_step (hU HB.out) hb)
         have B02 := Aside0.mk (blk_below (bU B0.out) hb)
         clear hb
         refine hK.out _ _ ⟨(blk_cell B02.out 1).trans rfl, hbC HB2 hwx0, hbC HB2 hwx1, hbC HB2 hwy0, hbC HB2 hwy1⟩ (fun hHeld => ?_)
         clear hK K
         refine nmA 55 ?_
         refine puA 14 56 (bs 15 32767) ?_
         refine done_ (by kernel_rfl) ?_
         clear HB B0 hc0 hwx0 hwx1 hwy0 hwy1 hx0 hx1 hy0 hy1
         have hc0 := blk_cell B02.out
         cases b
         · have hr : r = 5 := by
             have h := H2.out
             rw [HS2.out, Bool.false_and, if_neg (by decide)] at h
             exact h.symm
           subst hr
           go_wp2
           (try rw [Exit.noGoto_ret])
           go_ret
           exact ⟨rfl, HB2.out⟩
         · go_wp2
           cases gk with
           | zero => have := HK.out; have := HI2.out; omega
           | succ k1 =>
             go_roundg k1
             case measure => have := HK.out; omega
             case rel => exact ⟨i + 1, _, rfl, ⟨by have := HXi.out; have := HN.out; have := HI2.out; unfold wrap64; omega⟩, ⟨by have := HK.out; omega⟩, ⟨by have := HI2.out; omega⟩, ⟨by rw [HS2.out, Bool.true_and]⟩, B02, HB2⟩
       · have hlt : decide (X < (l1.length : Int)) = false := by have := HX.out; simp; omega
         have h1 : ord30 l1 = true := by
           rw [HS.out]
           have : (l1.drop i).length ≤ 1 := by rw [List.length_drop]; omega
           match hd : l1.drop i, this with
           | [], _ => rfl
           | [a], _ => rfl
           | a :: b :: l, h => simp at h
         have H3 : Aside0 ((if l1.all (kno30 l1) = true then 0 else 6) = r) := ⟨by rw [← H2.out, if_pos h1]⟩
         clear HX HK HI HS H2 h1 hi
         go_wp2_with (first | ((with_reducible refine gate_callee (f := 57) rfl ?_); refine goesL_ (some 59) rfl rfl Try.func57 (by kernel_rfl) rfl #[.slice A1 l1.length c1] rfl (by (try simp only [List.map_toArray, List.map_cons, List.map_nil]); first | done | (go_simp; done) | rfl) ?_; refine (founders_calls A1 c1 l1 _ (Kd.C_below HR.out (hU HB.out)) HC.out (by have := HN.out; omega) HV.out).mono ?_; rintro e w2 ⟨B, D, rfl, ho, hs, hB, hb⟩; refine ⟨_, rfl, ?_⟩; have HO := Aside0.mk ho; have HS := Aside0.mk hs; have HB2 := Aside0.mk (below_step (hU HB.out) hb); have B02 := Aside0.mk (blk_below (bU B0.out) hb); clear ho hs hb hB; clear HB B0 hc0; have hc0 := blk_cell B02.out))
         clear hlt
         go_loopg [63] l1.length (fun kq v63 W => ∃ (i : Nat), v63 = .int .i64 (i : Int) ∧ Aside0 (i + kq = l1.length) ∧ Aside0 (l1.all (kno30 l1) = (l1.drop i).all (kno30 l1)) ∧ Aside0 (World.ownsMap (H := Unit) W Try.prog 82 (plainElem Try.prog 4) B l1.length D) ∧ Aside0 (W.heap[g0]? = some (.cells #[.int .i64 a0, .slice A1 l1.length c1] 24 (0, 0))) ∧ Aside0 (Below w.heap.size w W))
         case atStart => exact ⟨0, rfl, ⟨by omega⟩, ⟨by rw [List.drop_zero]⟩, HO, B02, HB2⟩
         case round =>
          clear HB2 B02 hc0 HO
          obtain ⟨i, rfl, HK, HT, HO, B0, HB⟩ := hrel
          have hc0 := blk_cell B0.out
          cases gk with
          | zero =>
            have hi : i = l1.length := by have := HK.out; omega
            have hlt : decide (i < l1.length) = false := by simp; omega
            have hr : r = 0 := by
              have h := H3.out
              rw [HT.out, hi, List.drop_length, if_pos (show ([] : List S30).all (kno30 l1) = true from rfl)] at h
              exact h.symm
            subst hr
            clear HK HT hi
            go_wp2
            go_ret
            exact ⟨rfl, HB.out⟩
          | succ k1 =>
            have hi : i < l1.length := by have := HK.out; omega
            have hlt : decide (i < l1.length) = true := by simp; exact hi
            obtain ⟨adx, e0x, hx0, hx1, hx2, hx3, hx4, hx5, hx6, hx7, hx8, hx9, hx10, hx11, hx12⟩ := at_T30 HR.out (i : Int) (by omega) (by omega)
            cases e0x
            rw [Int.toNat_natCast] at hx0 hx1 hx2 hx3 hx4 hx5 hx6 hx7 hx8 hx9 hx10 hx11 hx12
            rw [rd30_at hi] at hx0 hx1 hx2 hx3 hx4 hx5 hx6 hx7 hx8 hx9 hx10 hx11 hx12
            replace hx0 := (HB.out.cell (World.block_lt_of_cell? w _ hx0)).trans hx0
            replace hx1 := (HB.out.cell (World.block_lt_of_cell? w _ hx1)).trans hx1
            replace hx2 := (HB.out.cell (World.block_lt_of_cell? w _ hx2)).trans hx2
            replace hx3 := (HB.out.cell (World.block_lt_of_cell? w _ hx3)).trans hx3
            replace hx4 := (HB.out.cell (World.block_lt_of_cell? w _ hx4)).trans hx4
            replace hx5 := (HB.out.cell (World.block_lt_of_cell? w _ hx5)).trans hx5
            replace hx6 := (HB.out.cell (World.block_lt_of_cell? w _ hx6)).trans hx6
            replace hx7 := (HB.out.cell (World.block_lt_of_cell? w _ hx7)).trans hx7
            replace hx8 := (HB.out.cell (World.block_lt_of_cell? w _ hx8)).trans hx8
            replace hx9 := (HB.out.cell (World.block_lt_of_cell? w _ hx9)).trans hx9
            replace hx10 := (HB.out.cell (World.block_lt_of_cell? w _ hx10)).trans hx10
            replace hx11 := (HB.out.cell (World.block_lt_of_cell? w _ hx11)).trans hx11
            replace hx12 := (HB.out.cell (World.block_lt_of_cell? w _ hx12)).trans hx12
            have q0 : (0 ≤ ((i : Nat) : Int)) = True := by simp
            have q1 : (((i : Nat) : Int) < (l1.length : Int)) = True := by simp; exact hi
            have HD := Aside0.mk (List.drop_eq_getElem_cons hi)
            have HE := Aside0.mk (HV.out _ (List.getElem_mem hi))
            generalize l1[i]'hi = x at hx0 hx1 hx2 hx3 hx4 hx5 hx6 hx7 hx8 hx9 hx10 hx11 hx12 HD HE
            have HI := Aside0.mk hi
            obtain ⟨b, hb0⟩ : ∃ b, b = kno30 l1 x := ⟨_, rfl⟩
            have HAT : Aside0 (D.atKey (kS x.f1 x.f2.f0 x.f2.f1) (.lit (.bool false)) = .lit (.bool b)) := ⟨by rw [HS.out x.f1 x.f2.f0 x.f2.f1 HE.out.1 HE.out.2.1 HE.out.2.2, hb0]; rfl⟩
            have HS2 : Aside0 (l1.all (kno30 l1) = (b && (l1.drop (i + 1)).all (kno30 l1))) := ⟨by rw [HT.out, HD.out, List.all_cons, hb0]⟩
            clear hi hb0
            go_upto_region 21 with (fail)
            have HB1 : Aside0 (Below w.heap.size w (wr.alloc (.cells #[.int .i64 x.f0.f0, .int .i64 x.f0.f1, .int .i64 x.f1, .int .i64 x.f2.f0, .int .i64 x.f2.f1, .bool x.f3, .int .i64 x.f4.f0, .int .i64 x.f4.f1, .int .i64 x.f4.f2, .int .i64 x.f4.f3, .int .i64 x.f4.f4, .int .i64 x.f4.f5, .int .i64 x.f4.f6] 30))) := ⟨below_alloc HB.out _⟩
            have B01 : Aside0 ((wr.alloc (.cells #[.int .i64 x.f0.f0, .int .i64 x.f0.f1, .int .i64 x.f1, .int .i64 x.f2.f0, .int .i64 x.f2.f1, .bool x.f3, .int .i64 x.f4.f0, .int .i64 x.f4.f1, .int .i64 x.f4.f2, .int .i64 x.f4.f3, .int .i64 x.f4.f4, .int .i64 x.f4.f5, .int .i64 x.f4.f6] 30)).heap[g0]? = some (.cells #[.int .i64 a0, .slice (some adx) l1.length c1] 24 (0, 0))) := ⟨blk_alloc B0.out _⟩
            have B9 : Aside0 ((wr.alloc (.cells #[.int .i64 x.f0.f0, .int .i64 x.f0.f1, .int .i64 x.f1, .int .i64 x.f2.f0, .int .i64 x.f2.f1, .bool x.f3, .int .i64 x.f4.f0, .int .i64 x.f4.f1, .int .i64 x.f4.f2, .int .i64 x.f4.f3, .int .i64 x.f4.f4, .int .i64 x.f4.f5, .int .i64 x.f4.f6] 30)).heap[wr.heap.size]? = some (.cells #[.int .i64 x.f0.f0, .int .i64 x.f0.f1, .int .i64 x.f1, .int .i64 x.f2.f0, .int .i64 x.f2.f1, .bool x.f3, .int .i64 x.f4.f0, .int .i64 x.f4.f1, .int .i64 x.f4.f2, .int .i64 x.f4.f3, .int .i64 x.f4.f4, .int .i64 x.f4.f5, .int .i64 x.f4.f6] 30 (0, 0))) := ⟨blk_new _ _⟩
            have HO1 : Aside0 (World.ownsMap (H := Unit) (wr.alloc (.cells #[.int .i64 x.f0.f0, .int .i64 x.f0.f1, .int .i64 x.f1, .int .i64 x.f2.f0, .int .i64 x.f2.f1, .bool x.f3, .int .i64 x.f4.f0, .int .i64 x.f4.f1, .int .i64 x.f4.f2, .int .i64 x.f4.f3, .int .i64 x.f4.f4, .int .i64 x.f4.f5, .int .i64 x.f4.f6] 30)) Try.prog 82 (plainElem Try.prog 4) B l1.length D) := ⟨HO.out.alloc _⟩
            generalize (wr.alloc (.cells #[.int .i64 x.f0.f0, .int .i64 x.f0.f1, .int .i64 x.f1, .int .i64 x.f2.f0, .int .i64 x.f2.f1, .bool x.f3, .int .i64 x.f4.f0, .int .i64 x.f4.f1, .int .i64 x.f4.f2, .int .i64 x.f4.f3, .int .i64 x.f4.f4, .int .i64 x.f4.f5, .int .i64 x.f4.f6] 30)) = W1 at HB1 B01 B9 HO1 ⊢
            generalize wr.heap.size = g9 at B9 ⊢
            clear HB B0 hc0 HO hx0 hx1 hx2 hx3 hx4 hx5 hx6 hx7 hx8 hx9 hx10 hx11 hx12
            have hc9 := blk_cell B9.out
            cases b
            · have hr : r = 6 := by
                have h := H3.out
                rw [HS2.out, Bool.false_and, if_neg (by decide)] at h
                exact h.symm
              subst hr
              go_wp2_with (first | ((with_reducible refine gate_dst (N := 73) rfl ?_); refine wpList_lookup_bool _ rfl _ _ 79 rfl 82 4 lawS Try.underlying79 Try.underlying4 (zeroB _) B l1.length D rfl HO1.out _ _ rfl (keyOf_S HE.out.1 HE.out.2.1 HE.out.2.2) _ HAT.out ?_))
              (try rw [Exit.noGoto_ret])
              go_ret
              exact ⟨rfl, HB1.out⟩
            · have HT2 : Aside0 (l1.all (kno30 l1) = (l1.drop (i + 1)).all (kno30 l1)) := ⟨by rw [HS2.out, Bool.true_and]⟩
              go_wp2_with (first | ((with_reducible refine gate_dst (N := 73) rfl ?_); refine wpList_lookup_bool _ rfl _ _ 79 rfl 82 4 lawS Try.underlying79 Try.underlying4 (zeroB _) B l1.length D rfl HO1.out _ _ rfl (keyOf_S HE.out.1 HE.out.2.1 HE.out.2.2) _ HAT.out ?_))
              go_roundg k1
              case measure => have := HK.out; omega
              case rel => exact ⟨i + 1, by first | (simp; done) | (simp; unfold wrap64; have := HN.out; have := HI.out; omega), ⟨by have := HK.out; omega⟩, HT2, HO1, B01, HB1⟩
end Go.Proofs.Yteopkkoblbmggaa.P
end
section
set_option linter.unusedVariables false
namespace Go.Proofs.Yteopkkoblbmggaa.P
open Go
theorem run_copy_rowS {P : Program} (w : World) (dT sT ty elem : TypeId) (g o dLen dCap : Nat) (a : Addr) (sLen sCap sz : Nat) (cur : Array Value) (t : TypeId) (cs : List Value)
    (hu : P.underlying dT = some (.slice elem)) (hs : (P.info? elem).map (·.size) = some sz)
    (hg : w.heap[g]? = some (.cells cur t (0, 0))) (hn : cs.length = Nat.min sLen dLen * sz)
    (hsrc : ∀ j v, cs[j]? = some v → w.cell? (a.add j) = some v) (hfit : o + cs.length ≤ cur.size) (h1 : ∀ v ∈ cs, v.oneCell' = true) :
    (Builtin.copy_ #[dT, sT] ty #[.slice (some ⟨g, o, none⟩) dLen dCap, .slice (some a) sLen sCap]).run P w =
      .ok (goInt (Nat.min sLen dLen)) (w.setRow g (cur.toList.take o ++ cs ++ cur.toList.drop (o + cs.length)).toArray) := by
  have hl := run_loadCells_list (P := P) w a cs hsrc
  have hst := run_storeCells_at P g o t cs 0 cur w hg (by simpa using hfit) h1
  cases hq : P.info? elem with
  | none => simp [hq] at hs
  | some i =>
    have hi : i.size = sz := by simpa [hq] using hs
    simp [Builtin.copy_, run_underlying hu, Builtin.lenOf, Builtin.firstCells, sizeOf, typeInfo, hq, hi, ← hn, hl, hst]
end Go.Proofs.Yteopkkoblbmggaa.P
end
section
set_option linter.unusedVariables false
set_option linter.unusedSimpArgs false
namespace Go.Proofs.Yteopkkoblbmggaa.P
open Go.RowKit Go.Lib Go.Proofs.YteopkkoblbmggaaW.PrintWords Go.Proofs.YteopkkoblbmggaaW.PrintLast Go.Proofs.YteopkkoblbmggaaW.PrintMore
theorem size30 (w : World) : (Go.sizeOf 30).run Try.prog w = .ok 13 w := by kernel_rfl
theorem info30s : (Try.prog.info? 30).map (·.size) = some 13 := by kernel_rfl
set_option maxHeartbeats 8000000 in
set_option maxRecDepth 100000 in
theorem ins_shift (g cap n i vb : Nat) (cur : Array Value) (ec : List Value) (w : World) (hi : i < n) (hroom : n + 1 ≤ cap) (hc63 : cap ≤ 9223372036854775807) (hn : n ≤ 1000000)
    (hg : w.heap[g]? = some (.cells cur 30 (0, 0))) (hsz : cur.size = cap * 13) (hv : w.heap[vb]? = some (.cells ec.toArray 30 (0, 0))) (hec : ec.length = 13) (hne : vb ≠ g)
    (mid : List Value) (hmid : mid = (cur.toList.take (n * 13)).drop (i * 13)) (R1 R2 : Array Value) (hR1 : R1 = (cur.toList.take ((i + 1) * 13) ++ mid ++ cur.toList.drop ((i + 1) * 13 + mid.length)).toArray)
    (hR2 : R2 = (R1.toList.take (i * 13) ++ ec ++ R1.toList.drop (i * 13 + ec.length)).toArray)
    (h1c : ∀ v ∈ mid, v.oneCell' = true) (h1v : ∀ v ∈ ec, v.oneCell' = true) :
    Calls Try.prog 58 #[.slice (some ⟨g, 0, none⟩) n cap, .int .i64 i, .slice (some ⟨vb, 0, none⟩) 1 1] w fun e w' =>
      e = .returned (.slice (some ⟨g, 0, none⟩) (n + 1) cap) ∧ w' = (w.drew.setRow g R1).setRow g R2 := by
  have hus := Try.underlying22
  have hz2 : ¬ ((i : Int) = (n : Int)) := by omega
  have hml : mid.length = (n - i) * 13 := by rw [hmid, List.length_drop, List.length_take, Array.length_toList, hsz]; omega
  have hov : ∀ o lb cb, (callFunc 94 #[.slice (some ⟨vb, 0, none⟩) 1 1, .slice (some ⟨g, o, none⟩) lb cb]).run Try.prog w = .ok (.value (.bool false)) w := fun o lb cb => by
    rw [run_callFunc_extern Try.func94 (by kernel_rfl) (by kernel_rfl) (by kernel_rfl) (e := Extern.SlicesOverlaps.overlaps #[22, 22] #[4]) (by kernel_rfl),
      Lib.run_overlaps_apart w 22 4 30 hus 13 size30 ⟨vb, 0, none⟩ ⟨g, o, none⟩ 1 1 lb cb hne 30 30 ec.toArray.size cur.size (by simp [World.shape?, hv]) (by simp [World.shape?, hg]) (by omega) (blk_frozen hv 0) (blk_frozen hv _)]
    rfl
  have hcp1 : ∀ ty dc sc, (Builtin.copy_ #[22, 22] ty #[.slice (some ⟨g, (i + 1) * 13, none⟩) (n - i) dc, .slice (some ⟨g, i * 13, none⟩) (n + 1 - i) sc]).run Try.prog w.drew = .ok (goInt ((n - i : Nat) : Int)) (w.drew.setRow g R1) := fun ty dc sc => by
    have h := run_copy_rowS (P := Try.prog) w.drew 22 22 ty 30 g ((i + 1) * 13) (n - i) dc ⟨g, i * 13, none⟩ (n + 1 - i) sc 13 cur 30 mid hus info30s hg (by rw [hml]; simp only [Nat.min_def]; split <;> omega)
      (fun j v hj => by
        rw [Addr.add_lit]
        refine (blk_cell hg _).trans ?_
        rw [hmid, List.getElem?_drop, List.getElem?_take] at hj
        split at hj
        · rw [Array.getElem?_toList] at hj; exact hj
        · cases hj)
      (by rw [hml, hsz]; omega) h1c
    rw [show Nat.min (n + 1 - i) (n - i) = n - i by simp only [Nat.min_def]; split <;> omega, ← hR1] at h
    exact h
  have hR1l : R1.size = cur.size := by rw [hR1, List.size_toArray, List.length_append, List.length_append, List.length_take, List.length_drop, Array.length_toList, hml, hsz]; omega
  have hvW : (w.drew.setRow g R1).heap[vb]? = some (.cells ec.toArray 30 (0, 0)) := by
    have : (w.drew.setRow g R1).heap[vb]? = w.heap[vb]? := by
      show (w.heap.modify g _)[vb]? = _
      rw [Array.getElem?_modify, if_neg (Ne.symm hne)]
    rw [this]; exact hv
  have hcp2 : ∀ ty dc, (Builtin.copy_ #[22, 22] ty #[.slice (some ⟨g, i * 13, none⟩) (n + 1 - i) dc, .slice (some ⟨vb, 0, none⟩) 1 1]).run Try.prog (w.drew.setRow g R1) = .ok (goInt 1) ((w.drew.setRow g R1).setRow g R2) := fun ty dc => by
    have h := run_copy_rowS (P := Try.prog) (w.drew.setRow g R1) 22 22 ty 30 g (i * 13) (n + 1 - i) dc ⟨vb, 0, none⟩ 1 1 13 R1 30 ec hus info30s (setRow_heap w.drew g cur R1 30 (0, 0) hg) (by rw [hec]; simp only [Nat.min_def]; split <;> omega)
      (fun j v hj => by
        rw [Addr.add_lit]
        refine (blk_cell hvW _).trans ?_
        rw [Nat.zero_add, List.getElem?_toArray]; exact hj)
      (by rw [hec, hR1l, hsz]; omega) h1v
    rw [show Nat.min 1 (n + 1 - i) = 1 by simp only [Nat.min_def]; split <;> omega, ← hR2] at h
    exact h
  have hw1 : IntKind.i64.wrap ((i : Int) + 1) = (i : Int) + 1 := by rw [IntKind.wrap_i64]; omega
  have hw2 : wrap64 ((i : Int) + 1) = (i : Int) + 1 := by unfold wrap64; omega
  have hb1 : (0 : Int) ≤ (i : Int) + 1 := by omega
  have hin : i ≤ n := by omega
  have htn : ((i : Int) + 1).toNat = i + 1 := by omega
  have hb2 : ¬ (cap = i + 1) := by omega
  have hb3 : (i : Int) ≤ (n : Int) + 1 := by omega
  have hb4 : ¬ (cap = i) := by omega
  have hb5 : i ≤ n + 1 := by omega
  clear hmid hR1 hR2 hml hR1l hvW
  have mixed : Try.prog.follows .mixedOrders = true := by kernel_rfl
  go_enter Try.func58, Try.ntmps58
  go_wp2_with (simp only [hov])
  go_region_law_o (refine step_copy_runI rfl _ _ 22 22 rfl _ _ (by simp [Act.eval, Act.put]) (by simp [Act.eval, Act.put]) (hcp1 _ _ _) ?_)
  go_wp2_with (at_builtin; refine wpList_copy_runI _ rfl _ _ 22 22 rfl _ _ rfl rfl (hcp2 _ _) ?_)
  go_ret
  exact ⟨rfl, rfl⟩
def z30v : Value := (.agg #[(.int .i64 0), (.int .i64 0), (.int .i64 0), (.int .i64 0), (.int .i64 0), (.bool false), (.int .i64 0), (.int .i64 0), (.int .i64 0), (.int .i64 0), (.int .i64 0), (.int .i64 0), (.int .i64 0)] : Value)
theorem z30v_size : z30v.cells.size = 13 := by kernel_rfl
set_option maxHeartbeats 8000000 in
set_option maxRecDepth 100000 in
theorem ins_grow (g cap n i vb : Nat) (cur : Array Value) (ec : List Value) (w : World) (hi : i < n) (hnc : n ≤ cap) (hroom : cap < n + 1) (hn : n ≤ 1000000)
    (hg : w.heap[g]? = some (.cells cur 30 (0, 0))) (hsz : cur.size = cap * 13) (hv : w.heap[vb]? = some (.cells ec.toArray 30 (0, 0))) (hec : ec.length = 13)
    (mid : List Value) (hmid : mid = (cur.toList.take (n * 13)).drop (i * 13)) (G : Nat) (hG : G = grownCap w (n + 1) cap 30)
    (ROW R1 R2 : Array Value) (hROW : ROW = (cur.toList.take (i * 13)).toArray ++ Builtin.zeroCells z30v.cells (n + 1 - i) ++ Builtin.zeroCells z30v.cells (G - (n + 1)))
    (hR1 : R1 = (ROW.toList.take (i * 13) ++ ec ++ ROW.toList.drop (i * 13 + ec.length)).toArray) (hR2 : R2 = (R1.toList.take ((i + 1) * 13) ++ mid ++ R1.toList.drop ((i + 1) * 13 + mid.length)).toArray)
    (h1c : ∀ v ∈ mid, v.oneCell' = true) (h1v : ∀ v ∈ ec, v.oneCell' = true) :
    Calls Try.prog 58 #[.slice (some ⟨g, 0, none⟩) n cap, .int .i64 i, .slice (some ⟨vb, 0, none⟩) 1 1] w fun e w' =>
      e = .returned (.slice (some ⟨w.heap.size, 0, none⟩) (n + 1) G) ∧ w' = (((w.drew.alloc (.cells ROW 30)).setRow w.heap.size R1).drew).setRow w.heap.size R2 := by
  have HG := Aside0.mk hG
  clear hG
  have hus := Try.underlying22
  obtain ⟨i0, hi0, hz0, hzs, hzb⟩ := info_parts info30
  have hz2 : ¬ ((i : Int) = (n : Int)) := by omega
  have hci : ¬ (cap = i) := by omega
  have hw1 : IntKind.i64.wrap ((i : Int) + 1) = (i : Int) + 1 := by rw [IntKind.wrap_i64]; omega
  have hw2 : wrap64 ((i : Int) + 1) = (i : Int) + 1 := by unfold wrap64; omega
  have hb1 : (0 : Int) ≤ (i : Int) + 1 := by omega
  have hin : i ≤ n := by omega
  have htn : ((i : Int) + 1).toNat = i + 1 := by omega
  have hb3 : (i : Int) ≤ (n : Int) := by omega
  have hb5 : i ≤ n + 1 := by omega
  have hb6 : i + 1 ≤ n + 1 := by omega
  have hz3 : (cap : Int) < (n : Int) + 1 := by omega
  have hml : mid.length = (n - i) * 13 := by rw [hmid, List.length_drop, List.length_take, Array.length_toList, hsz]; omega
  have hkk : (n : Int) + 1 - (i : Int) = ((n + 1 - i : Nat) : Int) := by omega
  have hik : i + (n + 1 - i) = n + 1 := by omega
  have hold : (Builtin.firstCells i0.size i (.slice (some ⟨g, 0, none⟩) i cap)).run Try.prog w.drew = .ok (cur.toList.take (i * 13)).toArray w.drew := by
    rw [hzs]
    exact run_firstCells_some w.drew 13 i ⟨g, 0, none⟩ i cap (cur.toList.take (i * 13)) (by rw [List.length_take, Array.length_toList, hsz]; omega) (fun j v hj => by
      rw [Addr.add_lit, Nat.zero_add]
      refine (blk_cell hg _).trans ?_
      rw [List.getElem?_take] at hj
      split at hj
      · rw [Array.getElem?_toList] at hj; exact hj
      · cases hj)
  have hrz : ∀ ty, (Builtin.append_ #[22, 3] ty #[.slice (some ⟨g, 0, none⟩) i cap, .int .i64 ((n : Int) + 1 - (i : Int))]).run Try.prog w =
      .ok (.slice (some ⟨w.heap.size, 0, none⟩) (n + 1) G) (w.drew.alloc (.cells ROW 30)) := fun ty => by
    have h := Lib.run_append_grow_zeros w 22 3 ty 30 i0 _ .i64 .i64 hus Try.underlying3 hi0 hz0 (some ⟨g, 0, none⟩) i cap (cur.toList.take (i * 13)) hold (n + 1 - i) (by omega) (by omega) (by omega) (by omega) (by rw [hzb]; omega) (by rw [hzb, hik]; exact growslice_fits hroom (by omega))
    rw [hik, ← HG.out] at h
    rw [hkk, hROW]
    exact h
  have hgw : g < w.heap.size := blk_lt hg
  have hvw : vb < w.heap.size := blk_lt hv
  have hz13 := z30v_size
  have hGn : n + 1 ≤ G := by rw [HG.out]; exact grownCap_ge w _ _ _
  have hG63 : G ≤ 9223372036854775807 := by
    have := grownCap_le_maxLen w (n + 1) cap 30 (by unfold maxLen; omega)
    rw [← HG.out] at this
    unfold maxLen at this
    omega
  have hRs : ROW.size = G * 13 := by
    rw [hROW]
    simp only [Array.size_append, Builtin.zeroCells, Array.size_map, Array.size_range, List.size_toArray, List.length_take, Array.length_toList, hz13, hsz]
    omega
  have hR1l : R1.size = G * 13 := by rw [hR1, List.size_toArray, List.length_append, List.length_append, List.length_take, List.length_drop, Array.length_toList, hec, hRs]; omega
  have hcpA : ∀ (W : World), W.heap = (w.drew.alloc (.cells ROW 30)).heap → ∀ ty dc, (Builtin.copy_ #[22, 22] ty #[.slice (some ⟨w.heap.size, i * 13, none⟩) (n + 1 - i) dc, .slice (some ⟨vb, 0, none⟩) 1 1]).run Try.prog W = .ok (goInt 1) (W.setRow w.heap.size R1) := fun W hW ty dc => by
    have hWn : W.heap[w.heap.size]? = some (.cells ROW 30 (0, 0)) := by rw [hW]; exact blk_new w.drew _
    have hWv : W.heap[vb]? = some (.cells ec.toArray 30 (0, 0)) := by rw [hW]; exact blk_alloc (w := w.drew) hv _
    have h := run_copy_rowS (P := Try.prog) W 22 22 ty 30 w.heap.size (i * 13) (n + 1 - i) dc ⟨vb, 0, none⟩ 1 1 13 ROW 30 ec hus info30s hWn (by rw [hec]; simp only [Nat.min_def]; split <;> omega)
      (fun j v hj => by
        rw [Addr.add_lit]
        refine (blk_cell hWv _).trans ?_
        rw [Nat.zero_add, List.getElem?_toArray]; exact hj)
      (by rw [hec, hRs]; omega) h1v
    rw [show Nat.min 1 (n + 1 - i) = 1 by simp only [Nat.min_def]; split <;> omega, ← hR1] at h
    exact h
  have hcpB : ∀ (W : World), W.heap = ((w.drew.alloc (.cells ROW 30)).setRow w.heap.size R1).heap → ∀ ty dc sc, (Builtin.copy_ #[22, 22] ty #[.slice (some ⟨w.heap.size, (i + 1) * 13, none⟩) (n - i) dc, .slice (some ⟨g, i * 13, none⟩) (n - i) sc]).run Try.prog W = .ok (goInt ((n - i : Nat) : Int)) (W.setRow w.heap.size R2) := fun W hW ty dc sc => by
    have hWn : W.heap[w.heap.size]? = some (.cells R1 30 (0, 0)) := by rw [hW]; exact setRow_heap (w.drew.alloc (.cells ROW 30)) w.heap.size ROW R1 30 (0, 0) (blk_new w.drew _)
    have hWg : W.heap[g]? = some (.cells cur 30 (0, 0)) := by
      rw [hW]
      show ((w.drew.alloc (.cells ROW 30)).heap.modify w.heap.size _)[g]? = _
      rw [Array.getElem?_modify, if_neg (by omega)]
      exact blk_alloc (w := w.drew) hg _
    have h := run_copy_rowS (P := Try.prog) W 22 22 ty 30 w.heap.size ((i + 1) * 13) (n - i) dc ⟨g, i * 13, none⟩ (n - i) sc 13 R1 30 mid hus info30s hWn (by rw [hml]; simp only [Nat.min_def]; split <;> omega)
      (fun j v hj => by
        rw [Addr.add_lit]
        refine (blk_cell hWg _).trans ?_
        rw [hmid, List.getElem?_drop, List.getElem?_take] at hj
        split at hj
        · rw [Array.getElem?_toList] at hj; exact hj
        · cases hj)
      (by rw [hml, hR1l]; omega) h1c
    rw [show Nat.min (n - i) (n - i) = n - i by simp only [Nat.min_def]; split <;> omega, ← hR2] at h
    exact h
  have hGi : ¬ (G = i) := by omega
  have hGim : ¬ (G = i + 1) := by omega
  have hcA := hcpA ((w.alloc (.cells ROW 30)).drew) rfl
  have hcB := hcpB ((((w.alloc (.cells ROW 30)).drew).setRow w.heap.size R1).drew) rfl
  clear hcpA hcpB
  clear hkk hik hold hROW HG hRs hR1l hR1 hR2 hmid hml hz13 hi0 hz0 hzs hzb
  have mixed : Try.prog.follows .mixedOrders = true := by kernel_rfl
  go_enter Try.func58, Try.ntmps58
  go_wp2_with (first
    | (at_builtin; refine Lib.wpList_append_run _ rfl _ _ _ _ rfl _ _ rfl rfl _ _ (hrz _) ?_))
  go_region_law_o (refine step_copy_runI rfl _ _ 22 22 rfl (.slice (some ⟨w.heap.size, (i + 1) * 13, none⟩) (n - i) (G - (i + 1))) (.slice (some ⟨g, i * 13, none⟩) (n - i) (cap - i)) (by simp [Act.eval, Act.put]) (by simp [Act.eval, Act.put]) (hcB 3 (G - (i + 1)) (cap - i)) ?_)
  go_wp2
  go_ret
  exact ⟨rfl, rfl⟩
end Go.Proofs.Yteopkkoblbmggaa.P
end
