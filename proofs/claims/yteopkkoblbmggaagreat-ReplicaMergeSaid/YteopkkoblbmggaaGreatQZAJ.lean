/- Texts of this claim in one: VPCheck; no condition. -/
import Derived.Test.YteopkkoblbmggaaGreatQZAF
import Derived.Test.YteopkkoblbmggaaGreatQZAH
import Derived.Deep.Light
import Derived.WalkSpells
section
set_option linter.unusedVariables false
set_option linter.unusedSimpArgs false
namespace Go.Proofs.YteopkkoblbmggaaGreat.P
open Go.RowKit Go.Maps Go.Proofs.YteopkkoblbmggaaGreatW.PrintWords Go.Proofs.YteopkkoblbmggaaGreatW.PrintLast Go.Proofs.YteopkkoblbmggaaGreatW.PrintMore
def chk52 (e : S52) : Int := chkE e.f0.f0 e.f0.f1 e.f1 e.f2.f0 e.f2.f1 e.f3 e.f4.f0 e.f4.f1 e.f4.f2 e.f4.f3 e.f4.f4 e.f4.f5 e.f4.f6
def Y1N : List S52 → Int
  | [] => 0
  | e :: t => if chk52 e = 0 then Y1N t else chk52 e
def Y18 (a b : S46) : Bool := lessP a.f0 a.f1 b.f0 b.f1
def ord52 : List S52 → Bool
  | a :: b :: t => Y18 a.f0 b.f0 && ord52 (b :: t)
  | _ => true
def kno52 (l : List S52) (e : S52) : Bool := fouB l e.f1 e.f2.f0 e.f2.f1
def rchkP (d : Int) (l : List S52) : Int :=
  if d < 1 ∨ 64 < d then 43 else if 512 < l.length then 3 else if Y1N l = 0 then (if ord52 l = true then (if l.all (kno52 l) = true then 0 else 6) else 5) else Y1N l
instance (n : Int) : Decidable (okN n) := inferInstanceAs (Decidable (_ = true))
instance (e : S52) : Decidable (okE52 e) := inferInstanceAs (Decidable (_ ∧ _ ∧ _))
def Yv.f (a0 : Int) (l1 : List S52) : Option Int := if ∀ e ∈ l1, okE52 e then some (rchkP a0 l1) else none
set_option maxHeartbeats 16000000 in
set_option maxRecDepth 100000 in
theorem Yv.calls (a0 : Int) (A1 : Option Addr) (c1 : Nat) (l1 : List S52) (r : Int) (w : World) (hr1 : Kd.C k52 w A1 l1.length l1) (hc1 : l1.length ≤ c1) (h : Yv.f a0 l1 = some r) :
    Calls Tryz.prog 15 #[.agg #[.int .i64 a0, .slice A1 l1.length c1]] w fun e w' => e = .returned (.int .i64 r) ∧ Below w.heap.size w w' := by
  unfold Yv.f at h; by_cases hv : ∀ e ∈ l1, okE52 e
  rotate_left
  · rw [if_neg hv] at h; cases h
  rw [if_pos hv] at h; have HH : Y0 (rchkP a0 l1 = r) := ⟨Option.some.inj h⟩; have HR := Y0.mk hr1; have HC := Y0.mk hc1; have HV := Y0.mk hv; have HB := Y0.mk (Below.refl w.heap.size w); have hu24 := Tryz.underlying24; clear hr1 hc1 hv h; go_enter Tryz.func15, Tryz.ntmps15
  go_upto_region 1 with (fail)
  have n1_ : Below w.heap.size w (w.alloc (.cells #[.int .i64 a0, .slice A1 l1.length c1] 24)) := YA HB.out _; have B0 : Y0 ((w.alloc (.cells #[.int .i64 a0, .slice A1 l1.length c1] 24)).heap[w.heap.size]? = some (.cells #[.int .i64 a0, .slice A1 l1.length c1] 24 (0, 0))) := ⟨Y1w _ _⟩; have GE : Y0 (w.heap.size ≤ w.heap.size) := ⟨Nat.le_refl _⟩; clear HB; have HB := Y0.mk n1_; clear n1_; generalize hg0 : w.heap.size = g0 at B0 HB GE ⊢; rw [← hg0] at HB; generalize (w.alloc (.cells #[.int .i64 a0, .slice A1 l1.length c1] 24)) = W0 at B0 HB ⊢; have hc0 := Y2 B0.out; by_cases d0 : a0 < 1
  · have hr : r = 43 := by have := HH.out; unfold rchkP at this; rw [if_pos (Or.inl d0)] at this; exact this.symm
    subst hr; have d0b := decide_eq_true d0; clear d0; go_wp2
    go_ret
    exact ⟨rfl, HB.out⟩
  have d0b := decide_eq_false d0; by_cases d1 : 64 < a0
  · have hr : r = 43 := by have := HH.out; unfold rchkP at this; rw [if_pos (Or.inr d1)] at this; exact this.symm
    subst hr; have d1b := decide_eq_true d1; clear d0 d1; go_wp2
    go_ret
    exact ⟨rfl, HB.out⟩
  have d1b := decide_eq_false d1; by_cases d2 : 512 < l1.length
  · have hr : r = 3 := by have := HH.out; unfold rchkP at this; rw [if_neg (by omega), if_pos d2] at this; exact this.symm
    subst hr; have d2b : decide ((512 : Int) < (l1.length : Int)) = true := decide_eq_true (by omega); clear d0 d1; go_wp2
    go_ret
    exact ⟨rfl, HB.out⟩
  have d2b : decide ((512 : Int) < (l1.length : Int)) = false := decide_eq_false (by omega); have HX : Y0 ((if Y1N l1 = 0 then (if ord52 l1 = true then (if l1.all (kno52 l1) = true then 0 else 6) else 5) else Y1N l1) = r) := ⟨by have := HH.out; unfold rchkP at this; rw [if_neg (by omega), if_neg d2] at this; exact this⟩; have HN : Y0 (l1.length ≤ 512) := ⟨by omega⟩; clear HH d0 d1 d2; go_wp2
  go_loopg [25] l1.length (fun kq v25 W => ∃ (i : Nat), v25 = .int .i64 (i : Int) ∧ Y0 (i + kq = l1.length) ∧ Y0 (Y1N l1 = Y1N (l1.drop i)) ∧ Y0 (W.heap[g0]? = some (.cells #[.int .i64 a0, .slice A1 l1.length c1] 24 (0, 0))) ∧ Y0 (Below w.heap.size w W))
  case atStart => exact ⟨0, rfl, ⟨by omega⟩, ⟨by rw [List.drop_zero]⟩, B0, HB⟩
  case round =>
    clear HB B0 hc0; obtain ⟨i, rfl, HK, HS, B0, HB⟩ := hrel; have hc0 := Y2 B0.out; cases gk with
    | succ k1 =>
      have hi : i < l1.length := by have := HK.out; omega
      have hlt : decide (i < l1.length) = true := by simp; exact hi
      obtain ⟨adx, e0x, hx0, hx1, hx2, hx3, hx4, hx5, hx6, hx7, hx8, hx9, hx10, hx11, hx12⟩ := Y12 HR.out (i : Int) (by omega) (by omega); cases e0x
      rw [Int.toNat_natCast] at hx0 hx1 hx2 hx3 hx4 hx5 hx6 hx7 hx8 hx9 hx10 hx11 hx12; rw [Y1k hi] at hx0 hx1 hx2 hx3 hx4 hx5 hx6 hx7 hx8 hx9 hx10 hx11 hx12; replace hx0 := (HB.out.cell (World.block_lt_of_cell? w _ hx0)).trans hx0; replace hx1 := (HB.out.cell (World.block_lt_of_cell? w _ hx1)).trans hx1; replace hx2 := (HB.out.cell (World.block_lt_of_cell? w _ hx2)).trans hx2; replace hx3 := (HB.out.cell (World.block_lt_of_cell? w _ hx3)).trans hx3; replace hx4 := (HB.out.cell (World.block_lt_of_cell? w _ hx4)).trans hx4; replace hx5 := (HB.out.cell (World.block_lt_of_cell? w _ hx5)).trans hx5; replace hx6 := (HB.out.cell (World.block_lt_of_cell? w _ hx6)).trans hx6; replace hx7 := (HB.out.cell (World.block_lt_of_cell? w _ hx7)).trans hx7; replace hx8 := (HB.out.cell (World.block_lt_of_cell? w _ hx8)).trans hx8; replace hx9 := (HB.out.cell (World.block_lt_of_cell? w _ hx9)).trans hx9; replace hx10 := (HB.out.cell (World.block_lt_of_cell? w _ hx10)).trans hx10; replace hx11 := (HB.out.cell (World.block_lt_of_cell? w _ hx11)).trans hx11; replace hx12 := (HB.out.cell (World.block_lt_of_cell? w _ hx12)).trans hx12; have q0 : (0 ≤ ((i : Nat) : Int)) = True := by simp
      have q1 : (((i : Nat) : Int) < (l1.length : Int)) = True := by simp; exact hi
      have HD := Y0.mk (List.drop_eq_getElem_cons hi); generalize l1[i]'hi = x at hx0 hx1 hx2 hx3 hx4 hx5 hx6 hx7 hx8 hx9 hx10 hx11 hx12 HD; have HI := Y0.mk hi; obtain ⟨v, hv⟩ : ∃ v, v = chk52 x := ⟨_, rfl⟩; have HQ := Y0.mk (Y3S 0 x.f0.f0 x.f0.f1 x.f1 x.f2.f0 x.f2.f1 x.f3 x.f4.f0 x.f4.f1 x.f4.f2 x.f4.f3 x.f4.f4 x.f4.f5 x.f4.f6); rw [show chkE x.f0.f0 x.f0.f1 x.f1 x.f2.f0 x.f2.f1 x.f3 x.f4.f0 x.f4.f1 x.f4.f2 x.f4.f3 x.f4.f4 x.f4.f5 x.f4.f6 = v from hv.symm] at HQ; have HV2 := Y0.mk hv; clear hi hv; go_upto_region 8 with (fail)
      have HB1 : Y0 (Below w.heap.size w (wr.alloc (.cells #[.int .i64 x.f0.f0, .int .i64 x.f0.f1, .int .i64 x.f1, .int .i64 x.f2.f0, .int .i64 x.f2.f1, .bool x.f3, .int .i64 x.f4.f0, .int .i64 x.f4.f1, .int .i64 x.f4.f2, .int .i64 x.f4.f3, .int .i64 x.f4.f4, .int .i64 x.f4.f5, .int .i64 x.f4.f6] 52))) := ⟨YA HB.out _⟩; have B01 : Y0 ((wr.alloc (.cells #[.int .i64 x.f0.f0, .int .i64 x.f0.f1, .int .i64 x.f1, .int .i64 x.f2.f0, .int .i64 x.f2.f1, .bool x.f3, .int .i64 x.f4.f0, .int .i64 x.f4.f1, .int .i64 x.f4.f2, .int .i64 x.f4.f3, .int .i64 x.f4.f4, .int .i64 x.f4.f5, .int .i64 x.f4.f6] 52)).heap[g0]? = some (.cells #[.int .i64 a0, .slice (some adx) l1.length c1] 24 (0, 0))) := ⟨Y8 B0.out _⟩; have B4 : Y0 ((wr.alloc (.cells #[.int .i64 x.f0.f0, .int .i64 x.f0.f1, .int .i64 x.f1, .int .i64 x.f2.f0, .int .i64 x.f2.f1, .bool x.f3, .int .i64 x.f4.f0, .int .i64 x.f4.f1, .int .i64 x.f4.f2, .int .i64 x.f4.f3, .int .i64 x.f4.f4, .int .i64 x.f4.f5, .int .i64 x.f4.f6] 52)).heap[wr.heap.size]? = some (.cells #[.int .i64 x.f0.f0, .int .i64 x.f0.f1, .int .i64 x.f1, .int .i64 x.f2.f0, .int .i64 x.f2.f1, .bool x.f3, .int .i64 x.f4.f0, .int .i64 x.f4.f1, .int .i64 x.f4.f2, .int .i64 x.f4.f3, .int .i64 x.f4.f4, .int .i64 x.f4.f5, .int .i64 x.f4.f6] 52 (0, 0))) := ⟨Y1w _ _⟩; generalize (wr.alloc (.cells #[.int .i64 x.f0.f0, .int .i64 x.f0.f1, .int .i64 x.f1, .int .i64 x.f2.f0, .int .i64 x.f2.f1, .bool x.f3, .int .i64 x.f4.f0, .int .i64 x.f4.f1, .int .i64 x.f4.f2, .int .i64 x.f4.f3, .int .i64 x.f4.f4, .int .i64 x.f4.f5, .int .i64 x.f4.f6] 52)) = W1 at HB1 B01 B4 ⊢; generalize wr.heap.size = g4 at B4 ⊢; clear HB B0 hc0 hx0 hx1 hx2 hx3 hx4 hx5 hx6 hx7 hx8 hx9 hx10 hx11 hx12; have hc4 := Y2 B4.out; by_cases hz : v = 0
      · subst hz
        have HS2 : Y0 (Y1N l1 = Y1N (l1.drop (i + 1))) := ⟨by rw [HS.out, HD.out]; show (if chk52 x = 0 then _ else _) = _; rw [if_pos HV2.out.symm]⟩; go_wp2_with (first | ((with_reducible refine Ye (f := 38) rfl ?_); refine YU (some 30) rfl rfl Tryz.func38 (by kernel_rfl) rfl #[.agg #[.int .i64 x.f0.f0, .int .i64 x.f0.f1, .int .i64 x.f1, .int .i64 x.f2.f0, .int .i64 x.f2.f1, .bool x.f3, .int .i64 x.f4.f0, .int .i64 x.f4.f1, .int .i64 x.f4.f2, .int .i64 x.f4.f3, .int .i64 x.f4.f4, .int .i64 x.f4.f5, .int .i64 x.f4.f6]] rfl (by (try simp only [List.map_toArray, List.map_cons, List.map_nil]); first | done | (go_simp; done) | rfl) ?_; refine (Yy.calls _ _ _ _ _ _ _ _ _ _ _ _ _ _ _ _ HQ.out).mono ?_; rintro e w2 ⟨rfl, hb⟩; refine ⟨_, rfl, ?_⟩; have HB2 := Y0.mk (Y5 (hU HB1.out) hb); have B02 := Y0.mk (Y3 B01.out hb); clear hb))
        go_roundg k1
        case measure => have := HK.out; omega
        case rel => exact ⟨i + 1, by first | (simp; done) | (simp; unfold wrap64; have := HN.out; have := HI.out; omega), ⟨by have := HK.out; omega⟩, HS2, B02, HB2⟩
      · have hr : v = r := by
          have h := HX.out; have h3 : Y1N l1 = v := by rw [HS.out, HD.out]; show (if chk52 x = 0 then _ else _) = _; rw [if_neg (by rw [← HV2.out]; exact hz), HV2.out]
          rw [h3, if_neg hz] at h; exact h
        subst hr; have hz2 : (v != 0) = true := by simp; exact hz
        go_wp2_with (first | ((with_reducible refine Ye (f := 38) rfl ?_); refine YU (some 30) rfl rfl Tryz.func38 (by kernel_rfl) rfl #[.agg #[.int .i64 x.f0.f0, .int .i64 x.f0.f1, .int .i64 x.f1, .int .i64 x.f2.f0, .int .i64 x.f2.f1, .bool x.f3, .int .i64 x.f4.f0, .int .i64 x.f4.f1, .int .i64 x.f4.f2, .int .i64 x.f4.f3, .int .i64 x.f4.f4, .int .i64 x.f4.f5, .int .i64 x.f4.f6]] rfl (by (try simp only [List.map_toArray, List.map_cons, List.map_nil]); first | done | (go_simp; done) | rfl) ?_; refine (Yy.calls _ _ _ _ _ _ _ _ _ _ _ _ _ _ _ _ HQ.out).mono ?_; rintro e w2 ⟨rfl, hb⟩; refine ⟨_, rfl, ?_⟩; have HB2 := Y0.mk (Y5 (hU HB1.out) hb); have B02 := Y0.mk (Y3 B01.out hb); clear hb))
        (try rw [Exit.noGoto_ret]); go_ret
        exact ⟨rfl, HB2.out⟩
    | zero =>
      have hi : i = l1.length := by have := HK.out; omega
      have hlt : decide (i < l1.length) = false := by simp; omega
      have H2 : Y0 ((if ord52 l1 = true then (if l1.all (kno52 l1) = true then 0 else 6) else 5) = r) := ⟨by have h := HX.out; rw [HS.out, hi, List.drop_length, if_pos (show Y1N [] = 0 from rfl)] at h; exact h⟩; clear HX HS HK hi; go_wp2
      clear hlt; go_loopg [6] l1.length (fun kq v6 W => ∃ (i : Nat) (X : Int), v6 = .int .i64 X ∧ Y0 (X = (i : Int) + 1) ∧ Y0 (l1.length ≤ i + 1 + kq) ∧ Y0 (i ≤ l1.length) ∧ Y0 (ord52 l1 = ord52 (l1.drop i)) ∧ Y0 (W.heap[g0]? = some (.cells #[.int .i64 a0, .slice A1 l1.length c1] 24 (0, 0))) ∧ Y0 (Below w.heap.size w W))
      case atStart => exact ⟨0, 1, rfl, ⟨by omega⟩, ⟨by omega⟩, ⟨by omega⟩, ⟨by rw [List.drop_zero]⟩, B0, HB⟩
      case round =>
       clear HB B0 hc0; obtain ⟨i, X, rfl, HX, HK, HI, HS, B0, HB⟩ := hrel; have hc0 := Y2 B0.out; by_cases hi : i + 1 < l1.length
       · have hlt : decide (X < (l1.length : Int)) = true := by have := HX.out; simp; omega
         have hi0 : i < l1.length := by omega
         have hX : X = ((i + 1 : Nat) : Int) := by have := HX.out; omega
         obtain ⟨J, hJ⟩ : ∃ J : Int, J = (i : Int) := ⟨_, rfl⟩; have hwJ : wrap64 (X - 1) = J := by have := HN.out; unfold wrap64; omega
         have hX0 : 0 ≤ X := by omega
         have hX1 : X < (l1.length : Int) := by omega
         have hJ0 : 0 ≤ J := by omega
         have hJ1 : J < (l1.length : Int) := by omega
         obtain ⟨adx, e0x, hx0, hx1, hx2, hx3, hx4, hx5, hx6, hx7, hx8, hx9, hx10, hx11, hx12⟩ := Y12 HR.out J hJ0 hJ1; cases e0x
         obtain ⟨ady, e0y, hy0, hy1, hy2, hy3, hy4, hy5, hy6, hy7, hy8, hy9, hy10, hy11, hy12⟩ := Y12 HR.out X hX0 hX1; cases e0y
         have hx_ : Y1 l1 J = l1[i] := by rw [hJ]; exact Y1k hi0
         have hy_ : Y1 l1 X = l1[i + 1] := by rw [hX]; exact Y1k hi
         have HD := Y0.mk (List.drop_eq_getElem_cons hi0); have HD2 := Y0.mk (List.drop_eq_getElem_cons hi); rw [← hx_] at HD; rw [← hy_] at HD2; rw [show (i + 1 : Nat) = i + 1 from rfl] at HD2; generalize Y1 l1 J = x at hx0 hx1 hx2 hx3 hx4 hx5 hx6 hx7 hx8 hx9 hx10 hx11 hx12 HD; generalize Y1 l1 X = y at hy0 hy1 hy2 hy3 hy4 hy5 hy6 hy7 hy8 hy9 hy10 hy11 hy12 HD2; have hwx0 := hx0; have hwx1 := hx1; have hwy0 := hy0; have hwy1 := hy1; replace hx0 := (HB.out.cell (World.block_lt_of_cell? w _ hx0)).trans hx0; replace hx1 := (HB.out.cell (World.block_lt_of_cell? w _ hx1)).trans hx1; replace hy0 := (HB.out.cell (World.block_lt_of_cell? w _ hy0)).trans hy0; replace hy1 := (HB.out.cell (World.block_lt_of_cell? w _ hy1)).trans hy1; clear hx2 hx3 hx4 hx5 hx6 hx7 hx8 hx9 hx10 hx11 hx12 hy2 hy3 hy4 hy5 hy6 hy7 hy8 hy9 hy10 hy11 hy12; have q0 : (0 ≤ J) = True := eq_true hJ0; have q1 : (J < (l1.length : Int)) = True := eq_true hJ1; have q2 : (0 ≤ X) = True := eq_true hX0; have q3 : (X < (l1.length : Int)) = True := eq_true hX1; have HXi := Y0.mk hX; clear hX0 hX1 hJ0 hJ1 hX hJ hx_ hy_ hi0; obtain ⟨b, hb0⟩ : ∃ b, b = Y18 x.f0 y.f0 := ⟨_, rfl⟩; have HQ := Y0.mk (Y1K x.f0.f0 x.f0.f1 y.f0.f0 y.f0.f1); rw [show lessP x.f0.f0 x.f0.f1 y.f0.f0 y.f0.f1 = b from hb0.symm] at HQ; have HS2 : Y0 (ord52 l1 = (b && ord52 (l1.drop (i + 1)))) := ⟨by rw [HS.out, HD.out, HD2.out]; show (Y18 x.f0 y.f0 && _) = _; rw [hb0]⟩; have HI2 := Y0.mk hi; clear hb0 hi; go_upto_region 15 with (fail)
         refine Y1c (n := 15) (S := fun w' => w'.cell? ⟨g0, 1, none⟩ = some (.slice (some adx) l1.length c1) ∧ w'.cell? (adx.add (J.toNat * 13)) = some (.int .i64 x.f0.f0) ∧ w'.cell? ⟨(adx.add (J.toNat * 13)).block, (adx.add (J.toNat * 13)).off + 1, none⟩ = some (.int .i64 x.f0.f1) ∧ w'.cell? (adx.add (X.toNat * 13)) = some (.int .i64 y.f0.f0) ∧ w'.cell? ⟨(adx.add (X.toNat * 13)).block, (adx.add (X.toNat * 13)).off + 1, none⟩ = some (.int .i64 y.f0.f1)) (ds := []) (bs 15 0) rfl rfl (by kernel_rfl) ⟨(Y2 B0.out 1).trans rfl, hx0, hx1, hy0, hy1⟩ (fun hHeld => ?_); refine puA 0 42 (bs 15 1) ?_; refine tkA 1 43 (bs 15 3) hHeld ?_ (hy := Or.inl ⟨by rfl, by rintro w' ⟨s0, s1, s2, s3, s4⟩; go_simp; with_reducible rfl⟩); refine puA 2 44 (bs 15 7) ?_; refine puA 3 45 (bs 15 15) ?_; refine puA 4 46 (bs 15 31) ?_; refine puA 5 47 (bs 15 63) ?_; refine tkA 6 48 (bs 15 127) hHeld ?_ (hy := Or.inl ⟨by rfl, by rintro w' ⟨s0, s1, s2, s3, s4⟩; go_simp; with_reducible rfl⟩); refine puA 7 49 (bs 15 255) ?_; refine tkA 8 50 (bs 15 511) hHeld ?_ (hy := Or.inl ⟨by rfl, by rintro w' ⟨s0, s1, s2, s3, s4⟩; go_simp; with_reducible rfl⟩); refine puA 9 51 (bs 15 1023) ?_; refine puA 10 52 (bs 15 2047) ?_; refine puA 11 53 (bs 15 4095) ?_; refine tkA 12 54 (bs 15 8191) hHeld ?_ (hy := Or.inl ⟨by rfl, by rintro w' ⟨s0, s1, s2, s3, s4⟩; go_simp; with_reducible rfl⟩); refine one_ (i := 13) (N := some 55) (bs 15 16383) rfl rfl (by kernel_rfl) (by decide) (fun K hK => ?_); refine goes_ Tryz.func26 (by kernel_rfl) rfl #[.agg #[.int .i64 x.f0.f0, .int .i64 x.f0.f1], .agg #[.int .i64 y.f0.f0, .int .i64 y.f0.f1]] (by rfl) rfl rfl (by (try simp only [List.map_toArray, List.map_cons, List.map_nil]); first | done | (go_simp; done) | rfl) ?_; refine (Y15.calls _ _ _ _ b _ HQ.out).mono ?_; rintro e w2 ⟨rfl, hb⟩; refine ⟨_, rfl, ?_⟩; have HB2 := Y0.mk (Y5 (hU HB.out) hb); have B02 := Y0.mk (Y3 (bU B0.out) hb); clear hb; refine hK.out _ _ ⟨(Y2 B02.out 1).trans rfl, hbC HB2 hwx0, hbC HB2 hwx1, hbC HB2 hwy0, hbC HB2 hwy1⟩ (fun hHeld => ?_); clear hK K; refine nmA 55 ?_; refine puA 14 56 (bs 15 32767) ?_; refine done_ (by kernel_rfl) ?_; clear HB B0 hc0 hwx0 hwx1 hwy0 hwy1 hx0 hx1 hy0 hy1; have hc0 := Y2 B02.out; cases b
         · have hr : r = 5 := by
             have h := H2.out; rw [HS2.out, Bool.false_and, if_neg (by decide)] at h; exact h.symm
           subst hr; go_wp2
           (try rw [Exit.noGoto_ret]); go_ret
           exact ⟨rfl, HB2.out⟩
         · go_wp2
           cases gk with
           | zero => have := HK.out; have := HI2.out; omega
           | succ k1 =>
             go_roundg k1
             case measure => have := HK.out; omega
             case rel => exact ⟨i + 1, _, rfl, ⟨by have := HXi.out; have := HN.out; have := HI2.out; unfold wrap64; omega⟩, ⟨by have := HK.out; omega⟩, ⟨by have := HI2.out; omega⟩, ⟨by rw [HS2.out, Bool.true_and]⟩, B02, HB2⟩
       · have hlt : decide (X < (l1.length : Int)) = false := by have := HX.out; simp; omega
         have h1 : ord52 l1 = true := by
           rw [HS.out]; have : (l1.drop i).length ≤ 1 := by rw [List.length_drop]; omega
           match hd : l1.drop i, this with
           | [], _ => rfl
           | [a], _ => rfl
           | a :: b :: l, h => simp at h
         have H3 : Y0 ((if l1.all (kno52 l1) = true then 0 else 6) = r) := ⟨by rw [← H2.out, if_pos h1]⟩; clear HX HK HI HS H2 h1 hi; go_wp2_with (first | ((with_reducible refine Ye (f := 39) rfl ?_); refine YU (some 59) rfl rfl Tryz.func39 (by kernel_rfl) rfl #[.slice A1 l1.length c1] rfl (by (try simp only [List.map_toArray, List.map_cons, List.map_nil]); first | done | (go_simp; done) | rfl) ?_; refine (Y1Y A1 c1 l1 _ (Kd.C_below HR.out (hU HB.out)) HC.out (by have := HN.out; omega) HV.out).mono ?_; rintro e w2 ⟨B, D, rfl, ho, hs, hB, hb⟩; refine ⟨_, rfl, ?_⟩; have HO := Y0.mk ho; have HS := Y0.mk hs; have HB2 := Y0.mk (Y5 (hU HB.out) hb); have B02 := Y0.mk (Y3 (bU B0.out) hb); clear ho hs hb hB; clear HB B0 hc0; have hc0 := Y2 B02.out))
         clear hlt; go_loopg [63] l1.length (fun kq v63 W => ∃ (i : Nat), v63 = .int .i64 (i : Int) ∧ Y0 (i + kq = l1.length) ∧ Y0 (l1.all (kno52 l1) = (l1.drop i).all (kno52 l1)) ∧ Y0 (World.ownsMap (H := Unit) W Tryz.prog 67 (plainElem Tryz.prog 4) B l1.length D) ∧ Y0 (W.heap[g0]? = some (.cells #[.int .i64 a0, .slice A1 l1.length c1] 24 (0, 0))) ∧ Y0 (Below w.heap.size w W))
         case atStart => exact ⟨0, rfl, ⟨by omega⟩, ⟨by rw [List.drop_zero]⟩, HO, B02, HB2⟩
         case round =>
          clear HB2 B02 hc0 HO; obtain ⟨i, rfl, HK, HT, HO, B0, HB⟩ := hrel; have hc0 := Y2 B0.out; cases gk with
          | zero =>
            have hi : i = l1.length := by have := HK.out; omega
            have hlt : decide (i < l1.length) = false := by simp; omega
            have hr : r = 0 := by
              have h := H3.out; rw [HT.out, hi, List.drop_length, if_pos (show ([] : List S52).all (kno52 l1) = true from rfl)] at h; exact h.symm
            subst hr; clear HK HT hi; go_wp2
            go_ret
            exact ⟨rfl, HB.out⟩
          | succ k1 =>
            have hi : i < l1.length := by have := HK.out; omega
            have hlt : decide (i < l1.length) = true := by simp; exact hi
            obtain ⟨adx, e0x, hx0, hx1, hx2, hx3, hx4, hx5, hx6, hx7, hx8, hx9, hx10, hx11, hx12⟩ := Y12 HR.out (i : Int) (by omega) (by omega); cases e0x
            rw [Int.toNat_natCast] at hx0 hx1 hx2 hx3 hx4 hx5 hx6 hx7 hx8 hx9 hx10 hx11 hx12; rw [Y1k hi] at hx0 hx1 hx2 hx3 hx4 hx5 hx6 hx7 hx8 hx9 hx10 hx11 hx12; replace hx0 := (HB.out.cell (World.block_lt_of_cell? w _ hx0)).trans hx0; replace hx1 := (HB.out.cell (World.block_lt_of_cell? w _ hx1)).trans hx1; replace hx2 := (HB.out.cell (World.block_lt_of_cell? w _ hx2)).trans hx2; replace hx3 := (HB.out.cell (World.block_lt_of_cell? w _ hx3)).trans hx3; replace hx4 := (HB.out.cell (World.block_lt_of_cell? w _ hx4)).trans hx4; replace hx5 := (HB.out.cell (World.block_lt_of_cell? w _ hx5)).trans hx5; replace hx6 := (HB.out.cell (World.block_lt_of_cell? w _ hx6)).trans hx6; replace hx7 := (HB.out.cell (World.block_lt_of_cell? w _ hx7)).trans hx7; replace hx8 := (HB.out.cell (World.block_lt_of_cell? w _ hx8)).trans hx8; replace hx9 := (HB.out.cell (World.block_lt_of_cell? w _ hx9)).trans hx9; replace hx10 := (HB.out.cell (World.block_lt_of_cell? w _ hx10)).trans hx10; replace hx11 := (HB.out.cell (World.block_lt_of_cell? w _ hx11)).trans hx11; replace hx12 := (HB.out.cell (World.block_lt_of_cell? w _ hx12)).trans hx12; have q0 : (0 ≤ ((i : Nat) : Int)) = True := by simp
            have q1 : (((i : Nat) : Int) < (l1.length : Int)) = True := by simp; exact hi
            have HD := Y0.mk (List.drop_eq_getElem_cons hi); have HE := Y0.mk (HV.out _ (List.getElem_mem hi)); generalize l1[i]'hi = x at hx0 hx1 hx2 hx3 hx4 hx5 hx6 hx7 hx8 hx9 hx10 hx11 hx12 HD HE; have HI := Y0.mk hi; obtain ⟨b, hb0⟩ : ∃ b, b = kno52 l1 x := ⟨_, rfl⟩; have HAT : Y0 (D.atKey (kS x.f1 x.f2.f0 x.f2.f1) (.lit (.bool false)) = .lit (.bool b)) := ⟨by rw [HS.out x.f1 x.f2.f0 x.f2.f1 HE.out.1 HE.out.2.1 HE.out.2.2, hb0]; rfl⟩; have HS2 : Y0 (l1.all (kno52 l1) = (b && (l1.drop (i + 1)).all (kno52 l1))) := ⟨by rw [HT.out, HD.out, List.all_cons, hb0]⟩; clear hi hb0; go_upto_region 21 with (fail)
            have HB1 : Y0 (Below w.heap.size w (wr.alloc (.cells #[.int .i64 x.f0.f0, .int .i64 x.f0.f1, .int .i64 x.f1, .int .i64 x.f2.f0, .int .i64 x.f2.f1, .bool x.f3, .int .i64 x.f4.f0, .int .i64 x.f4.f1, .int .i64 x.f4.f2, .int .i64 x.f4.f3, .int .i64 x.f4.f4, .int .i64 x.f4.f5, .int .i64 x.f4.f6] 52))) := ⟨YA HB.out _⟩; have B01 : Y0 ((wr.alloc (.cells #[.int .i64 x.f0.f0, .int .i64 x.f0.f1, .int .i64 x.f1, .int .i64 x.f2.f0, .int .i64 x.f2.f1, .bool x.f3, .int .i64 x.f4.f0, .int .i64 x.f4.f1, .int .i64 x.f4.f2, .int .i64 x.f4.f3, .int .i64 x.f4.f4, .int .i64 x.f4.f5, .int .i64 x.f4.f6] 52)).heap[g0]? = some (.cells #[.int .i64 a0, .slice (some adx) l1.length c1] 24 (0, 0))) := ⟨Y8 B0.out _⟩; have B9 : Y0 ((wr.alloc (.cells #[.int .i64 x.f0.f0, .int .i64 x.f0.f1, .int .i64 x.f1, .int .i64 x.f2.f0, .int .i64 x.f2.f1, .bool x.f3, .int .i64 x.f4.f0, .int .i64 x.f4.f1, .int .i64 x.f4.f2, .int .i64 x.f4.f3, .int .i64 x.f4.f4, .int .i64 x.f4.f5, .int .i64 x.f4.f6] 52)).heap[wr.heap.size]? = some (.cells #[.int .i64 x.f0.f0, .int .i64 x.f0.f1, .int .i64 x.f1, .int .i64 x.f2.f0, .int .i64 x.f2.f1, .bool x.f3, .int .i64 x.f4.f0, .int .i64 x.f4.f1, .int .i64 x.f4.f2, .int .i64 x.f4.f3, .int .i64 x.f4.f4, .int .i64 x.f4.f5, .int .i64 x.f4.f6] 52 (0, 0))) := ⟨Y1w _ _⟩; have HO1 : Y0 (World.ownsMap (H := Unit) (wr.alloc (.cells #[.int .i64 x.f0.f0, .int .i64 x.f0.f1, .int .i64 x.f1, .int .i64 x.f2.f0, .int .i64 x.f2.f1, .bool x.f3, .int .i64 x.f4.f0, .int .i64 x.f4.f1, .int .i64 x.f4.f2, .int .i64 x.f4.f3, .int .i64 x.f4.f4, .int .i64 x.f4.f5, .int .i64 x.f4.f6] 52)) Tryz.prog 67 (plainElem Tryz.prog 4) B l1.length D) := ⟨HO.out.alloc _⟩; generalize (wr.alloc (.cells #[.int .i64 x.f0.f0, .int .i64 x.f0.f1, .int .i64 x.f1, .int .i64 x.f2.f0, .int .i64 x.f2.f1, .bool x.f3, .int .i64 x.f4.f0, .int .i64 x.f4.f1, .int .i64 x.f4.f2, .int .i64 x.f4.f3, .int .i64 x.f4.f4, .int .i64 x.f4.f5, .int .i64 x.f4.f6] 52)) = W1 at HB1 B01 B9 HO1 ⊢; generalize wr.heap.size = g9 at B9 ⊢; clear HB B0 hc0 HO hx0 hx1 hx2 hx3 hx4 hx5 hx6 hx7 hx8 hx9 hx10 hx11 hx12; have hc9 := Y2 B9.out; cases b
            · have hr : r = 6 := by
                have h := H3.out; rw [HS2.out, Bool.false_and, if_neg (by decide)] at h; exact h.symm
              subst hr; go_wp2_with (first | ((with_reducible refine Yf (N := 73) rfl ?_); refine Y1X _ rfl _ _ 73 rfl 67 4 lawS Tryz.underlying73 Tryz.underlying4 (zeroB _) B l1.length D rfl HO1.out _ _ rfl (Y1D HE.out.1 HE.out.2.1 HE.out.2.2) _ HAT.out ?_))
              (try rw [Exit.noGoto_ret]); go_ret
              exact ⟨rfl, HB1.out⟩
            · have HT2 : Y0 (l1.all (kno52 l1) = (l1.drop (i + 1)).all (kno52 l1)) := ⟨by rw [HS2.out, Bool.true_and]⟩
              go_wp2_with (first | ((with_reducible refine Yf (N := 73) rfl ?_); refine Y1X _ rfl _ _ 73 rfl 67 4 lawS Tryz.underlying73 Tryz.underlying4 (zeroB _) B l1.length D rfl HO1.out _ _ rfl (Y1D HE.out.1 HE.out.2.1 HE.out.2.2) _ HAT.out ?_))
              go_roundg k1
              case measure => have := HK.out; omega
              case rel => exact ⟨i + 1, by first | (simp; done) | (simp; unfold wrap64; have := HN.out; have := HI.out; omega), ⟨by have := HK.out; omega⟩, HT2, HO1, B01, HB1⟩
end Go.Proofs.YteopkkoblbmggaaGreat.P
end
