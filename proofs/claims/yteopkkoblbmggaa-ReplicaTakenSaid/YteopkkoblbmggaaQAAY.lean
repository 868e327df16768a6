/- Texts of this claim in one: VP57, VP58, VP59, VCloneB; no condition. -/
import Derived.Test.YteopkkoblbmggaaQAAC
import Derived.Test.YteopkkoblbmggaaQAAE
import Derived.Test.YteopkkoblbmggaaQAAG
import Derived.Test.YteopkkoblbmggaaQAAX
import Derived.Test.YteopkkoblbmggaaQAAH
import Derived.Deep.Light
import Derived.WalkSpells
import Derived.Laws.Cover3
section
namespace Go.Proofs.Yteopkkoblbmggaa.P
open Go.RowKit Go.Proofs.YteopkkoblbmggaaW.PrintWords Go.Proofs.YteopkkoblbmggaaW.PrintLast Go.Proofs.YteopkkoblbmggaaW.PrintMore
attribute [local go_sem] YR YT Y11 Y12 YI YJ YS YU
set_option linter.unusedVariables false
set_option linter.unusedSimpArgs false
def Yz.l0 : Nat → List Int → List Int → Int → Int → Option (List Int)
 | 0, _, _, _, _ => none
 | k + 1, x5, x9, x10, x11 => if x11 < x10 then (if 0 ≤ x11 then (if x11 < (x9.length : Int) then ((Y16.f k x5 (rd x9 x11)).bind fun t_4 => (Yz.l0 k t_4 x9 x10 (wrap64 (x11 + 1)))) else (none)) else (none)) else (some x5)
def Yz.f (k : Nat) (l0 : List Int) (l1 : List Int) : Option (List Int) := Yz.l0 k l0 l1 (l1.length : Int) 0
theorem Yz.mono_l : ∀ k, (∀ y0 y1 y2 y3, LeO (Yz.l0 k y0 y1 y2 y3) (Yz.l0 (k + 1) y0 y1 y2 y3))
 | 0 => fun _ _ _ _ r h => by simp [Yz.l0] at h
 | k + 1 => by
  have ih0 := Yz.mono_l k
  ·intro y0 y1 y2 y3
   unfold Yz.l0
   repeat' first
   | (with_reducible exact ih0 _ _ _ _)
   | (with_reducible exact Y16.mono _ _ _)
   | (with_reducible exact LeO.refl _)
   | (with_reducible exact LeO.none _)
   | (with_reducible refine LeO.ite ?_ ?_)
   | (with_reducible refine LeO.bind ?_ (fun _ => ?_))
theorem Yz.mono : ∀ a0 a1 k, LeO (Yz.f k a0 a1) (Yz.f (k + 1) a0 a1) := by
 intro a0 a1 k
 have ih0 := Yz.mono_l k
 unfold Yz.f
 repeat' first
   | (with_reducible exact ih0 _ _ _ _)
   | (with_reducible exact Y16.mono _ _ _)
   | (with_reducible exact LeO.refl _)
   | (with_reducible exact LeO.none _)
   | (with_reducible refine LeO.ite ?_ ?_)
   | (with_reducible refine LeO.bind ?_ (fun _ => ?_))
set_option maxHeartbeats 8000000 in
set_option maxRecDepth 100000 in
theorem Yz.calls (k : Nat) (P0_ : Nat → Prop) (A0 : Option Addr) (c0 : Nat) (l0 : List Int) (A1 : Option Addr) (c1 : Nat) (l1 : List Int) (r : List Int) (w : World) (hs0 : Kd.V (Kd.int .u8) 5 w w.heap.size (fun k_ => P0_ k_) (.slice A0 l0.length c0) l0) (hr1 : Kd.C (Kd.int .i64) w A1 l1.length l1) (hc1 : l1.length ≤ c1) (h : Yz.f k l0 l1 = some r) :
  Calls Try.prog 109 #[.slice A0 l0.length c0, .slice A1 l1.length c1] w fun e w' => ∃ v0_ : Value, e = .returned (v0_) ∧ Kd.V (Kd.int .u8) 5 w' w.heap.size (fun k_ => (P0_ k_ ∨ w.heap.size ≤ k_)) v0_ r ∧ Below w.heap.size w w' := by
 have HO0 := Y0.mk (show Kd.V (Kd.int .u8) 5 w w.heap.size (fun k_ => (P0_ k_ ∨ w.heap.size ≤ k_)) (.slice A0 l0.length c0) l0 from Kd.V_mono hs0 (fun k_ hk => .inl hk))
 have HR1 := Y0.mk hr1
 have HC1 := Y0.mk hc1
 clear hr1 hc1
 have HB := Y0.mk (Below.refl w.heap.size w)
 have H : (Yz.l0 k l0 l1 (l1.length : Int) 0) = some r := h
 clear h
 have H' := Y0.mk H
 clear H
 go_enter Try.func109, Try.ntmps109
 go_wp2
 go_loopg [5, 11] k (fun kq v5 v11 w' => ∃ (x5_1 : List Int) (x11_1 : Int), v11 = .int .i64 x11_1 ∧ Y0 (Yz.l0 kq x5_1 l1 (l1.length : Int) x11_1 = some r) ∧ Y0 (kq ≤ k) ∧ Y0 (Kd.V (Kd.int .u8) 5 w' w.heap.size (fun k_ => (P0_ k_ ∨ w.heap.size ≤ k_)) v5 x5_1) ∧ Y0 (Below w.heap.size w w'))
 case atStart => exact ⟨(l0), (0), reS, H', ⟨Nat.le_refl _⟩, ⟨by (with_reducible repeat (first | apply Kd.V_alloc | apply Kd.V_drewN | apply Kd.V_drew)); exact HO0.out⟩, ⟨hU HB.out⟩⟩
 case round =>
  clear H'
  try clear c1
  try clear p2
  obtain ⟨x5_1, x11_1, rfl, HA, HK1, HO_5, HB⟩ := hrel
  cases gk with
  | zero => exact absurd HA.out (by simp [Yz.l0])
  | succ k1 =>
   have H := HA.out
   clear HA
   simp only [Yz.l0] at H
   by_cases c3 : x11_1 < (l1.length : Int)
   ·rw [if_pos c3] at H
    have c3b0 := decide_eq_true c3
    clear c3
    obtain ⟨c4, H⟩ := iS H
    have c4b0 := decide_eq_true c4
    clear c4
    obtain ⟨c5, H⟩ := iS H
    have c5b0 := decide_eq_true c5
    clear c5
    obtain ⟨t_4, A60, H⟩ := bS H
    replace H : (Yz.l0 k1 t_4 l1 (l1.length : Int) (wrap64 (x11_1 + 1))) = some r := H
    have A6 := Y0.mk A60
    clear A60
    have H' := Y0.mk H
    clear H
    have p1042 : 0 ≤ (x11_1 : Int) := of_decide_eq_true (by first | (with_reducible assumption) | assumption)
    have q1042 : x11_1 < (l1.length : Int) := of_decide_eq_true (by first | (with_reducible assumption) | assumption)
    obtain ⟨d_0, e1042, m_0⟩ := Kd.at_int HR1.out x11_1 p1042 q1042
    cases e1042
    replace m_0 := hbC HB m_0
    replace p1042 := eq_true p1042
    replace q1042 := eq_true q1042
    obtain ⟨Ao7, co7, eo7⟩ := Kd.V_slice HO_5.out
    subst eo7
    go_wp2_with (first | ((with_reducible refine Yc (f := 110) rfl ?_); refine goesA (some 17) Try.func110 #[.slice Ao7 x5_1.length co7, .int .i64 (rd l1 x11_1)] ?_; (with_reducible refine (Y16.calls k1 _ _ x5_1 (rd l1 x11_1) t_4 _ ?side1 ?side2 A6.out).mono ?_); (case side1 => repeat (first | exact (Kd.V_reads' HO_5.out).2.2 | (with_reducible refine Kd.C_alloc ?_ _) | (with_reducible refine Kd.C_drewN ?_ _) | (with_reducible refine Kd.C_drew ?_))); (case side2 => exact (Kd.V_reads' HO_5.out).2.1); rintro e w8 ⟨v_4, rfl, ho0, hb⟩; refine ⟨_, rfl, ?_⟩; replace HO_5 := Y0.mk (Kd.V_elder' (Kd.vU HO_5.out) (Kd.R_base ho0) hb); replace O_6 := Y0.mk (Kd.R_lower (Kd.R_newM (M := fun k_ => (w.heap.size ≤ k_)) ho0 (Yf (hU HB.out)) (fun k_ h_ => h_)) (Yf (hU HB.out))); replace HB := Y0.mk (Y3 (hU HB.out) hb); (try clear hb); (try clear hb2); (try clear hk); (try clear hi); (try clear ho0)))
    go_roundg k1
    case measure => have := HK1.out; omega
    case rel => exact ⟨(t_4), (wrap64 (x11_1 + 1)), reS, H', ⟨by have := HK1.out; omega⟩, ⟨Kd.V_mono (Kd.R_V (by (with_reducible repeat (first | apply Kd.R_alloc | apply Kd.R_drewN | apply Kd.R_drew)); exact Kd.R_mono O_6.out (fun _ hk => hk.1))) (fun k_ hk => by first | exact ⟨(.inr (hk.1)), hk.2⟩ | exact (.inr (hk)))⟩, ⟨hU HB.out⟩⟩
   ·rw [if_neg c3] at H
    have c3b0 := decide_eq_false c3
    clear c3
    obtain rfl := Option.some.inj H
    go_wp2
    go_ret
    exact ⟨_, reT, by (with_reducible repeat (first | apply Kd.V_alloc | apply Kd.V_drewN | apply Kd.V_drew)); exact HO_5.out, hU HB.out⟩
def Y1p.f (k : Nat) (a0_0 : Int) (a0_1 : Int) (a0_2 : Int) (a0_3 : Int) (a0_4 : Int) (a0_5 : Bool) (a0_6 : Int) (a0_7 : Int) (a0_8 : Int) (a0_9 : Int) (a0_10 : Int) (a0_11 : Int) (a0_12 : Int) : Option (List Int × Int) := (Yq.f k a0_0 a0_1 a0_2 a0_3 a0_4 a0_5 a0_6 a0_7 a0_8 a0_9 a0_10 a0_11 a0_12).bind fun t_3 => (if t_3 = 0 then ((Yz.f k ([] : List Int) (([a0_0, a0_1, a0_2, a0_3, a0_4] : List Int))).bind fun t_0 => (if a0_5 = true then ((Yz.f k t_0 (([1] : List Int))).bind fun t_2 => (some (t_2, 0))) else ((Yz.f k t_0 (([0, a0_6, a0_7, a0_8, a0_9, a0_10, a0_11, a0_12] : List Int))).bind fun t_1 => (some (t_1, 0))))) else (some (([] : List Int), t_3)))
theorem Y1p.mono : ∀ a0 a1 a2 a3 a4 a5 a6 a7 a8 a9 a10 a11 a12 k, LeO (Y1p.f k a0 a1 a2 a3 a4 a5 a6 a7 a8 a9 a10 a11 a12) (Y1p.f (k + 1) a0 a1 a2 a3 a4 a5 a6 a7 a8 a9 a10 a11 a12) := by
 intro a0 a1 a2 a3 a4 a5 a6 a7 a8 a9 a10 a11 a12 k
 unfold Y1p.f
 repeat' first
   | (with_reducible exact Yq.mono _ _ _ _ _ _ _ _ _ _ _ _ _ _)
   | (with_reducible exact Yz.mono _ _ _)
   | (with_reducible exact LeO.refl _)
   | (with_reducible exact LeO.none _)
   | (with_reducible refine LeO.ite ?_ ?_)
   | (with_reducible refine LeO.bind ?_ (fun _ => ?_))
set_option maxHeartbeats 8000000 in
set_option maxRecDepth 100000 in
theorem Y1p.calls (k : Nat) (a0_0 : Int) (a0_1 : Int) (a0_2 : Int) (a0_3 : Int) (a0_4 : Int) (a0_5 : Bool) (a0_6 : Int) (a0_7 : Int) (a0_8 : Int) (a0_9 : Int) (a0_10 : Int) (a0_11 : Int) (a0_12 : Int) (r1 : List Int) (r2 : Int) (w : World) (h : Y1p.f k a0_0 a0_1 a0_2 a0_3 a0_4 a0_5 a0_6 a0_7 a0_8 a0_9 a0_10 a0_11 a0_12 = some (r1, r2)) :
  Calls Try.prog 82 #[.agg #[.int .i64 a0_0, .int .i64 a0_1, .int .i64 a0_2, .int .i64 a0_3, .int .i64 a0_4, .bool a0_5, .int .i64 a0_6, .int .i64 a0_7, .int .i64 a0_8, .int .i64 a0_9, .int .i64 a0_10, .int .i64 a0_11, .int .i64 a0_12]] w fun e w' => ∃ v0_ : Value, e = .returned (.tuple #[v0_, .int .i64 r2]) ∧ Kd.V (Kd.int .u8) 5 w' w.heap.size (fun k_ => (w.heap.size ≤ k_)) v0_ r1 ∧ Below w.heap.size w w' := by
 have hu30 := Try.underlying30
 have hu28 := Try.underlying28
 have HB := Y0.mk (Below.refl w.heap.size w)
 have H : ((Yq.f k a0_0 a0_1 a0_2 a0_3 a0_4 a0_5 a0_6 a0_7 a0_8 a0_9 a0_10 a0_11 a0_12).bind fun t_3 => (if t_3 = 0 then ((Yz.f k ([] : List Int) (([a0_0, a0_1, a0_2, a0_3, a0_4] : List Int))).bind fun t_0 => (if a0_5 = true then ((Yz.f k t_0 (([1] : List Int))).bind fun t_2 => (some (t_2, 0))) else ((Yz.f k t_0 (([0, a0_6, a0_7, a0_8, a0_9, a0_10, a0_11, a0_12] : List Int))).bind fun t_1 => (some (t_1, 0))))) else (some (([] : List Int), t_3)))) = some (r1, r2) := h
 clear h
 obtain ⟨t_3, A20, H⟩ := bS H
 try dsimp only at H
 have A2 := Y0.mk A20
 clear A20
 by_cases c3 : t_3 = 0
 ·rw [if_pos c3] at H
  have c3b0 := bqT c3
  have c3b1 := bnF c3
  clear c3
  obtain ⟨y1048, hy1048⟩ : ∃ y_ : List Int, y_ = (([a0_0, a0_1, a0_2, a0_3, a0_4] : List Int)) := ⟨_, rfl⟩
  replace H : ((Yz.f k ([] : List Int) y1048).bind fun t_0 => (if a0_5 = true then ((Yz.f k t_0 (([1] : List Int))).bind fun t_2 => (some (t_2, 0))) else ((Yz.f k t_0 (([0, a0_6, a0_7, a0_8, a0_9, a0_10, a0_11, a0_12] : List Int))).bind fun t_1 => (some (t_1, 0))))) = some (r1, r2) := by first | (rw [hy1048]; with_reducible exact H) | (have H2_ := (Option.bind_some _ _).symm.trans H; rw [hy1048]; with_reducible exact H2_) | (have H2_ := (Option.bind_some _ _).symm.trans H; with_reducible exact H2_) | with_reducible exact H | (rw [hy1048]; exact H) | exact H
  have Ny1048 := Y0.mk hy1048
  clear hy1048
  obtain ⟨t_0, A40, H⟩ := bS H
  try dsimp only at H
  have A4 := Y0.mk A40
  clear A40
  by_cases c5 : a0_5 = true
  ·subst c5
   have H1 : ((Yz.f k t_0 (([1] : List Int))).bind fun t_2 => (some (t_2, 0))) = some (r1, r2) := by rw [if_pos rfl] at H; exact H
   clear H
   have H := H1
   clear H1
   obtain ⟨y1054, hy1054⟩ : ∃ y_ : List Int, y_ = (([1] : List Int)) := ⟨_, rfl⟩
   replace H : ((Yz.f k t_0 y1054).bind fun t_2 => (some (t_2, 0))) = some (r1, r2) := by first | (rw [hy1054]; with_reducible exact H) | (have H2_ := (Option.bind_some _ _).symm.trans H; rw [hy1054]; with_reducible exact H2_) | (have H2_ := (Option.bind_some _ _).symm.trans H; with_reducible exact H2_) | with_reducible exact H | (rw [hy1054]; exact H) | exact H
   have Ny1054 := Y0.mk hy1054
   clear hy1054
   obtain ⟨t_2, A60, H⟩ := bS H
   replace H : (some (t_2, 0)) = some (r1, r2) := H
   have A6 := Y0.mk A60
   clear A60
   simp only [Option.some.injEq, Prod.mk.injEq] at H
   obtain ⟨rfl, rfl⟩ := H
   go_enter Try.func82, Try.ntmps82
   go_wp2_with (first | ((with_reducible refine Ye (N := 1) rfl ?_); refine Yh ?hg (N := 1) ?hd (cs := #[.int .i64 a0_0, .int .i64 a0_1, .int .i64 a0_2, .int .i64 a0_3, .int .i64 a0_4, .bool true, .int .i64 a0_6, .int .i64 a0_7, .int .i64 a0_8, .int .i64 a0_9, .int .i64 a0_10, .int .i64 a0_11, .int .i64 a0_12]) (t := 30) ?hr ?_; (case hd => rfl); (case hg => rfl); (case hr => first | (go_simp; done) | (go_simp; rfl)); intro g_1 hg w7 hbox hb; have n0_ := Y0.mk (Y3 (hU HB.out) hb); have n1_ := Y0.mk (hbox); have n2_ := gE hg HB; have n3_ := gE hg HB; clear HB; have HB := n0_; have B_0 := n1_; have W_0 := n2_; have G_0 := n3_; clear n0_ n1_ n2_ n3_; clear hb hbox hg; have z_1 := Y2 B_0.out; have f_4 := Y7 B_0.out) | ((with_reducible refine Yc (f := 54) rfl ?_); refine goesA (some 8) Try.func54 #[.agg #[.int .i64 a0_0, .int .i64 a0_1, .int .i64 a0_2, .int .i64 a0_3, .int .i64 a0_4, .bool true, .int .i64 a0_6, .int .i64 a0_7, .int .i64 a0_8, .int .i64 a0_9, .int .i64 a0_10, .int .i64 a0_11, .int .i64 a0_12]] ?_; (with_reducible refine (Yq.calls k a0_0 a0_1 a0_2 a0_3 a0_4 true a0_6 a0_7 a0_8 a0_9 a0_10 a0_11 a0_12 t_3 _ A2.out).mono ?_); rintro e w9 ⟨rfl, hb⟩; refine ⟨_, rfl, ?_⟩; replace B_0 := Y0.mk (Y1 (bU B_0.out) hb); replace HB := Y0.mk (Y3 (hU HB.out) hb); (try clear hb); (try clear hb2); (try clear hk); (try clear hi); have z_3 := Y2 B_0.out; have f_5 := Y7 B_0.out) | ((with_reducible refine Ye (N := 26) rfl ?_); refine Kd.R_lit (Kd.int .i64) _ 3 ?hg (N := 26) ?hd (xs := ([a0_0, a0_1, a0_2, a0_3, a0_4] : List Int)) (inner := [.int .i64 a0_0, .int .i64 a0_1, .int .i64 a0_2, .int .i64 a0_3, .int .i64 a0_4]) (ok := fun _ => True) (okp := fun _ => True) ?hr ?hp (fun _ hk => hk) trivial (Below.refl _ _) (Nat.le_refl _) (by simp) ?_; (case hd => rfl); (case hg => rfl); (case hr => first | (go_simp; done) | (go_simp; rfl)); (case hp => exact (Reps.one (show Kd.M (Kd.int .i64) _ _ _ a0_0 [.int .i64 a0_0] from rfl) (Reps.one (show Kd.M (Kd.int .i64) _ _ _ a0_1 [.int .i64 a0_1] from rfl) (Reps.one (show Kd.M (Kd.int .i64) _ _ _ a0_2 [.int .i64 a0_2] from rfl) (Reps.one (show Kd.M (Kd.int .i64) _ _ _ a0_3 [.int .i64 a0_3] from rfl) (Reps.one (show Kd.M (Kd.int .i64) _ _ _ a0_4 [.int .i64 a0_4] from rfl) (Reps.none _ _))))))); intro v_0 w11 ho12 hb hg_ hnew_; clear hg_ hnew_; (first | rw [← Ny1048.out] at ho12 | (simp only [Int.reduceToNat] at ho12; rw [← Ny1048.out] at ho12)); have n0_ := Y0.mk (Kd.R_lower (Kd.R_newM (M := fun k_ => (w.heap.size ≤ k_)) ho12 (Yf (hU HB.out)) (fun k_ h_ => h_)) (Yf (hU HB.out))); have n1_ := Y0.mk (Y1 (bU B_0.out) hb); have n2_ := Y0.mk (Y3 (hU HB.out) hb); clear B_0; clear HB; have O_0 := n0_; have B_0 := n1_; have HB := n2_; clear n0_ n1_ n2_; clear hb ho12; obtain ⟨Ao13, co13, eo13⟩ := Kd.R_slice O_0.out; subst eo13) | ((with_reducible refine Yc (f := 109) rfl ?_); refine goesA (some 27) Try.func109 #[.slice none 0 0, .slice Ao13 y1048.length co13] ?_; (refine (Yz.calls k (fun k_ => False) _ _ ([] : List Int) _ _ y1048 t_0 _ ?side1 ?side2 ?side3 A4.out).mono ?_); (case side1 => exact Kd.V_nil _ _ _ _ _); (case side2 => repeat (first | exact (Kd.R_reads' O_0.out).2.2 | (with_reducible refine Kd.C_alloc ?_ _) | (with_reducible refine Kd.C_drewN ?_ _) | (with_reducible refine Kd.C_drew ?_))); (case side3 => exact (Kd.R_reads' O_0.out).2.1); rintro e w14 ⟨v_1, rfl, ho0, hb⟩; refine ⟨_, rfl, ?_⟩; replace O_1 := Y0.mk (Kd.V_lower (Kd.V_mono (ok' := fun k_ => (w.heap.size ≤ k_) ∧ some k_ ≠ (.slice Ao13 y1048.length co13 : Value).ownBlock ∧ k_ ≠ g_1) ho0 (fun k_ hk_ => ⟨Or.elim hk_ (fun hs_ => (hs_).elim) (fun hn_ => (Nat.le_trans (Yf (hU HB.out)) hn_)), Or.elim hk_ (fun hs_ => (hs_).elim) (fun hn_ => (Kd.fresh' (Kd.R_lt (Kd.rU O_0.out)) k_ hn_)), Or.elim hk_ (fun hs_ => (hs_).elim) (fun hn_ => (Kd.freshB (bU B_0.out) k_ hn_))⟩)) (Yf (hU HB.out))); replace O_0 := Y0.mk (Kd.R_below (Kd.rU O_0.out) hb); replace B_0 := Y0.mk (Y1 (bU B_0.out) hb); replace HB := Y0.mk (Y3 (hU HB.out) hb); (try clear hb); (try clear hb2); (try clear hk); (try clear hi); (try clear ho0); have z_0 := Y2 B_0.out; have f_2 := Y7 B_0.out) | ((with_reducible refine Ye (N := 31) rfl ?_); refine Kd.R_lit (Kd.int .i64) _ 3 ?hg (N := 31) ?hd (xs := ([1] : List Int)) (inner := [.int .i64 1]) (ok := fun _ => True) (okp := fun _ => True) ?hr ?hp (fun _ hk => hk) trivial (Below.refl _ _) (Nat.le_refl _) (by simp) ?_; (case hd => rfl); (case hg => rfl); (case hr => first | (go_simp; done) | (go_simp; rfl)); (case hp => exact (Reps.one (show Kd.M (Kd.int .i64) _ _ _ 1 [.int .i64 1] from rfl) (Reps.none _ _))); intro v_2 w16 ho17 hb hg_ hnew_; clear hg_ hnew_; (first | rw [← Ny1054.out] at ho17 | (simp only [Int.reduceToNat] at ho17; rw [← Ny1054.out] at ho17)); have n0_ := Y0.mk (Kd.R_elder' (Kd.rU O_0.out) (Kd.R_base ho17) hb); have n1_ := Y0.mk (Kd.V_elder' (Kd.vU O_1.out) (Kd.R_base ho17) hb); have n2_ := Y0.mk (Kd.R_lower (Kd.R_new' (Kd.R_newM (M := fun k_ => (w.heap.size ≤ k_)) ho17 (Yf (hU HB.out)) (fun k_ h_ => h_)) (Kd.R_lt (Kd.rU O_0.out))) (Yf (hU HB.out))); have n3_ := Y0.mk (Y1 (bU B_0.out) hb); have n4_ := Y0.mk (Y3 (hU HB.out) hb); clear O_0; clear O_1; clear B_0; clear HB; have O_0 := n0_; have O_1 := n1_; have O_2 := n2_; have B_0 := n3_; have HB := n4_; clear n0_ n1_ n2_ n3_ n4_; clear hb ho17; obtain ⟨Ao18, co18, eo18⟩ := Kd.V_slice O_1.out; subst eo18; obtain ⟨Ao19, co19, eo19⟩ := Kd.R_slice O_2.out; subst eo19) | ((with_reducible refine Yc (f := 109) rfl ?_); refine goesA (some 32) Try.func109 #[.slice Ao18 t_0.length co18, .slice Ao19 y1054.length co19] ?_; (with_reducible refine (Yz.calls k (fun k_ => (((w.heap.size ≤ k_) ∧ (some k_ ≠ (.slice Ao13 y1048.length co13 : Value).ownBlock ∧ k_ ≠ g_1)) ∧ some k_ ≠ (.slice Ao19 y1054.length co19 : Value).ownBlock)) _ _ t_0 _ _ y1054 t_2 _ ?side1 ?side2 ?side3 A6.out).mono ?_); (case side1 => exact O_1.out); (case side2 => repeat (first | exact (Kd.R_reads' O_2.out).2.2 | (with_reducible refine Kd.C_alloc ?_ _) | (with_reducible refine Kd.C_drewN ?_ _) | (with_reducible refine Kd.C_drew ?_))); (case side3 => exact (Kd.R_reads' O_2.out).2.1); rintro e w20 ⟨v_6, rfl, ho0, hb⟩; refine ⟨_, rfl, ?_⟩; replace O_1 := Y0.mk (Kd.V_below (Kd.vU O_1.out) hb); replace O_4 := Y0.mk (Kd.V_lower (Kd.V_mono (ok' := fun k_ => (w.heap.size ≤ k_) ∧ some k_ ≠ (.slice Ao13 y1048.length co13 : Value).ownBlock ∧ some k_ ≠ (.slice Ao19 y1054.length co19 : Value).ownBlock ∧ k_ ≠ g_1) ho0 (fun k_ hk_ => ⟨Or.elim hk_ (fun hs_ => hs_.1.1) (fun hn_ => (Nat.le_trans (Yf (hU HB.out)) hn_)), Or.elim hk_ (fun hs_ => hs_.1.2.1) (fun hn_ => (Kd.fresh' (Kd.R_lt (Kd.rU O_0.out)) k_ hn_)), Or.elim hk_ (fun hs_ => hs_.2) (fun hn_ => (Kd.fresh' (Kd.R_lt (Kd.rU O_2.out)) k_ hn_)), Or.elim hk_ (fun hs_ => hs_.1.2.2) (fun hn_ => (Kd.freshB (bU B_0.out) k_ hn_))⟩)) (Yf (hU HB.out))); replace O_0 := Y0.mk (Kd.R_below (Kd.rU O_0.out) hb); replace O_2 := Y0.mk (Kd.R_below (Kd.rU O_2.out) hb); replace B_0 := Y0.mk (Y1 (bU B_0.out) hb); replace HB := Y0.mk (Y3 (hU HB.out) hb); (try clear hb); (try clear hb2); (try clear hk); (try clear hi); (try clear ho0)))
   go_ret2
   exact ⟨_, reT, by (with_reducible repeat (first | apply Kd.V_alloc | apply Kd.V_drewN | apply Kd.V_drew)); exact Kd.V_mono O_4.out (fun _ hk => hk.1), hU HB.out⟩
  ·replace c5 := Bool.eq_false_iff.mpr c5
   subst c5
   have H1 : ((Yz.f k t_0 (([0, a0_6, a0_7, a0_8, a0_9, a0_10, a0_11, a0_12] : List Int))).bind fun t_1 => (some (t_1, 0))) = some (r1, r2) := by rw [if_neg (show ¬ (false = true) by decide)] at H; exact H
   clear H
   have H := H1
   clear H1
   obtain ⟨y1061, hy1061⟩ : ∃ y_ : List Int, y_ = (([0, a0_6, a0_7, a0_8, a0_9, a0_10, a0_11, a0_12] : List Int)) := ⟨_, rfl⟩
   replace H : ((Yz.f k t_0 y1061).bind fun t_1 => (some (t_1, 0))) = some (r1, r2) := by first | (rw [hy1061]; with_reducible exact H) | (have H2_ := (Option.bind_some _ _).symm.trans H; rw [hy1061]; with_reducible exact H2_) | (have H2_ := (Option.bind_some _ _).symm.trans H; with_reducible exact H2_) | with_reducible exact H | (rw [hy1061]; exact H) | exact H
   have Ny1061 := Y0.mk hy1061
   clear hy1061
   obtain ⟨t_1, A210, H⟩ := bS H
   replace H : (some (t_1, 0)) = some (r1, r2) := H
   have A21 := Y0.mk A210
   clear A210
   simp only [Option.some.injEq, Prod.mk.injEq] at H
   obtain ⟨rfl, rfl⟩ := H
   go_enter Try.func82, Try.ntmps82
   go_wp2_with (first | ((with_reducible refine Ye (N := 1) rfl ?_); refine Yh ?hg (N := 1) ?hd (cs := #[.int .i64 a0_0, .int .i64 a0_1, .int .i64 a0_2, .int .i64 a0_3, .int .i64 a0_4, .bool false, .int .i64 a0_6, .int .i64 a0_7, .int .i64 a0_8, .int .i64 a0_9, .int .i64 a0_10, .int .i64 a0_11, .int .i64 a0_12]) (t := 30) ?hr ?_; (case hd => rfl); (case hg => rfl); (case hr => first | (go_simp; done) | (go_simp; rfl)); intro g_1 hg w22 hbox hb; have n0_ := Y0.mk (Y3 (hU HB.out) hb); have n1_ := Y0.mk (hbox); have n2_ := gE hg HB; have n3_ := gE hg HB; clear HB; have HB := n0_; have B_0 := n1_; have W_0 := n2_; have G_0 := n3_; clear n0_ n1_ n2_ n3_; clear hb hbox hg; have z_6 := Y2 B_0.out; have f_1 := Y7 B_0.out) | ((with_reducible refine Yc (f := 54) rfl ?_); refine goesA (some 8) Try.func54 #[.agg #[.int .i64 a0_0, .int .i64 a0_1, .int .i64 a0_2, .int .i64 a0_3, .int .i64 a0_4, .bool false, .int .i64 a0_6, .int .i64 a0_7, .int .i64 a0_8, .int .i64 a0_9, .int .i64 a0_10, .int .i64 a0_11, .int .i64 a0_12]] ?_; (with_reducible refine (Yq.calls k a0_0 a0_1 a0_2 a0_3 a0_4 false a0_6 a0_7 a0_8 a0_9 a0_10 a0_11 a0_12 t_3 _ A2.out).mono ?_); rintro e w24 ⟨rfl, hb⟩; refine ⟨_, rfl, ?_⟩; replace B_0 := Y0.mk (Y1 (bU B_0.out) hb); replace HB := Y0.mk (Y3 (hU HB.out) hb); (try clear hb); (try clear hb2); (try clear hk); (try clear hi); have z_5 := Y2 B_0.out; have f_0 := Y7 B_0.out) | ((with_reducible refine Ye (N := 26) rfl ?_); refine Kd.R_lit (Kd.int .i64) _ 3 ?hg (N := 26) ?hd (xs := ([a0_0, a0_1, a0_2, a0_3, a0_4] : List Int)) (inner := [.int .i64 a0_0, .int .i64 a0_1, .int .i64 a0_2, .int .i64 a0_3, .int .i64 a0_4]) (ok := fun _ => True) (okp := fun _ => True) ?hr ?hp (fun _ hk => hk) trivial (Below.refl _ _) (Nat.le_refl _) (by simp) ?_; (case hd => rfl); (case hg => rfl); (case hr => first | (go_simp; done) | (go_simp; rfl)); (case hp => exact (Reps.one (show Kd.M (Kd.int .i64) _ _ _ a0_0 [.int .i64 a0_0] from rfl) (Reps.one (show Kd.M (Kd.int .i64) _ _ _ a0_1 [.int .i64 a0_1] from rfl) (Reps.one (show Kd.M (Kd.int .i64) _ _ _ a0_2 [.int .i64 a0_2] from rfl) (Reps.one (show Kd.M (Kd.int .i64) _ _ _ a0_3 [.int .i64 a0_3] from rfl) (Reps.one (show Kd.M (Kd.int .i64) _ _ _ a0_4 [.int .i64 a0_4] from rfl) (Reps.none _ _))))))); intro v_0 w26 ho27 hb hg_ hnew_; clear hg_ hnew_; (first | rw [← Ny1048.out] at ho27 | (simp only [Int.reduceToNat] at ho27; rw [← Ny1048.out] at ho27)); have n0_ := Y0.mk (Kd.R_lower (Kd.R_newM (M := fun k_ => (w.heap.size ≤ k_)) ho27 (Yf (hU HB.out)) (fun k_ h_ => h_)) (Yf (hU HB.out))); have n1_ := Y0.mk (Y1 (bU B_0.out) hb); have n2_ := Y0.mk (Y3 (hU HB.out) hb); clear B_0; clear HB; have O_0 := n0_; have B_0 := n1_; have HB := n2_; clear n0_ n1_ n2_; clear hb ho27; obtain ⟨Ao28, co28, eo28⟩ := Kd.R_slice O_0.out; subst eo28) | ((with_reducible refine Yc (f := 109) rfl ?_); refine goesA (some 27) Try.func109 #[.slice none 0 0, .slice Ao28 y1048.length co28] ?_; (refine (Yz.calls k (fun k_ => False) _ _ ([] : List Int) _ _ y1048 t_0 _ ?side1 ?side2 ?side3 A4.out).mono ?_); (case side1 => exact Kd.V_nil _ _ _ _ _); (case side2 => repeat (first | exact (Kd.R_reads' O_0.out).2.2 | (with_reducible refine Kd.C_alloc ?_ _) | (with_reducible refine Kd.C_drewN ?_ _) | (with_reducible refine Kd.C_drew ?_))); (case side3 => exact (Kd.R_reads' O_0.out).2.1); rintro e w29 ⟨v_1, rfl, ho0, hb⟩; refine ⟨_, rfl, ?_⟩; replace O_1 := Y0.mk (Kd.V_lower (Kd.V_mono (ok' := fun k_ => (w.heap.size ≤ k_) ∧ some k_ ≠ (.slice Ao28 y1048.length co28 : Value).ownBlock ∧ k_ ≠ g_1) ho0 (fun k_ hk_ => ⟨Or.elim hk_ (fun hs_ => (hs_).elim) (fun hn_ => (Nat.le_trans (Yf (hU HB.out)) hn_)), Or.elim hk_ (fun hs_ => (hs_).elim) (fun hn_ => (Kd.fresh' (Kd.R_lt (Kd.rU O_0.out)) k_ hn_)), Or.elim hk_ (fun hs_ => (hs_).elim) (fun hn_ => (Kd.freshB (bU B_0.out) k_ hn_))⟩)) (Yf (hU HB.out))); replace O_0 := Y0.mk (Kd.R_below (Kd.rU O_0.out) hb); replace B_0 := Y0.mk (Y1 (bU B_0.out) hb); replace HB := Y0.mk (Y3 (hU HB.out) hb); (try clear hb); (try clear hb2); (try clear hk); (try clear hi); (try clear ho0); have z_7 := Y2 B_0.out; have f_7 := Y7 B_0.out) | ((with_reducible refine Ye (N := 6) rfl ?_); refine Yh ?hg (N := 6) ?hd (cs := #[.int .i64 0, .int .i64 0, .int .i64 0, .int .i64 0, .int .i64 0, .int .i64 0, .int .i64 0]) (t := 28) ?hr ?_; (case hd => rfl); (case hg => rfl); (case hr => first | (go_simp; done) | (go_simp; rfl)); intro g_0 hg w31 hbox hb; have n0_ := Y0.mk (Kd.R_below (Kd.rU O_0.out) hb); have n1_ := Y0.mk (Kd.V_below (Kd.V_elderB (Kd.vU O_1.out) g_0 (Nat.le_of_eq hg.symm)) hb); have n2_ := Y0.mk (Y1 (bU B_0.out) hb); have n3_ := Y0.mk (Y3 (hU HB.out) hb); have n4_ := Y0.mk (hbox); have n5_ := gE hg HB; have n6_ := gE hg HB; have n7_ := gL hg B_0; have n8_ := gG hg B_0; clear O_0; clear O_1; clear B_0; clear HB; have O_0 := n0_; have O_1 := n1_; have B_0 := n2_; have HB := n3_; have B_1 := n4_; have W_1 := n5_; have G_1 := n6_; have N_0 := n7_; have N_1 := n8_; clear n0_ n1_ n2_ n3_ n4_ n5_ n6_ n7_ n8_; clear hb hbox hg; have hnb32 := N_1.out; have hnc32 := N_0.out; have z_4 := Y2 B_1.out; have f_3 := Y7 B_1.out) | ((with_reducible refine Ye (N := 50) rfl ?_); refine Kd.R_lit (Kd.int .i64) _ 3 ?hg (N := 50) ?hd (xs := ([0, a0_6, a0_7, a0_8, a0_9, a0_10, a0_11, a0_12] : List Int)) (inner := [.int .i64 0, .int .i64 a0_6, .int .i64 a0_7, .int .i64 a0_8, .int .i64 a0_9, .int .i64 a0_10, .int .i64 a0_11, .int .i64 a0_12]) (ok := fun _ => True) (okp := fun _ => True) ?hr ?hp (fun _ hk => hk) trivial (Below.refl _ _) (Nat.le_refl _) (by simp) ?_; (case hd => rfl); (case hg => rfl); (case hr => first | (go_simp; done) | (go_simp; rfl)); (case hp => exact (Reps.one (show Kd.M (Kd.int .i64) _ _ _ 0 [.int .i64 0] from rfl) (Reps.one (show Kd.M (Kd.int .i64) _ _ _ a0_6 [.int .i64 a0_6] from rfl) (Reps.one (show Kd.M (Kd.int .i64) _ _ _ a0_7 [.int .i64 a0_7] from rfl) (Reps.one (show Kd.M (Kd.int .i64) _ _ _ a0_8 [.int .i64 a0_8] from rfl) (Reps.one (show Kd.M (Kd.int .i64) _ _ _ a0_9 [.int .i64 a0_9] from rfl) (Reps.one (show Kd.M (Kd.int .i64) _ _ _ a0_10 [.int .i64 a0_10] from rfl) (Reps.one (show Kd.M (Kd.int .i64) _ _ _ a0_11 [.int .i64 a0_11] from rfl) (Reps.one (show Kd.M (Kd.int .i64) _ _ _ a0_12 [.int .i64 a0_12] from rfl) (Reps.none _ _)))))))))); intro v_5 w34 ho35 hb hg_ hnew_; clear hg_ hnew_; (first | rw [← Ny1061.out] at ho35 | (simp only [Int.reduceToNat] at ho35; rw [← Ny1061.out] at ho35)); have n0_ := Y0.mk (Kd.R_elder' (by (with_reducible repeat (first | apply Kd.R_alloc | apply Kd.R_drewN | apply Kd.R_drew)); exact (Kd.R_mono (Kd.R_far (p := ⟨g_0, 6, none⟩) (Kd.R_far (p := ⟨g_0, 5, none⟩) (Kd.R_far (p := ⟨g_0, 4, none⟩) (Kd.R_far (p := ⟨g_0, 3, none⟩) (Kd.R_far (p := ⟨g_0, 2, none⟩) (Kd.R_far (p := ⟨g_0, 1, none⟩) (Kd.R_far (p := ⟨g_0, 0, none⟩) (Kd.R_types O_0.out B_1.out (by decide)) (fun _ hk => hk.2) (.int .i64 a0_6)) (fun _ hk => hk.2) (.int .i64 a0_7)) (fun _ hk => hk.2) (.int .i64 a0_8)) (fun _ hk => hk.2) (.int .i64 a0_9)) (fun _ hk => hk.2) (.int .i64 a0_10)) (fun _ hk => hk.2) (.int .i64 a0_11)) (fun _ hk => hk.2) (.int .i64 a0_12)) (fun _ h_ => h_.1))) (Kd.R_base ho35) hb); have n1_ := Y0.mk (Kd.V_elder' (by (with_reducible repeat (first | apply Kd.V_alloc | apply Kd.V_drewN | apply Kd.V_drew)); exact (Kd.V_mono (Kd.V_far (p := ⟨g_0, 6, none⟩) (Kd.V_far (p := ⟨g_0, 5, none⟩) (Kd.V_far (p := ⟨g_0, 4, none⟩) (Kd.V_far (p := ⟨g_0, 3, none⟩) (Kd.V_far (p := ⟨g_0, 2, none⟩) (Kd.V_far (p := ⟨g_0, 1, none⟩) (Kd.V_far (p := ⟨g_0, 0, none⟩) (Kd.V_mono O_1.out (fun k_ hk => (⟨hk, hk.2⟩ : _ ∧ k_ ≠ g_0))) (fun _ hk => hk.2) (.int .i64 a0_6)) (fun _ hk => hk.2) (.int .i64 a0_7)) (fun _ hk => hk.2) (.int .i64 a0_8)) (fun _ hk => hk.2) (.int .i64 a0_9)) (fun _ hk => hk.2) (.int .i64 a0_10)) (fun _ hk => hk.2) (.int .i64 a0_11)) (fun _ hk => hk.2) (.int .i64 a0_12)) (fun _ h_ => h_.1))) (Kd.R_base ho35) hb); have n2_ := Y0.mk (Kd.R_lower (Kd.R_new' (Kd.R_newM (M := fun k_ => (w.heap.size ≤ k_)) ho35 (Yf (hU HB.out)) (fun k_ h_ => h_)) (Kd.R_lt (by (with_reducible repeat (first | apply Kd.R_alloc | apply Kd.R_drewN | apply Kd.R_drew)); exact (Kd.R_mono (Kd.R_far (p := ⟨g_0, 6, none⟩) (Kd.R_far (p := ⟨g_0, 5, none⟩) (Kd.R_far (p := ⟨g_0, 4, none⟩) (Kd.R_far (p := ⟨g_0, 3, none⟩) (Kd.R_far (p := ⟨g_0, 2, none⟩) (Kd.R_far (p := ⟨g_0, 1, none⟩) (Kd.R_far (p := ⟨g_0, 0, none⟩) (Kd.R_types O_0.out B_1.out (by decide)) (fun _ hk => hk.2) (.int .i64 a0_6)) (fun _ hk => hk.2) (.int .i64 a0_7)) (fun _ hk => hk.2) (.int .i64 a0_8)) (fun _ hk => hk.2) (.int .i64 a0_9)) (fun _ hk => hk.2) (.int .i64 a0_10)) (fun _ hk => hk.2) (.int .i64 a0_11)) (fun _ hk => hk.2) (.int .i64 a0_12)) (fun _ h_ => h_.1))))) (Yf (hU HB.out))); have n3_ := Y0.mk (Y1 (g := g_1) (o := .cells #[.int .i64 a0_0, .int .i64 a0_1, .int .i64 a0_2, .int .i64 a0_3, .int .i64 a0_4, .bool false, .int .i64 a0_6, .int .i64 a0_7, .int .i64 a0_8, .int .i64 a0_9, .int .i64 a0_10, .int .i64 a0_11, .int .i64 a0_12] 30 (0, 0)) (by (iterate 7 ((with_reducible repeat (first | refine Y5 ?_ _ | refine Y6 ?_ | refine Y4 ?_ _)); refine (Below.heap_setCell _ ⟨_, _, none⟩ _ _ N_0.out).trans ?_)); (with_reducible repeat (first | refine Y5 ?_ _ | refine Y6 ?_ | refine Y4 ?_ _)); exact B_0.out) hb); have n4_ := Y0.mk (Y1 (g := g_0) (o := .cells #[.int .i64 a0_6, .int .i64 a0_7, .int .i64 a0_8, .int .i64 a0_9, .int .i64 a0_10, .int .i64 a0_11, .int .i64 a0_12] 28 (0, 0)) (by (with_reducible repeat (first | refine Y5 ?_ _ | refine Y6 ?_ | refine Y4 ?_ _)); apply Ym; (iterate 6 ((with_reducible repeat (first | refine Y5 ?_ _ | refine Y6 ?_ | refine Y4 ?_ _)); apply Y2g)); (with_reducible repeat (first | refine Y5 ?_ _ | refine Y6 ?_ | refine Y4 ?_ _)); exact B_1.out; simp only [List.setIfInBounds_toArray, List.set_cons_zero, List.set_cons_succ]) hb); have n5_ := Y0.mk (Y3 (hU HB.out) hb); clear O_0; clear O_1; clear B_0; clear B_1; clear HB; have O_0 := n0_; have O_1 := n1_; have O_3 := n2_; have B_0 := n3_; have B_1 := n4_; have HB := n5_; clear n0_ n1_ n2_ n3_ n4_ n5_; clear hb ho35; obtain ⟨Ao36, co36, eo36⟩ := Kd.V_slice O_1.out; subst eo36; obtain ⟨Ao37, co37, eo37⟩ := Kd.R_slice O_3.out; subst eo37) | ((with_reducible refine Yc (f := 109) rfl ?_); refine goesA (some 51) Try.func109 #[.slice Ao36 t_0.length co36, .slice Ao37 y1061.length co37] ?_; (with_reducible refine (Yz.calls k (fun k_ => ((((w.heap.size ≤ k_) ∧ (some k_ ≠ (.slice Ao28 y1048.length co28 : Value).ownBlock ∧ k_ ≠ g_1)) ∧ k_ ≠ g_0) ∧ some k_ ≠ (.slice Ao37 y1061.length co37 : Value).ownBlock)) _ _ t_0 _ _ y1061 t_1 _ ?side1 ?side2 ?side3 A21.out).mono ?_); (case side1 => exact O_1.out); (case side2 => repeat (first | exact (Kd.R_reads' O_3.out).2.2 | (with_reducible refine Kd.C_alloc ?_ _) | (with_reducible refine Kd.C_drewN ?_ _) | (with_reducible refine Kd.C_drew ?_))); (case side3 => exact (Kd.R_reads' O_3.out).2.1); rintro e w38 ⟨v_3, rfl, ho0, hb⟩; refine ⟨_, rfl, ?_⟩; replace O_1 := Y0.mk (Kd.V_below (Kd.vU O_1.out) hb); replace O_5 := Y0.mk (Kd.V_lower (Kd.V_mono (ok' := fun k_ => (w.heap.size ≤ k_) ∧ some k_ ≠ (.slice Ao28 y1048.length co28 : Value).ownBlock ∧ some k_ ≠ (.slice Ao37 y1061.length co37 : Value).ownBlock ∧ k_ ≠ g_1 ∧ k_ ≠ g_0) ho0 (fun k_ hk_ => ⟨Or.elim hk_ (fun hs_ => hs_.1.1.1) (fun hn_ => (Nat.le_trans (Yf (hU HB.out)) hn_)), Or.elim hk_ (fun hs_ => hs_.1.1.2.1) (fun hn_ => (Kd.fresh' (Kd.R_lt (Kd.rU O_0.out)) k_ hn_)), Or.elim hk_ (fun hs_ => hs_.2) (fun hn_ => (Kd.fresh' (Kd.R_lt (Kd.rU O_3.out)) k_ hn_)), Or.elim hk_ (fun hs_ => hs_.1.1.2.2) (fun hn_ => (Kd.freshB (bU B_0.out) k_ hn_)), Or.elim hk_ (fun hs_ => hs_.1.2) (fun hn_ => (Kd.freshB (bU B_1.out) k_ hn_))⟩)) (Yf (hU HB.out))); replace O_0 := Y0.mk (Kd.R_below (Kd.rU O_0.out) hb); replace O_3 := Y0.mk (Kd.R_below (Kd.rU O_3.out) hb); replace B_0 := Y0.mk (Y1 (bU B_0.out) hb); replace B_1 := Y0.mk (Y1 (bU B_1.out) hb); replace HB := Y0.mk (Y3 (hU HB.out) hb); (try clear hb); (try clear hb2); (try clear hk); (try clear hi); (try clear ho0)))
   go_ret2
   exact ⟨_, reT, by (with_reducible repeat (first | apply Kd.V_alloc | apply Kd.V_drewN | apply Kd.V_drew)); exact Kd.V_mono O_5.out (fun _ hk => hk.1), hU HB.out⟩
 ·rw [if_neg c3] at H
  have c3b0 := bqF c3
  have c3b1 := bnT c3
  simp only [Option.some.injEq, Prod.mk.injEq] at H
  obtain ⟨rfl, rfl⟩ := H
  go_enter Try.func82, Try.ntmps82
  go_wp2_with (first | ((with_reducible refine Ye (N := 1) rfl ?_); refine Yh ?hg (N := 1) ?hd (cs := #[.int .i64 a0_0, .int .i64 a0_1, .int .i64 a0_2, .int .i64 a0_3, .int .i64 a0_4, .bool a0_5, .int .i64 a0_6, .int .i64 a0_7, .int .i64 a0_8, .int .i64 a0_9, .int .i64 a0_10, .int .i64 a0_11, .int .i64 a0_12]) (t := 30) ?hr ?_; (case hd => rfl); (case hg => rfl); (case hr => first | (go_simp; done) | (go_simp; rfl)); intro g_1 hg w39 hbox hb; have n0_ := Y0.mk (Y3 (hU HB.out) hb); have n1_ := Y0.mk (hbox); have n2_ := gE hg HB; have n3_ := gE hg HB; clear HB; have HB := n0_; have B_0 := n1_; have W_0 := n2_; have G_0 := n3_; clear n0_ n1_ n2_ n3_; clear hb hbox hg; have z_2 := Y2 B_0.out; have f_6 := Y7 B_0.out) | ((with_reducible refine Yc (f := 54) rfl ?_); refine goesA (some 8) Try.func54 #[.agg #[.int .i64 a0_0, .int .i64 a0_1, .int .i64 a0_2, .int .i64 a0_3, .int .i64 a0_4, .bool a0_5, .int .i64 a0_6, .int .i64 a0_7, .int .i64 a0_8, .int .i64 a0_9, .int .i64 a0_10, .int .i64 a0_11, .int .i64 a0_12]] ?_; (with_reducible refine (Yq.calls k a0_0 a0_1 a0_2 a0_3 a0_4 a0_5 a0_6 a0_7 a0_8 a0_9 a0_10 a0_11 a0_12 t_3 _ A2.out).mono ?_); rintro e w41 ⟨rfl, hb⟩; refine ⟨_, rfl, ?_⟩; replace B_0 := Y0.mk (Y1 (bU B_0.out) hb); replace HB := Y0.mk (Y3 (hU HB.out) hb); (try clear hb); (try clear hb2); (try clear hk); (try clear hi)))
  go_ret2
  exact ⟨_, reT, (by first | exact Kd.V_nil _ _ _ _ _ | exact Kd.R_V (by first | exact Kd.R_nil _ _ _ _ _ | exact Kd.N_nil _ _ _ _ _ | exact Kd.V_nil _ _ _ _ _ | exact Kd.Q_nil _ _ _ _ _ | exact Kd.S_nil _ _ _ _ _)), hU HB.out⟩
mutual
def Yw.l0 : Nat → Int → List Int → Int → Int → Option (Int)
 | 0, _, _, _, _ => none
 | k + 1, x5, x11, x12, x13 => if x13 < x12 then (if 0 ≤ x13 then (if x13 < (x11.length : Int) then (Yw.l1 k (Go.bits .xor .u32 x5 ((rd x11 x13) % 4294967296)) x11 x12 x13 0) else (none)) else (none)) else (some (Go.bits .xor .u32 4294967295 x5))
def Yw.l1 : Nat → Int → List Int → Int → Int → Int → Option (Int)
 | 0, _, _, _, _, _ => none
 | k + 1, x5, x11, x12, x13, x21 => if x21 < 8 then (if (Go.bits .and .u32 x5 1) = 1 then (Yw.l1 k (Go.bits .xor .u32 (x5 / 2) 2197175160) x11 x12 x13 (wrap64 (x21 + 1))) else (Yw.l1 k (x5 / 2) x11 x12 x13 (wrap64 (x21 + 1)))) else (Yw.l0 k x5 x11 x12 (wrap64 (x13 + 1)))
end
def Yw.f (k : Nat) (a0 : Int) (l1 : List Int) : Option (Int) := Yw.l0 k (Go.bits .xor .u32 4294967295 a0) l1 (l1.length : Int) 0
theorem Yw.mono_l : ∀ k, (∀ y0 y1 y2 y3, LeO (Yw.l0 k y0 y1 y2 y3) (Yw.l0 (k + 1) y0 y1 y2 y3)) ∧ (∀ y0 y1 y2 y3 y4, LeO (Yw.l1 k y0 y1 y2 y3 y4) (Yw.l1 (k + 1) y0 y1 y2 y3 y4))
 | 0 => ⟨fun _ _ _ _ r h => by simp [Yw.l0] at h, fun _ _ _ _ _ r h => by simp [Yw.l1] at h⟩
 | k + 1 => by
  obtain ⟨ih0, ih1⟩ := Yw.mono_l k
  refine ⟨?_, ?_⟩
  ·intro y0 y1 y2 y3
   unfold Yw.l0
   repeat' first
   | (with_reducible exact ih0 _ _ _ _)
   | (with_reducible exact ih1 _ _ _ _ _)
   | (with_reducible exact LeO.refl _)
   | (with_reducible exact LeO.none _)
   | (with_reducible refine LeO.ite ?_ ?_)
   | (with_reducible refine LeO.bind ?_ (fun _ => ?_))
  ·intro y0 y1 y2 y3 y4
   unfold Yw.l1
   repeat' first
   | (with_reducible exact ih0 _ _ _ _)
   | (with_reducible exact ih1 _ _ _ _ _)
   | (with_reducible exact LeO.refl _)
   | (with_reducible exact LeO.none _)
   | (with_reducible refine LeO.ite ?_ ?_)
   | (with_reducible refine LeO.bind ?_ (fun _ => ?_))
theorem Yw.mono : ∀ a0 a1 k, LeO (Yw.f k a0 a1) (Yw.f (k + 1) a0 a1) := by
 intro a0 a1 k
 obtain ⟨ih0, ih1⟩ := Yw.mono_l k
 unfold Yw.f
 repeat' first
   | (with_reducible exact ih0 _ _ _ _)
   | (with_reducible exact ih1 _ _ _ _ _)
   | (with_reducible exact LeO.refl _)
   | (with_reducible exact LeO.none _)
   | (with_reducible refine LeO.ite ?_ ?_)
   | (with_reducible refine LeO.bind ?_ (fun _ => ?_))
set_option maxHeartbeats 8000000 in
set_option maxRecDepth 100000 in
theorem Yw.calls (k : Nat) (a0 : Int) (A1 : Option Addr) (c1 : Nat) (l1 : List Int) (r : Int) (w : World) (hr1 : Kd.C (Kd.int .u8) w A1 l1.length l1) (hc1 : l1.length ≤ c1) (h : Yw.f k a0 l1 = some r) :
  Calls Try.prog 111 #[.int .u32 a0, .slice A1 l1.length c1] w fun e w' => e = .returned (.int .u32 r) ∧ Drawn0 w w' := by
 have HR1 := Y0.mk hr1
 have HC1 := Y0.mk hc1
 clear hr1 hc1
 have H : (Yw.l0 k (Go.bits .xor .u32 4294967295 a0) l1 (l1.length : Int) 0) = some r := h
 clear h
 have H' := Y0.mk H
 clear H
 go_enter Try.func111, Try.ntmps111
 go_wp2
 go_loopg [5, 13] k (fun kq v5 v13 w' => ∃ (x5_1 : Int) (x13_1 : Int), v5 = .int .u32 x5_1 ∧ v13 = .int .i64 x13_1 ∧ Y0 (Yw.l0 kq x5_1 l1 (l1.length : Int) x13_1 = some r) ∧ Y0 (kq ≤ k) ∧ Drawn0 w w')
 case atStart => exact ⟨(Go.bits .xor .u32 4294967295 a0), (0), reS, reS, H', ⟨Nat.le_refl _⟩, dS⟩
 case round =>
  clear H'
  try clear c1
  try clear p2
  obtain ⟨x5_1, x13_1, rfl, rfl, HA, HK1, ⟨m1, rfl⟩⟩ := hrel
  cases gk with
  | zero => exact absurd HA.out (by simp [Yw.l0])
  | succ k1 =>
   have H := HA.out
   clear HA
   simp only [Yw.l0] at H
   by_cases c3 : x13_1 < (l1.length : Int)
   ·rw [if_pos c3] at H
    have c3b0 := decide_eq_true c3
    clear c3
    obtain ⟨c4, H⟩ := iS H
    have c4b0 := decide_eq_true c4
    clear c4
    obtain ⟨c5, H⟩ := iS H
    have c5b0 := decide_eq_true c5
    clear c5
    have H' := Y0.mk H
    clear H
    have p1067 : 0 ≤ (x13_1 : Int) := of_decide_eq_true (by first | (with_reducible assumption) | assumption)
    have q1067 : x13_1 < (l1.length : Int) := of_decide_eq_true (by first | (with_reducible assumption) | assumption)
    obtain ⟨d_0, e1067, m_0⟩ := Kd.at_int HR1.out x13_1 p1067 q1067
    cases e1067
    replace p1067 := eq_true p1067
    replace q1067 := eq_true q1067
    go_wp2
    go_loopg [5, 21] k1 (fun kq v5 v21 w' => ∃ (x5_2 : Int) (x21_2 : Int), v5 = .int .u32 x5_2 ∧ v21 = .int .i64 x21_2 ∧ Y0 (Yw.l1 kq x5_2 l1 (l1.length : Int) x13_1 x21_2 = some r) ∧ Y0 (kq ≤ k1) ∧ Drawn0 w w')
    case atStart => exact ⟨(Go.bits .xor .u32 x5_1 ((rd l1 x13_1) % 4294967296)), (0), reS, reS, H', ⟨Nat.le_refl _⟩, dS⟩
    case round =>
     clear H'
     try clear c1
     try clear p1
     try clear q1
     try clear hx1
     try clear p2
     try clear c3
     try clear c3b0
     try clear c4
     try clear c4b0
     try clear c5
     try clear c5b0
     try clear m_0
     try clear p1067
     try clear p2
     try clear q1067
     obtain ⟨x5_2, x21_2, rfl, rfl, HA, HK2, ⟨m2, rfl⟩⟩ := hrel
     cases gk with
     | zero => exact absurd HA.out (by simp [Yw.l1])
     | succ k2 =>
      have H := HA.out
      clear HA
      simp only [Yw.l1] at H
      by_cases c6 : x21_2 < 8
      ·rw [if_pos c6] at H
       have c6b0 := decide_eq_true c6
       clear c6
       by_cases c7 : (Go.bits .and .u32 x5_2 1) = 1
       ·rw [if_pos c7] at H
        have c7b0 := bqT c7
        have c7b1 := bnF c7
        clear c7
        have H' := Y0.mk H
        clear H
        go_wp2
        go_roundg k2
        case measure => have := HK1.out; have := HK2.out; omega
        case rel => exact ⟨(Go.bits .xor .u32 (x5_2 / 2) 2197175160), (wrap64 (x21_2 + 1)), reS, reS, H', ⟨by have := HK1.out; have := HK2.out; omega⟩, dS⟩
       ·rw [if_neg c7] at H
        have c7b0 := bqF c7
        have c7b1 := bnT c7
        have H' := Y0.mk H
        clear H
        go_wp2
        go_roundg k2
        case measure => have := HK1.out; have := HK2.out; omega
        case rel => exact ⟨(x5_2 / 2), (wrap64 (x21_2 + 1)), reS, reS, H', ⟨by have := HK1.out; have := HK2.out; omega⟩, dS⟩
      ·rw [if_neg c6] at H
       have c6b0 := decide_eq_false c6
       clear c6
       have H' := Y0.mk H
       clear H
       go_wp2
       go_roundg k2
       case measure => have := HK1.out; have := HK2.out; omega
       case rel => exact ⟨(x5_2), (wrap64 (x13_1 + 1)), reS, reS, H', ⟨by have := HK1.out; have := HK2.out; omega⟩, dS⟩
   ·rw [if_neg c3] at H
    have c3b0 := decide_eq_false c3
    clear c3
    obtain rfl := Option.some.inj H
    go_wp2
    go_ret
    exact ⟨reS, dS⟩
def Y1H.f (k : Nat) (l0 : List Int) : Option (Int) := (Yw.f k 0 l0).bind fun t_0 => (some t_0)
theorem Y1H.mono : ∀ a0 k, LeO (Y1H.f k a0) (Y1H.f (k + 1) a0) := by
 intro a0 k
 unfold Y1H.f
 repeat' first
   | (with_reducible exact Yw.mono _ _ _)
   | (with_reducible exact LeO.refl _)
   | (with_reducible exact LeO.none _)
   | (with_reducible refine LeO.ite ?_ ?_)
   | (with_reducible refine LeO.bind ?_ (fun _ => ?_))
set_option maxHeartbeats 8000000 in
set_option maxRecDepth 100000 in
theorem Y1H.calls (k : Nat) (A0 : Option Addr) (c0 : Nat) (l0 : List Int) (r : Int) (w : World) (hr0 : Kd.C (Kd.int .u8) w A0 l0.length l0) (hc0 : l0.length ≤ c0) (h : Y1H.f k l0 = some r) :
  Calls Try.prog 112 #[.slice A0 l0.length c0] w fun e w' => e = .returned (.int .u32 r) ∧ Drawn0 w w' := by
 have HR0 := Y0.mk hr0
 have HC0 := Y0.mk hc0
 clear hr0 hc0
 have H : ((Yw.f k 0 l0).bind fun t_0 => (some t_0)) = some r := h
 clear h
 obtain ⟨t_0, A20, H⟩ := bS H
 replace H : (some t_0) = some r := H
 have A2 := Y0.mk A20
 clear A20
 obtain rfl := Option.some.inj H
 go_enter Try.func112, Try.ntmps112
 go_wp2_with (first | ((with_reducible refine Yc (f := 111) rfl ?_); refine goesA (some 4) Try.func111 #[.int .u32 0, .slice A0 l0.length c0] ?_; (with_reducible refine (Yw.calls k 0 _ _ l0 t_0 _ ?side1 ?side2 A2.out).mono ?_); (case side1 => repeat (first | exact HR0.out | (with_reducible refine Kd.C_alloc ?_ _) | (with_reducible refine Kd.C_drewN ?_ _) | (with_reducible refine Kd.C_drew ?_))); (case side2 => exact HC0.out); rintro e w' ⟨rfl, ⟨nd, rfl⟩⟩; refine ⟨_, rfl, ?_⟩))
 go_ret
 exact ⟨reS, dS⟩
def YN.l0 : Nat → List Int → List Int → Int → Int → Option (List Int × Int)
 | 0, _, _, _, _ => none
 | k + 1, x0, x4, x5, x17 => if x17 < 4 then (if 0 ≤ (wrap64 (8 * x17)) then (if x4.length < 140737488355328 then (YN.l0 k x0 (x4 ++ [(shr .u32 x5 (wrap64 (8 * x17))) % 256]) x5 (wrap64 (x17 + 1))) else (none)) else (none)) else (if x4.length + x0.length < 140737488355328 then (some ((x4 ++ x0), 0)) else (none))
def YN.f (k : Nat) (l0 : List Int) : Option (List Int × Int) := if (l0.length : Int) > 65536 then (some (([] : List Int), 3)) else ((Y16.f k ([] : List Int) (l0.length : Int)).bind fun t_1 => ((Y1H.f k t_1).bind fun t_2 => ((Yw.f k t_2 l0).bind fun t_0 => (YN.l0 k l0 t_1 t_0 0))))
theorem YN.mono_l : ∀ k, (∀ y0 y1 y2 y3, LeO (YN.l0 k y0 y1 y2 y3) (YN.l0 (k + 1) y0 y1 y2 y3))
 | 0 => fun _ _ _ _ r h => by simp [YN.l0] at h
 | k + 1 => by
  have ih0 := YN.mono_l k
  ·intro y0 y1 y2 y3
   unfold YN.l0
   repeat' first
   | (with_reducible exact ih0 _ _ _ _)
   | (with_reducible exact Yw.mono _ _ _)
   | (with_reducible exact Y1H.mono _ _)
   | (with_reducible exact Y16.mono _ _ _)
   | (with_reducible exact LeO.refl _)
   | (with_reducible exact LeO.none _)
   | (with_reducible refine LeO.ite ?_ ?_)
   | (with_reducible refine LeO.bind ?_ (fun _ => ?_))
theorem YN.mono : ∀ a0 k, LeO (YN.f k a0) (YN.f (k + 1) a0) := by
 intro a0 k
 have ih0 := YN.mono_l k
 unfold YN.f
 repeat' first
   | (with_reducible exact ih0 _ _ _ _)
   | (with_reducible exact Yw.mono _ _ _)
   | (with_reducible exact Y1H.mono _ _)
   | (with_reducible exact Y16.mono _ _ _)
   | (with_reducible exact LeO.refl _)
   | (with_reducible exact LeO.none _)
   | (with_reducible refine LeO.ite ?_ ?_)
   | (with_reducible refine LeO.bind ?_ (fun _ => ?_))
set_option maxHeartbeats 8000000 in
set_option maxRecDepth 100000 in
theorem YN.calls (k : Nat) (A0 : Option Addr) (c0 : Nat) (l0 : List Int) (r1 : List Int) (r2 : Int) (w : World) (hr0 : Kd.C (Kd.int .u8) w A0 l0.length l0) (hc0 : l0.length ≤ c0) (h : YN.f k l0 = some (r1, r2)) :
  Calls Try.prog 83 #[.slice A0 l0.length c0] w fun e w' => ∃ v0_ : Value, e = .returned (.tuple #[v0_, .int .i64 r2]) ∧ Kd.R (Kd.int .u8) 5 w' w.heap.size (fun _ => True) v0_ r1 ∧ Below w.heap.size w w' := by
 have HR0 := Y0.mk hr0
 have HC0 := Y0.mk hc0
 clear hr0 hc0
 have HB := Y0.mk (Below.refl w.heap.size w)
 have H : (if (l0.length : Int) > 65536 then (some (([] : List Int), 3)) else ((Y16.f k ([] : List Int) (l0.length : Int)).bind fun t_1 => ((Y1H.f k t_1).bind fun t_2 => ((Yw.f k t_2 l0).bind fun t_0 => (YN.l0 k l0 t_1 t_0 0))))) = some (r1, r2) := h
 clear h
 by_cases c2 : (l0.length : Int) > 65536
 ·rw [if_pos c2] at H
  have c2b0 := decide_eq_true c2
  have c2b1 : decide (65536 < l0.length) = true := decide_eq_true (by omega)
  clear c2
  simp only [Option.some.injEq, Prod.mk.injEq] at H
  obtain ⟨rfl, rfl⟩ := H
  go_enter Try.func83, Try.ntmps83
  go_wp2
  go_ret2
  exact ⟨_, reT, by first | exact Kd.R_nil _ _ _ _ _ | exact Kd.N_nil _ _ _ _ _ | exact Kd.V_nil _ _ _ _ _ | exact Kd.Q_nil _ _ _ _ _ | exact Kd.S_nil _ _ _ _ _, hU HB.out⟩
 ·rw [if_neg c2] at H
  have c2b0 := decide_eq_false c2
  have c2b1 : decide (65536 < l0.length) = false := decide_eq_false (by omega)
  clear c2
  obtain ⟨t_1, A30, H⟩ := bS H
  replace H : ((Y1H.f k t_1).bind fun t_2 => ((Yw.f k t_2 l0).bind fun t_0 => (YN.l0 k l0 t_1 t_0 0))) = some (r1, r2) := H
  have A3 := Y0.mk A30
  clear A30
  obtain ⟨t_2, A40, H⟩ := bS H
  replace H : ((Yw.f k t_2 l0).bind fun t_0 => (YN.l0 k l0 t_1 t_0 0)) = some (r1, r2) := H
  have A4 := Y0.mk A40
  clear A40
  obtain ⟨t_0, A50, H⟩ := bS H
  replace H : (YN.l0 k l0 t_1 t_0 0) = some (r1, r2) := H
  have A5 := Y0.mk A50
  clear A50
  have H' := Y0.mk H
  clear H
  go_enter Try.func83, Try.ntmps83
  go_wp2_with (first | ((with_reducible refine Yc (f := 110) rfl ?_); refine goesA (some 12) Try.func110 #[.slice none 0 0, .int .i64 (l0.length : Int)] ?_; (refine (Y16.calls k _ _ ([] : List Int) (l0.length : Int) t_1 _ ?side1 ?side2 A3.out).mono ?_); (case side1 => exact Kd.C_nil _ _); (case side2 => exact Nat.le_refl _); rintro e w6 ⟨v_1, rfl, ho0, hb⟩; refine ⟨_, rfl, ?_⟩; replace O_0 := Y0.mk (Kd.R_lower ho0 (Yf (hU HB.out))); replace HB := Y0.mk (Y3 (hU HB.out) hb); (try clear hb); (try clear hb2); (try clear hk); (try clear hi); (try clear ho0); obtain ⟨Ao7, co7, eo7⟩ := Kd.R_slice O_0.out; subst eo7) | ((with_reducible refine Yc (f := 112) rfl ?_); refine goesA (some 14) Try.func112 #[.slice Ao7 t_1.length co7] ?_; (with_reducible refine (Y1H.calls k _ _ t_1 t_2 _ ?side1 ?side2 A4.out).mono ?_); (case side1 => repeat (first | exact (Kd.R_reads' O_0.out).2.2 | (with_reducible refine Kd.C_alloc ?_ _) | (with_reducible refine Kd.C_drewN ?_ _) | (with_reducible refine Kd.C_drew ?_))); (case side2 => exact (Kd.R_reads' O_0.out).2.1); rintro e w' ⟨rfl, ⟨nd, rfl⟩⟩; refine ⟨_, rfl, ?_⟩) | ((with_reducible refine Yc (f := 111) rfl ?_); refine goesA (some 16) Try.func111 #[.int .u32 t_2, .slice A0 l0.length c0] ?_; (with_reducible refine (Yw.calls k t_2 _ _ l0 t_0 _ ?side1 ?side2 A5.out).mono ?_); (case side1 => repeat (first | exact (Kd.C_below HR0.out (hU HB.out)) | (with_reducible refine Kd.C_alloc ?_ _) | (with_reducible refine Kd.C_drewN ?_ _) | (with_reducible refine Kd.C_drew ?_))); (case side2 => exact HC0.out); rintro e w' ⟨rfl, ⟨nd, rfl⟩⟩; refine ⟨_, rfl, ?_⟩))
  go_loopg [4, 17] k (fun kq v4 v17 w' => ∃ (x4_1 : List Int) (x17_1 : Int), v17 = .int .i64 x17_1 ∧ Y0 (YN.l0 kq l0 x4_1 t_0 x17_1 = some (r1, r2)) ∧ Y0 (kq ≤ k) ∧ Y0 (Kd.R (Kd.int .u8) 5 w' w.heap.size (fun _ => True) v4 x4_1) ∧ Y0 (Below w.heap.size w w'))
  case atStart => exact ⟨(t_1), (0), reS, H', ⟨Nat.le_refl _⟩, ⟨by (with_reducible repeat (first | apply Kd.R_alloc | apply Kd.R_drewN | apply Kd.R_drew)); exact O_0.out⟩, ⟨hU HB.out⟩⟩
  case round =>
   clear H'
   try clear c1
   try clear c2
   try clear c2b0
   try clear c2b1
   try clear p2
   obtain ⟨x4_1, x17_1, rfl, HA, HK1, HO_4, HB⟩ := hrel
   cases gk with
   | zero => exact absurd HA.out (by simp [YN.l0])
   | succ k1 =>
    have H := HA.out
    clear HA
    simp only [YN.l0] at H
    by_cases c8 : x17_1 < 4
    ·rw [if_pos c8] at H
     have c8b0 := decide_eq_true c8
     clear c8
     obtain ⟨ji9, hji9⟩ : ∃ j_ : Int, (wrap64 (8 * x17_1)) = j_ := ⟨_, rfl⟩
     replace H : (if 0 ≤ (ji9) then (if x4_1.length < 140737488355328 then (YN.l0 k1 l0 (x4_1 ++ [(shr .u32 t_0 (ji9)) % 256]) t_0 (wrap64 (x17_1 + 1))) else (none)) else (none)) = some (r1, r2) := by first | (rw [hji9] at H; exact H) | (simp only [hji9] at H ⊢; exact H)
     have hji9w : (IntKind.i64.wrap (8 * x17_1)) = ji9 := (i64_w _).trans hji9
     obtain ⟨c10, H⟩ := iS H
     have c10b0 := eq_true c10
     have c10b1 := decide_eq_true c10
     clear c10
     obtain ⟨ji11, hji11⟩ : ∃ j_ : Int, (shr .u32 t_0 (ji9)) = j_ := ⟨_, rfl⟩
     replace H : (if x4_1.length < 140737488355328 then (YN.l0 k1 l0 (x4_1 ++ [(ji11) % 256]) t_0 (wrap64 (x17_1 + 1))) else (none)) = some (r1, r2) := by first | (rw [hji11] at H; exact H) | (simp only [hji11] at H ⊢; exact H)
     have hji11_ : (t_0 / 2 ^ min (ji9).toNat 32) = ji11 := hji11
     have hji11z : (ji9) ≤ 32 → (t_0 / 2 ^ (ji9).toNat) = ji11 := Y5n hji11
     obtain ⟨c12, H⟩ := iS H
     have LMc12 := Y0.mk c12
     clear c12
     obtain ⟨y1074, hy1074⟩ : ∃ y_ : List Int, y_ = (x4_1 ++ [(ji11) % 256]) := ⟨_, rfl⟩
     replace H : (YN.l0 k1 l0 y1074 t_0 (wrap64 (x17_1 + 1))) = some (r1, r2) := by first | (rw [hy1074]; with_reducible exact H) | (have H2_ := (Option.bind_some _ _).symm.trans H; rw [hy1074]; with_reducible exact H2_) | (have H2_ := (Option.bind_some _ _).symm.trans H; with_reducible exact H2_) | with_reducible exact H | (rw [hy1074]; exact H) | exact H
     have Ny1074 := Y0.mk hy1074
     clear hy1074
     have H' := Y0.mk H
     clear H
     go_wp2_with (first | ((with_reducible refine Y1b (b := .append) (xs := #[.tmp 20, .tmp 26]) rfl ?_); at_builtin; refine Kd.R_append (Kd.int .u8) (w0 := w) w.heap.size rfl (.tmp 20) (.tmp 26) 60 5 (.int .u8 0) 1 rfl Try.underlying60 info5 rfl (by decide) (by omega) u4 x4_1 ((ji11) % 256) [.int .u8 ((ji11) % 256)] (fun _ => True) (fun _ => False) rfl rfl ?aP (fun _ hk => hk.elim) ?aF ?aO ?aB ?aS ?aL ?_; (case aP => exact rfl); (case aB => exact (hU HB.out)); (case aF => exact (fun _ _ => trivial)); (case aO => exact (Kd.rU HO_4.out)); (case aS => exact (Yf (hU HB.out))); (case aL => have := LMc12.out; omega); intro v_2 w13 ho hb hg hat; rw [← Ny1074.out] at ho; have n0_ := Y0.mk (hb); have n1_ := Y0.mk (ho); clear HB; clear HO_4; have HB := n0_; have O_1 := n1_; clear n0_ n1_; clear ho hb hg hat))
     go_roundg k1
     case measure => have := HK1.out; omega
     case rel => exact ⟨(y1074), (wrap64 (x17_1 + 1)), reS, H', ⟨by have := HK1.out; omega⟩, ⟨by (with_reducible repeat (first | apply Kd.R_alloc | apply Kd.R_drewN | apply Kd.R_drew)); exact O_1.out⟩, ⟨hU HB.out⟩⟩
    ·rw [if_neg c8] at H
     have c8b0 := decide_eq_false c8
     clear c8
     by_cases c14 : x4_1.length + l0.length < 140737488355328
     rotate_left
     ·rw [if_neg c14] at H
      exact absurd H (by simp)
     rw [if_pos c14] at H
     have LMc14 := Y0.mk c14
     clear c14
     obtain ⟨y1077, hy1077⟩ : ∃ y_ : List Int, y_ = (x4_1 ++ l0) := ⟨_, rfl⟩
     replace H : (some (y1077, 0)) = some (r1, r2) := by first | (rw [hy1077]; with_reducible exact H) | (have H2_ := (Option.bind_some _ _).symm.trans H; rw [hy1077]; with_reducible exact H2_) | (have H2_ := (Option.bind_some _ _).symm.trans H; with_reducible exact H2_) | with_reducible exact H | (rw [hy1077]; exact H) | exact H
     have Ny1077 := Y0.mk hy1077
     clear hy1077
     simp only [Option.some.injEq, Prod.mk.injEq] at H
     obtain ⟨rfl, rfl⟩ := H
     go_wp2_with (first | ((with_reducible refine Y1b (b := .append) (xs := #[.tmp 29, .tmp 30]) rfl ?_); at_builtin; refine Kd.R_append_rows (Kd.int .u8) (w0 := w) w.heap.size rfl (.tmp 29) (.tmp 30) 60 5 (.int .u8 0) 1 rfl Try.underlying60 info5 rfl (by decide) (by omega) u4 x4_1 l0 _ _ _ (fun _ => True) (fun _ => False) rfl rfl ?aO ?aR (fun _ _ h => h) (fun _ h => h.elim) ?aF ?aB ?aS ?aL ?_; (case aR => repeat (first | exact (Kd.C_below HR0.out HB.out) | (with_reducible refine Kd.C_alloc ?_ _) | (with_reducible refine Kd.C_drewN ?_ _) | (with_reducible refine Kd.C_drew ?_))); (case aB => exact (hU HB.out)); (case aF => exact (fun _ _ => trivial)); (case aO => exact (Kd.rU HO_4.out)); (case aS => exact (Yf (hU HB.out))); (case aL => have := LMc14.out; omega); intro v_0 w15 ho hb hg hat; rw [← Ny1077.out] at ho; have n0_ := Y0.mk (hb); have n1_ := Y0.mk (ho); clear HB; clear HO_4; have HB := n0_; have O_2 := n1_; clear n0_ n1_; clear ho hb hg hat))
     go_ret2
     exact ⟨_, reT, by (with_reducible repeat (first | apply Kd.R_alloc | apply Kd.R_drewN | apply Kd.R_drew)); exact O_2.out, hU HB.out⟩
end Go.Proofs.Yteopkkoblbmggaa.P
end
section
set_option linter.unusedVariables false
set_option linter.unusedSimpArgs false
namespace Go.Proofs.Yteopkkoblbmggaa.P
open Go.RowKit Go.Proofs.YteopkkoblbmggaaW.PrintWords Go.Proofs.YteopkkoblbmggaaW.PrintLast Go.Proofs.YteopkkoblbmggaaW.PrintMore
theorem Y6d (w : World) (t e : TypeId) (a : Option Addr) (l c : Nat) (h : Try.prog.underlying t = some (.slice e)) : (binOp .eql t (.slice a l c) (.slice none 0 0)).run Try.prog w = .ok (.bool a.isNone) w := by
  simp only [binOp]
  simp [run_equal_slice_nil w t e a l c h]
def slices_Clone_byte_byte.f (l0 : List Int) : Option (List Int) := if l0.length ≤ 1000000000000 then some l0 else none
set_option maxHeartbeats 4000000 in
set_option maxRecDepth 100000 in
theorem slices_Clone_byte_byte.calls (A0 : Option Addr) (c0 : Nat) (l0 r : List Int) (w : World) (hr0 : Kd.C (Kd.int .u8) w A0 l0.length l0) (hc0 : l0.length ≤ c0) (h : slices_Clone_byte_byte.f l0 = some r) :
    Calls Try.prog 84 #[.slice A0 l0.length c0] w fun e w' => ∃ v_ : Value, e = .returned v_ ∧ Kd.R (Kd.int .u8) 5 w' w.heap.size (fun _ => True) v_ r ∧ Below w.heap.size w w' := by
  unfold slices_Clone_byte_byte.f at h
  by_cases hl : l0.length ≤ 1000000000000
  rotate_left
  · rw [if_neg hl] at h; cases h
  rw [if_pos hl] at h
  cases h
  have HR := Y0.mk hr0
  have HL := Y0.mk hl
  have HB := Y0.mk (Below.refl w.heap.size w)
  have hus := Try.underlying60
  have hen := fun (w : World) (a : Option Addr) (l c : Nat) => Y6d w _ _ a l c hus
  clear hl
  cases A0 with
  | none =>
    have hn : l0 = [] := by
      rcases Nat.eq_zero_or_pos l0.length with h0 | h0
      · exact List.length_eq_zero_iff.mp h0
      · obtain ⟨ad, e, _⟩ := hr0.2.2 h0
        cases e
    subst hn
    clear hr0
    go_enter Try.func84, Try.ntmps84
    go_wp2
    go_ret
    exact ⟨_, rfl, Kd.R_nil _ _ _ _ _, HB.out⟩
  | some ad =>
    clear hr0
    go_enter Try.func84, Try.ntmps84
    go_wp2_with (first | ((with_reducible refine Ye (N := 5) rfl ?_); refine Kd.R_lit (Kd.int .u8) (w0 := w) w.heap.size 5 ?hg (N := 5) ?hd (xs := []) (inner := []) (ok := fun _ => True) (okp := fun _ => True) ?hr (Reps.none _ _) (fun _ hk => hk) trivial HB.out (Nat.le_refl _) (by simp) ?_; (case hd => rfl); (case hg => rfl); (case hr => first | (go_simp; done) | (go_simp; rfl)); intro v1 w1 ho hb hg_ hnew_; have HO := Y0.mk ho; have HB1 := Y0.mk hb; clear ho hb hg_ hnew_) | ((with_reducible refine Ye (N := 7) rfl ?_); at_builtin; refine Kd.R_append_rows (Kd.int .u8) (w0 := w) w.heap.size rfl (.tmp 5) (.tmp 6) 60 5 (.int .u8 0) 1 rfl Try.underlying60 info5 rfl (by decide) (by omega) v1 [] l0 (some ad) l0.length c0 (fun _ => True) (fun _ => False) rfl rfl HO.out (Kd.C_below HR.out HB1.out) (fun _ _ h => h) (fun _ h => h.elim) (fun _ _ => trivial) HB1.out (Yf HB1.out) (by have := HL.out; simp; omega) ?_; intro v2 w2 ho hb hg_ hnew_; have HO2 := Y0.mk ho; have HB2 := Y0.mk hb; clear ho hb hg_ hnew_))
    go_ret
    exact ⟨_, rfl, by have h_ := HO2.out; rw [List.nil_append] at h_; exact h_, HB2.out⟩
end Go.Proofs.Yteopkkoblbmggaa.P
end
