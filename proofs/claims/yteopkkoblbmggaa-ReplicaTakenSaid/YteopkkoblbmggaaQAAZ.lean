/- Texts of this claim in one: VP60, VP61; no condition. -/
import Derived.Test.YteopkkoblbmggaaQAAC
import Derived.Test.YteopkkoblbmggaaQAAE
import Derived.Test.YteopkkoblbmggaaQAAY
section
namespace Go.Proofs.Yteopkkoblbmggaa.P
open Go.RowKit Go.Proofs.YteopkkoblbmggaaW.PrintWords Go.Proofs.YteopkkoblbmggaaW.PrintLast Go.Proofs.YteopkkoblbmggaaW.PrintMore
attribute [local go_sem] YR YT Y11 Y12 YI YJ YS YU
set_option linter.unusedVariables false
set_option linter.unusedSimpArgs false
def Y1q.f (k : Nat) (l0 : List Int) (a1_0 : Int) (a1_1 : Int) (a1_2 : Int) (a1_3 : Int) (a1_4 : Int) (a1_5 : Bool) (a1_6 : Int) (a1_7 : Int) (a1_8 : Int) (a1_9 : Int) (a1_10 : Int) (a1_11 : Int) (a1_12 : Int) : Option (List Int × Int) := (Y1p.f k a1_0 a1_1 a1_2 a1_3 a1_4 a1_5 a1_6 a1_7 a1_8 a1_9 a1_10 a1_11 a1_12).bind fun b_1 => (if b_1.2 = 0 then ((YN.f k b_1.1).bind fun b_0 => (if b_0.2 = 0 then ((slices_Clone_byte_byte.f l0).bind fun t_0 => (if t_0.length + b_0.1.length < 140737488355328 then (some ((t_0 ++ b_0.1), 0)) else (none))) else (some (([] : List Int), b_0.2)))) else (some (([] : List Int), b_1.2)))
theorem Y1q.mono : ∀ a0 a1 a2 a3 a4 a5 a6 a7 a8 a9 a10 a11 a12 a13 k, LeO (Y1q.f k a0 a1 a2 a3 a4 a5 a6 a7 a8 a9 a10 a11 a12 a13) (Y1q.f (k + 1) a0 a1 a2 a3 a4 a5 a6 a7 a8 a9 a10 a11 a12 a13) := by
 intro a0 a1 a2 a3 a4 a5 a6 a7 a8 a9 a10 a11 a12 a13 k
 unfold Y1q.f
 repeat' first
   | (with_reducible exact YN.mono _ _)
   | (with_reducible exact Y1p.mono _ _ _ _ _ _ _ _ _ _ _ _ _ _)
   | (with_reducible exact LeO.refl _)
   | (with_reducible exact LeO.none _)
   | (with_reducible refine LeO.ite ?_ ?_)
   | (with_reducible refine LeO.bind ?_ (fun _ => ?_))
set_option maxHeartbeats 8000000 in
set_option maxRecDepth 100000 in
theorem Y1q.calls (k : Nat) (A0 : Option Addr) (c0 : Nat) (l0 : List Int) (a1_0 : Int) (a1_1 : Int) (a1_2 : Int) (a1_3 : Int) (a1_4 : Int) (a1_5 : Bool) (a1_6 : Int) (a1_7 : Int) (a1_8 : Int) (a1_9 : Int) (a1_10 : Int) (a1_11 : Int) (a1_12 : Int) (r1 : List Int) (r2 : Int) (w : World) (hr0 : Kd.C (Kd.int .u8) w A0 l0.length l0) (hc0 : l0.length ≤ c0) (h : Y1q.f k l0 a1_0 a1_1 a1_2 a1_3 a1_4 a1_5 a1_6 a1_7 a1_8 a1_9 a1_10 a1_11 a1_12 = some (r1, r2)) :
  Calls Try.prog 38 #[.slice A0 l0.length c0, .agg #[.int .i64 a1_0, .int .i64 a1_1, .int .i64 a1_2, .int .i64 a1_3, .int .i64 a1_4, .bool a1_5, .int .i64 a1_6, .int .i64 a1_7, .int .i64 a1_8, .int .i64 a1_9, .int .i64 a1_10, .int .i64 a1_11, .int .i64 a1_12]] w fun e w' => ∃ v0_ : Value, e = .returned (.tuple #[v0_, .int .i64 r2]) ∧ Kd.R (Kd.int .u8) 5 w' w.heap.size (fun _ => True) v0_ r1 ∧ Below w.heap.size w w' := by
 have hu30 := Try.underlying30
 have HR0 := Y0.mk hr0
 have HC0 := Y0.mk hc0
 clear hr0 hc0
 have HB := Y0.mk (Below.refl w.heap.size w)
 have H : ((Y1p.f k a1_0 a1_1 a1_2 a1_3 a1_4 a1_5 a1_6 a1_7 a1_8 a1_9 a1_10 a1_11 a1_12).bind fun b_1 => (if b_1.2 = 0 then ((YN.f k b_1.1).bind fun b_0 => (if b_0.2 = 0 then ((slices_Clone_byte_byte.f l0).bind fun t_0 => (if t_0.length + b_0.1.length < 140737488355328 then (some ((t_0 ++ b_0.1), 0)) else (none))) else (some (([] : List Int), b_0.2)))) else (some (([] : List Int), b_1.2)))) = some (r1, r2) := h
 clear h
 obtain ⟨⟨t_2, t_3⟩, A30, H⟩ := bS H
 try dsimp only at H
 have A3 := Y0.mk A30
 clear A30
 by_cases c4 : t_3 = 0
 ·rw [if_pos c4] at H
  have c4b0 := bqT c4
  have c4b1 := bnF c4
  clear c4
  obtain ⟨⟨t_1, t_4⟩, A50, H⟩ := bS H
  try dsimp only at H
  have A5 := Y0.mk A50
  clear A50
  by_cases c6 : t_4 = 0
  ·rw [if_pos c6] at H
   have c6b0 := bqT c6
   have c6b1 := bnF c6
   clear c6
   obtain ⟨t_0, A70, H⟩ := bS H
   replace H : (if t_0.length + t_1.length < 140737488355328 then (some ((t_0 ++ t_1), 0)) else (none)) = some (r1, r2) := H
   have A7 := Y0.mk A70
   clear A70
   obtain ⟨c8, H⟩ := iS H
   have LMc8 := Y0.mk c8
   clear c8
   obtain ⟨y1092, hy1092⟩ : ∃ y_ : List Int, y_ = (t_0 ++ t_1) := ⟨_, rfl⟩
   replace H : (some (y1092, 0)) = some (r1, r2) := by first | (rw [hy1092]; with_reducible exact H) | (have H2_ := (Option.bind_some _ _).symm.trans H; rw [hy1092]; with_reducible exact H2_) | (have H2_ := (Option.bind_some _ _).symm.trans H; with_reducible exact H2_) | with_reducible exact H | (rw [hy1092]; exact H) | exact H
   have Ny1092 := Y0.mk hy1092
   clear hy1092
   simp only [Option.some.injEq, Prod.mk.injEq] at H
   obtain ⟨rfl, rfl⟩ := H
   go_enter Try.func38, Try.ntmps38
   go_wp2_with (first | ((with_reducible refine Ye (N := 3) rfl ?_); refine Yh ?hg (N := 3) ?hd (cs := #[.int .i64 a1_0, .int .i64 a1_1, .int .i64 a1_2, .int .i64 a1_3, .int .i64 a1_4, .bool a1_5, .int .i64 a1_6, .int .i64 a1_7, .int .i64 a1_8, .int .i64 a1_9, .int .i64 a1_10, .int .i64 a1_11, .int .i64 a1_12]) (t := 30) ?hr ?_; (case hd => rfl); (case hg => rfl); (case hr => first | (go_simp; done) | (go_simp; rfl)); intro g_0 hg w9 hbox hb; have n0_ := Y0.mk (Y3 (hU HB.out) hb); have n1_ := Y0.mk (hbox); have n2_ := gE hg HB; have n3_ := gE hg HB; clear HB; have HB := n0_; have B_0 := n1_; have W_0 := n2_; have G_0 := n3_; clear n0_ n1_ n2_ n3_; clear hb hbox hg; have z_0 := Y2 B_0.out; have f_1 := Y7 B_0.out) | ((with_reducible refine Yc (f := 82) rfl ?_); refine goesA (some 11) Try.func82 #[.agg #[.int .i64 a1_0, .int .i64 a1_1, .int .i64 a1_2, .int .i64 a1_3, .int .i64 a1_4, .bool a1_5, .int .i64 a1_6, .int .i64 a1_7, .int .i64 a1_8, .int .i64 a1_9, .int .i64 a1_10, .int .i64 a1_11, .int .i64 a1_12]] ?_; (with_reducible refine (Y1p.calls k a1_0 a1_1 a1_2 a1_3 a1_4 a1_5 a1_6 a1_7 a1_8 a1_9 a1_10 a1_11 a1_12 t_2 t_3 _ A3.out).mono ?_); rintro e w11 ⟨v_0, rfl, ho0, hb⟩; refine ⟨_, rfl, ?_⟩; replace O_0 := Y0.mk (Kd.V_lower (Kd.V_mono (ok' := fun k_ => k_ ≠ g_0) ho0 (fun k_ hk_ => (Kd.freshB (bU B_0.out) k_ hk_))) (Yf (hU HB.out))); replace B_0 := Y0.mk (Y1 (bU B_0.out) hb); replace HB := Y0.mk (Y3 (hU HB.out) hb); (try clear hb); (try clear hb2); (try clear hk); (try clear hi); (try clear ho0); obtain ⟨Ao12, co12, eo12⟩ := Kd.V_slice O_0.out; subst eo12) | ((with_reducible refine Yc (f := 83) rfl ?_); refine goesA (some 19) Try.func83 #[.slice Ao12 t_2.length co12] ?_; (with_reducible refine (YN.calls k _ _ t_2 t_1 t_4 _ ?side1 ?side2 A5.out).mono ?_); (case side1 => repeat (first | exact (Kd.V_reads' O_0.out).2.2 | (with_reducible refine Kd.C_alloc ?_ _) | (with_reducible refine Kd.C_drewN ?_ _) | (with_reducible refine Kd.C_drew ?_))); (case side2 => exact (Kd.V_reads' O_0.out).2.1); rintro e w13 ⟨v_1, rfl, ho0, hb⟩; refine ⟨_, rfl, ?_⟩; replace O_0 := Y0.mk (Kd.V_elder' (Kd.vU O_0.out) (Kd.R_base ho0) hb); replace O_1 := Y0.mk (Kd.R_lower ho0 (Yf (hU HB.out))); replace B_0 := Y0.mk (Y1 (bU B_0.out) hb); replace HB := Y0.mk (Y3 (hU HB.out) hb); (try clear hb); (try clear hb2); (try clear hk); (try clear hi); (try clear ho0)) | ((with_reducible refine Yc (f := 84) rfl ?_); refine goesA (some 26) Try.func84 #[.slice A0 l0.length c0] ?_; (with_reducible refine (slices_Clone_byte_byte.calls _ _ l0 t_0 _ ?side1 ?side2 A7.out).mono ?_); (case side1 => repeat (first | exact (Kd.C_below HR0.out HB.out) | (with_reducible refine Kd.C_alloc ?_ _) | (with_reducible refine Kd.C_drewN ?_ _) | (with_reducible refine Kd.C_drew ?_))); (case side2 => exact HC0.out); rintro e w14 ⟨v_2, rfl, ho0, hb⟩; refine ⟨_, rfl, ?_⟩; replace O_0 := Y0.mk (Kd.V_elder' (Kd.vU O_0.out) (Kd.R_base ho0) hb); replace O_2 := Y0.mk (Kd.R_lower (Kd.R_new' ho0 (Kd.R_lt (Kd.rU O_1.out))) (Yf (hU HB.out))); replace O_1 := Y0.mk (Kd.R_elder' (Kd.rU O_1.out) (Kd.R_base ho0) hb); replace B_0 := Y0.mk (Y1 (bU B_0.out) hb); replace HB := Y0.mk (Y3 (hU HB.out) hb); (try clear hb); (try clear hb2); (try clear hk); (try clear hi); (try clear ho0); obtain ⟨Ao16, co16, eo16⟩ := Kd.R_slice O_1.out; subst eo16) | ((with_reducible refine Y1b (b := .append) (xs := #[.tmp 26, .tmp 27]) rfl ?_); at_builtin; refine Kd.R_append_rows (Kd.int .u8) (w0 := w) w.heap.size rfl (.tmp 26) (.tmp 27) 60 5 (.int .u8 0) 1 rfl Try.underlying60 info5 rfl (by decide) (by omega) v_2 t_0 t_1 _ _ _ (fun k_ => some k_ ≠ (.slice Ao16 t_1.length co16 : Value).ownBlock) (fun _ => False) rfl rfl ?aO ?aR (fun _ _ h => h) (fun _ h => h.elim) ?aF ?aB ?aS ?aL ?_; (case aR => repeat (first | exact (Kd.R_reads' O_1.out).2.2 | (with_reducible refine Kd.C_alloc ?_ _) | (with_reducible refine Kd.C_drewN ?_ _) | (with_reducible refine Kd.C_drew ?_))); (case aB => exact (hU HB.out)); (case aF => exact (fun k_ hk => Kd.fresh' (Kd.R_lt (Kd.rU O_1.out)) k_ hk)); (case aO => exact (by (with_reducible repeat (first | apply Kd.R_alloc | apply Kd.R_drewN | apply Kd.R_drew)); exact Kd.R_mono O_2.out (fun _ hk => hk.2))); (case aS => exact (Yf (hU HB.out))); (case aL => have := LMc8.out; omega); intro v_3 w15 ho hb hg hat; rw [← Ny1092.out] at ho; have n0_ := Y0.mk (Y1e (bU B_0.out) hg (Kd.R_ne O_2.out B_0.out (by decide))); have n1_ := Y0.mk (Kd.V_afterv (ok := (fun k_ => some k_ ≠ (.slice Ao16 t_1.length co16 : Value).ownBlock ∧ k_ ≠ g_0)) (by (with_reducible repeat (first | apply Kd.V_alloc | apply Kd.V_drewN | apply Kd.V_drew)); exact Kd.V_mono O_0.out (fun _ hk => ⟨⟨hk.1.2, hk.1.1⟩, hk.2⟩)) hg hat); have n2_ := Y0.mk (Kd.R_after (ok := (fun _ => True)) (Kd.rU O_1.out) hg hat); have n3_ := Y0.mk (hb); have n4_ := Y0.mk (ho); clear B_0; clear O_0; clear O_1; clear HB; clear O_2; have B_0 := n0_; have O_0 := n1_; have O_1 := n2_; have HB := n3_; have O_3 := n4_; clear n0_ n1_ n2_ n3_ n4_; clear ho hb hg hat))
   go_ret2
   exact ⟨_, reT, by (with_reducible repeat (first | apply Kd.R_alloc | apply Kd.R_drewN | apply Kd.R_drew)); exact Kd.R_mono O_3.out (fun _ hk => trivial), hU HB.out⟩
  ·rw [if_neg c6] at H
   have c6b0 := bqF c6
   have c6b1 := bnT c6
   simp only [Option.some.injEq, Prod.mk.injEq] at H
   obtain ⟨rfl, rfl⟩ := H
   go_enter Try.func38, Try.ntmps38
   go_wp2_with (first | ((with_reducible refine Ye (N := 3) rfl ?_); refine Yh ?hg (N := 3) ?hd (cs := #[.int .i64 a1_0, .int .i64 a1_1, .int .i64 a1_2, .int .i64 a1_3, .int .i64 a1_4, .bool a1_5, .int .i64 a1_6, .int .i64 a1_7, .int .i64 a1_8, .int .i64 a1_9, .int .i64 a1_10, .int .i64 a1_11, .int .i64 a1_12]) (t := 30) ?hr ?_; (case hd => rfl); (case hg => rfl); (case hr => first | (go_simp; done) | (go_simp; rfl)); intro g_0 hg w17 hbox hb; have n0_ := Y0.mk (Y3 (hU HB.out) hb); have n1_ := Y0.mk (hbox); have n2_ := gE hg HB; have n3_ := gE hg HB; clear HB; have HB := n0_; have B_0 := n1_; have W_0 := n2_; have G_0 := n3_; clear n0_ n1_ n2_ n3_; clear hb hbox hg; have z_1 := Y2 B_0.out; have f_2 := Y7 B_0.out) | ((with_reducible refine Yc (f := 82) rfl ?_); refine goesA (some 11) Try.func82 #[.agg #[.int .i64 a1_0, .int .i64 a1_1, .int .i64 a1_2, .int .i64 a1_3, .int .i64 a1_4, .bool a1_5, .int .i64 a1_6, .int .i64 a1_7, .int .i64 a1_8, .int .i64 a1_9, .int .i64 a1_10, .int .i64 a1_11, .int .i64 a1_12]] ?_; (with_reducible refine (Y1p.calls k a1_0 a1_1 a1_2 a1_3 a1_4 a1_5 a1_6 a1_7 a1_8 a1_9 a1_10 a1_11 a1_12 t_2 t_3 _ A3.out).mono ?_); rintro e w19 ⟨v_0, rfl, ho0, hb⟩; refine ⟨_, rfl, ?_⟩; replace O_0 := Y0.mk (Kd.V_lower (Kd.V_mono (ok' := fun k_ => k_ ≠ g_0) ho0 (fun k_ hk_ => (Kd.freshB (bU B_0.out) k_ hk_))) (Yf (hU HB.out))); replace B_0 := Y0.mk (Y1 (bU B_0.out) hb); replace HB := Y0.mk (Y3 (hU HB.out) hb); (try clear hb); (try clear hb2); (try clear hk); (try clear hi); (try clear ho0); obtain ⟨Ao20, co20, eo20⟩ := Kd.V_slice O_0.out; subst eo20) | ((with_reducible refine Yc (f := 83) rfl ?_); refine goesA (some 19) Try.func83 #[.slice Ao20 t_2.length co20] ?_; (with_reducible refine (YN.calls k _ _ t_2 t_1 t_4 _ ?side1 ?side2 A5.out).mono ?_); (case side1 => repeat (first | exact (Kd.V_reads' O_0.out).2.2 | (with_reducible refine Kd.C_alloc ?_ _) | (with_reducible refine Kd.C_drewN ?_ _) | (with_reducible refine Kd.C_drew ?_))); (case side2 => exact (Kd.V_reads' O_0.out).2.1); rintro e w21 ⟨v_1, rfl, ho0, hb⟩; refine ⟨_, rfl, ?_⟩; replace O_0 := Y0.mk (Kd.V_elder' (Kd.vU O_0.out) (Kd.R_base ho0) hb); replace O_1 := Y0.mk (Kd.R_lower ho0 (Yf (hU HB.out))); replace B_0 := Y0.mk (Y1 (bU B_0.out) hb); replace HB := Y0.mk (Y3 (hU HB.out) hb); (try clear hb); (try clear hb2); (try clear hk); (try clear hi); (try clear ho0)))
   go_ret2
   exact ⟨_, reT, by first | exact Kd.R_nil _ _ _ _ _ | exact Kd.N_nil _ _ _ _ _ | exact Kd.V_nil _ _ _ _ _ | exact Kd.Q_nil _ _ _ _ _ | exact Kd.S_nil _ _ _ _ _, hU HB.out⟩
 ·rw [if_neg c4] at H
  have c4b0 := bqF c4
  have c4b1 := bnT c4
  simp only [Option.some.injEq, Prod.mk.injEq] at H
  obtain ⟨rfl, rfl⟩ := H
  go_enter Try.func38, Try.ntmps38
  go_wp2_with (first | ((with_reducible refine Ye (N := 3) rfl ?_); refine Yh ?hg (N := 3) ?hd (cs := #[.int .i64 a1_0, .int .i64 a1_1, .int .i64 a1_2, .int .i64 a1_3, .int .i64 a1_4, .bool a1_5, .int .i64 a1_6, .int .i64 a1_7, .int .i64 a1_8, .int .i64 a1_9, .int .i64 a1_10, .int .i64 a1_11, .int .i64 a1_12]) (t := 30) ?hr ?_; (case hd => rfl); (case hg => rfl); (case hr => first | (go_simp; done) | (go_simp; rfl)); intro g_0 hg w22 hbox hb; have n0_ := Y0.mk (Y3 (hU HB.out) hb); have n1_ := Y0.mk (hbox); have n2_ := gE hg HB; have n3_ := gE hg HB; clear HB; have HB := n0_; have B_0 := n1_; have W_0 := n2_; have G_0 := n3_; clear n0_ n1_ n2_ n3_; clear hb hbox hg; have z_2 := Y2 B_0.out; have f_0 := Y7 B_0.out) | ((with_reducible refine Yc (f := 82) rfl ?_); refine goesA (some 11) Try.func82 #[.agg #[.int .i64 a1_0, .int .i64 a1_1, .int .i64 a1_2, .int .i64 a1_3, .int .i64 a1_4, .bool a1_5, .int .i64 a1_6, .int .i64 a1_7, .int .i64 a1_8, .int .i64 a1_9, .int .i64 a1_10, .int .i64 a1_11, .int .i64 a1_12]] ?_; (with_reducible refine (Y1p.calls k a1_0 a1_1 a1_2 a1_3 a1_4 a1_5 a1_6 a1_7 a1_8 a1_9 a1_10 a1_11 a1_12 t_2 t_3 _ A3.out).mono ?_); rintro e w24 ⟨v_0, rfl, ho0, hb⟩; refine ⟨_, rfl, ?_⟩; replace O_0 := Y0.mk (Kd.V_lower (Kd.V_mono (ok' := fun k_ => k_ ≠ g_0) ho0 (fun k_ hk_ => (Kd.freshB (bU B_0.out) k_ hk_))) (Yf (hU HB.out))); replace B_0 := Y0.mk (Y1 (bU B_0.out) hb); replace HB := Y0.mk (Y3 (hU HB.out) hb); (try clear hb); (try clear hb2); (try clear hk); (try clear hi); (try clear ho0)))
  go_ret2
  exact ⟨_, reT, by first | exact Kd.R_nil _ _ _ _ _ | exact Kd.N_nil _ _ _ _ _ | exact Kd.V_nil _ _ _ _ _ | exact Kd.Q_nil _ _ _ _ _ | exact Kd.S_nil _ _ _ _ _, hU HB.out⟩
def Y1D.f (l0 : List Int) (l1 : List Int) : Option (Bool) := some ((strOfNums l0).toList == (strOfNums l1).toList)
set_option maxHeartbeats 8000000 in
set_option maxRecDepth 100000 in
theorem Y1D.calls (A0 : Option Addr) (c0 : Nat) (l0 : List Int) (A1 : Option Addr) (c1 : Nat) (l1 : List Int) (r : Bool) (w : World) (hr0 : Kd.C (Kd.int .u8) w A0 l0.length l0) (hc0 : l0.length ≤ c0) (hr1 : Kd.C (Kd.int .u8) w A1 l1.length l1) (hc1 : l1.length ≤ c1) (h : Y1D.f l0 l1 = some r) :
  Calls Try.prog 40 #[.slice A0 l0.length c0, .slice A1 l1.length c1] w fun e w' => e = .returned (.bool r) ∧ Drawn0 w w' := by
 have HR0 := Y0.mk hr0
 have HC0 := Y0.mk hc0
 clear hr0 hc0
 have HR1 := Y0.mk hr1
 have HC1 := Y0.mk hc1
 clear hr1 hc1
 have H : (some ((strOfNums l0).toList == (strOfNums l1).toList)) = some r := h
 clear h
 obtain rfl := Option.some.inj H
 have hcv3 := Kd.C_string (P := Try.prog) (A := A0) (c := c0) Try.underlying60 Try.underlying5 Try.underlying9 HR0.out
 have hcv4 := Kd.C_string (P := Try.prog) (A := A1) (c := c1) Try.underlying60 Try.underlying5 Try.underlying9 HR1.out
 go_enter Try.func40, Try.ntmps40
 go_wp2
 go_ret
 exact ⟨reS, dS⟩
def YG.l0 : Nat → List Int → Int → Int → Option (Int)
 | 0, _, _, _ => none
 | k + 1, x0, x5, x6 => if x6 < x5 then (if 0 ≤ x6 then (if x6 < (x0.length : Int) then (if (rd x0 x6) < 128 then (some (wrap64 (x6 + 1))) else (YG.l0 k x0 x5 (wrap64 (x6 + 1)))) else (none)) else (none)) else (some 0)
def YG.f (k : Nat) (l0 : List Int) : Option (Int) := YG.l0 k l0 (l0.length : Int) 0
theorem YG.mono_l : ∀ k, (∀ y0 y1 y2, LeO (YG.l0 k y0 y1 y2) (YG.l0 (k + 1) y0 y1 y2))
 | 0 => fun _ _ _ r h => by simp [YG.l0] at h
 | k + 1 => by
  have ih0 := YG.mono_l k
  ·intro y0 y1 y2
   unfold YG.l0
   repeat' first
   | (with_reducible exact ih0 _ _ _)
   | (with_reducible exact LeO.refl _)
   | (with_reducible exact LeO.none _)
   | (with_reducible refine LeO.ite ?_ ?_)
   | (with_reducible refine LeO.bind ?_ (fun _ => ?_))
theorem YG.mono : ∀ a0 k, LeO (YG.f k a0) (YG.f (k + 1) a0) := by
 intro a0 k
 have ih0 := YG.mono_l k
 unfold YG.f
 repeat' first
   | (with_reducible exact ih0 _ _ _)
   | (with_reducible exact LeO.refl _)
   | (with_reducible exact LeO.none _)
   | (with_reducible refine LeO.ite ?_ ?_)
   | (with_reducible refine LeO.bind ?_ (fun _ => ?_))
set_option maxHeartbeats 8000000 in
set_option maxRecDepth 100000 in
theorem YG.calls (k : Nat) (A0 : Option Addr) (c0 : Nat) (l0 : List Int) (r : Int) (w : World) (hr0 : Kd.C (Kd.int .u8) w A0 l0.length l0) (hc0 : l0.length ≤ c0) (h : YG.f k l0 = some r) :
  Calls Try.prog 171 #[.slice A0 l0.length c0] w fun e w' => e = .returned (.int .i64 r) ∧ Drawn0 w w' := by
 have HR0 := Y0.mk hr0
 have HC0 := Y0.mk hc0
 clear hr0 hc0
 have H : (YG.l0 k l0 (l0.length : Int) 0) = some r := h
 clear h
 have H' := Y0.mk H
 clear H
 go_enter Try.func171, Try.ntmps171
 go_wp2
 go_loopg [6] k (fun kq v6 w' => ∃ (x6_1 : Int), v6 = .int .i64 x6_1 ∧ Y0 (YG.l0 kq l0 (l0.length : Int) x6_1 = some r) ∧ Y0 (kq ≤ k) ∧ Drawn0 w w')
 case atStart => exact ⟨(0), reS, H', ⟨Nat.le_refl _⟩, dS⟩
 case round =>
  clear H'
  try clear c1
  obtain ⟨x6_1, rfl, HA, HK1, ⟨m1, rfl⟩⟩ := hrel
  cases gk with
  | zero => exact absurd HA.out (by simp [YG.l0])
  | succ k1 =>
   have H := HA.out
   clear HA
   simp only [YG.l0] at H
   by_cases c2 : x6_1 < (l0.length : Int)
   ·rw [if_pos c2] at H
    have c2b0 := decide_eq_true c2
    clear c2
    obtain ⟨c3, H⟩ := iS H
    have c3b0 := decide_eq_true c3
    clear c3
    obtain ⟨c4, H⟩ := iS H
    have c4b0 := decide_eq_true c4
    clear c4
    by_cases c5 : (rd l0 x6_1) < 128
    ·rw [if_pos c5] at H
     have c5b0 := decide_eq_true c5
     clear c5
     obtain rfl := Option.some.inj H
     have p1095 : 0 ≤ (x6_1 : Int) := of_decide_eq_true (by first | (with_reducible assumption) | assumption)
     have q1095 : x6_1 < (l0.length : Int) := of_decide_eq_true (by first | (with_reducible assumption) | assumption)
     obtain ⟨d_0, e1095, m_0⟩ := Kd.at_int HR0.out x6_1 p1095 q1095
     cases e1095
     replace p1095 := eq_true p1095
     replace q1095 := eq_true q1095
     go_wp2
     go_ret
     exact ⟨reS, dS⟩
    ·rw [if_neg c5] at H
     have c5b0 := decide_eq_false c5
     clear c5
     have H' := Y0.mk H
     clear H
     have p1095 : 0 ≤ (x6_1 : Int) := of_decide_eq_true (by first | (with_reducible assumption) | assumption)
     have q1095 : x6_1 < (l0.length : Int) := of_decide_eq_true (by first | (with_reducible assumption) | assumption)
     obtain ⟨d_0, e1095, m_0⟩ := Kd.at_int HR0.out x6_1 p1095 q1095
     cases e1095
     replace p1095 := eq_true p1095
     replace q1095 := eq_true q1095
     go_wp2
     go_roundg k1
     case measure => have := HK1.out; omega
     case rel => exact ⟨(wrap64 (x6_1 + 1)), reS, H', ⟨by have := HK1.out; omega⟩, dS⟩
   ·rw [if_neg c2] at H
    have c2b0 := decide_eq_false c2
    clear c2
    obtain rfl := Option.some.inj H
    go_wp2
    go_ret
    exact ⟨reS, dS⟩
mutual
def Yp.j1 : Nat → List Int → Int → Option (Int × Int × Int)
 | 0, _, _ => none
 | k + 1, x0, x5 => Yp.l0 k x0 x5 0 x5 0
def Yp.l0 : Nat → List Int → Int → Int → Int → Int → Option (Int × Int × Int)
 | 0, _, _, _, _, _ => none
 | k + 1, x0, x5, x6, x37, x38 => if x38 < x37 then (if 0 ≤ x38 then (if x38 < (x0.length : Int) then (if 0 ≤ (wrap64 (7 * x38)) then (Yp.l0 k x0 x5 (Go.bits .or .u64 x6 (shl .u64 (IntKind.u64.wrap (Go.bits .and .u8 (rd x0 x38) 127)) (wrap64 (7 * x38)))) x37 (wrap64 (x38 + 1))) else (none)) else (none)) else (none)) else (if (Go.bits .and .u64 x6 1) = 1 then (some (wrap64 (Go.bits .xor .u64 18446744073709551615 (x6 / 2)), x5, 0)) else (some (wrap64 (x6 / 2), x5, 0)))
def Yp.j0 : Nat → List Int → Int → Bool → Option (Int × Int × Int)
 | 0, _, _, _ => none
 | k + 1, x0, x5, x13 => if x13 = true then (some (0, 0, 12)) else (if x5 > 1 then (if 0 ≤ (wrap64 (x5 - 1)) then (if (wrap64 (x5 - 1)) < (x0.length : Int) then (if (rd x0 (wrap64 (x5 - 1))) = 0 then (some (0, 0, 2)) else (Yp.j1 k x0 x5)) else (none)) else (none)) else (Yp.j1 k x0 x5))
end
def Yp.f (k : Nat) (l0 : List Int) : Option (Int × Int × Int) := (YG.f k l0).bind fun t_0 => (if t_0 = 0 then (some (0, 0, 13)) else (if t_0 > 10 then (Yp.j0 k l0 t_0 true) else (if t_0 = 10 then (if 9 < (l0.length : Int) then (Yp.j0 k l0 t_0 (decide ((rd l0 9) > 1))) else (none)) else (Yp.j0 k l0 t_0 false))))
theorem Yp.mono_l : ∀ k, (∀ y0 y1, LeO (Yp.j1 k y0 y1) (Yp.j1 (k + 1) y0 y1)) ∧ (∀ y0 y1 y2 y3 y4, LeO (Yp.l0 k y0 y1 y2 y3 y4) (Yp.l0 (k + 1) y0 y1 y2 y3 y4)) ∧ (∀ y0 y1 y2, LeO (Yp.j0 k y0 y1 y2) (Yp.j0 (k + 1) y0 y1 y2))
 | 0 => ⟨fun _ _ r h => by simp [Yp.j1] at h, fun _ _ _ _ _ r h => by simp [Yp.l0] at h, fun _ _ _ r h => by simp [Yp.j0] at h⟩
 | k + 1 => by
  obtain ⟨ih0, ih1, ih2⟩ := Yp.mono_l k
  refine ⟨?_, ?_, ?_⟩
  ·intro y0 y1
   unfold Yp.j1
   repeat' first
   | (with_reducible exact ih0 _ _)
   | (with_reducible exact ih1 _ _ _ _ _)
   | (with_reducible exact ih2 _ _ _)
   | (with_reducible exact YG.mono _ _)
   | (with_reducible exact LeO.refl _)
   | (with_reducible exact LeO.none _)
   | (with_reducible refine LeO.ite ?_ ?_)
   | (with_reducible refine LeO.bind ?_ (fun _ => ?_))
  ·intro y0 y1 y2 y3 y4
   unfold Yp.l0
   repeat' first
   | (with_reducible exact ih0 _ _)
   | (with_reducible exact ih1 _ _ _ _ _)
   | (with_reducible exact ih2 _ _ _)
   | (with_reducible exact YG.mono _ _)
   | (with_reducible exact LeO.refl _)
   | (with_reducible exact LeO.none _)
   | (with_reducible refine LeO.ite ?_ ?_)
   | (with_reducible refine LeO.bind ?_ (fun _ => ?_))
  ·intro y0 y1 y2
   unfold Yp.j0
   repeat' first
   | (with_reducible exact ih0 _ _)
   | (with_reducible exact ih1 _ _ _ _ _)
   | (with_reducible exact ih2 _ _ _)
   | (with_reducible exact YG.mono _ _)
   | (with_reducible exact LeO.refl _)
   | (with_reducible exact LeO.none _)
   | (with_reducible refine LeO.ite ?_ ?_)
   | (with_reducible refine LeO.bind ?_ (fun _ => ?_))
theorem Yp.mono : ∀ a0 k, LeO (Yp.f k a0) (Yp.f (k + 1) a0) := by
 intro a0 k
 obtain ⟨ih0, ih1, ih2⟩ := Yp.mono_l k
 unfold Yp.f
 repeat' first
   | (with_reducible exact ih0 _ _)
   | (with_reducible exact ih1 _ _ _ _ _)
   | (with_reducible exact ih2 _ _ _)
   | (with_reducible exact YG.mono _ _)
   | (with_reducible exact LeO.refl _)
   | (with_reducible exact LeO.none _)
   | (with_reducible refine LeO.ite ?_ ?_)
   | (with_reducible refine LeO.bind ?_ (fun _ => ?_))
set_option maxHeartbeats 8000000 in
set_option maxRecDepth 100000 in
theorem Yp.calls (k : Nat) (A0 : Option Addr) (c0 : Nat) (l0 : List Int) (r1 : Int) (r2 : Int) (r3 : Int) (w : World) (hr0 : Kd.C (Kd.int .u8) w A0 l0.length l0) (hc0 : l0.length ≤ c0) (h : Yp.f k l0 = some (r1, r2, r3)) :
  Calls Try.prog 148 #[.slice A0 l0.length c0] w fun e w' => e = .returned (.tuple #[.int .i64 r1, .int .i64 r2, .int .i64 r3]) ∧ Drawn0 w w' := by
 have HR0 := Y0.mk hr0
 have HC0 := Y0.mk hc0
 clear hr0 hc0
 have H : ((YG.f k l0).bind fun t_0 => (if t_0 = 0 then (some (0, 0, 13)) else (if t_0 > 10 then (Yp.j0 k l0 t_0 true) else (if t_0 = 10 then (if 9 < (l0.length : Int) then (Yp.j0 k l0 t_0 (decide ((rd l0 9) > 1))) else (none)) else (Yp.j0 k l0 t_0 false))))) = some (r1, r2, r3) := h
 clear h
 obtain ⟨t_0, A20, H⟩ := bS H
 try dsimp only at H
 have A2 := Y0.mk A20
 clear A20
 have HC3 := Y0.mk H
 clear H
 go_enter Try.func148, Try.ntmps148
 go_upto_block 0 with (first | ((with_reducible refine Yc (f := 171) rfl ?_); refine goesA (some 9) Try.func171 #[.slice A0 l0.length c0] ?_; (with_reducible refine (YG.calls k _ _ l0 t_0 _ ?side1 ?side2 A2.out).mono ?_); (case side1 => repeat (first | exact HR0.out | (with_reducible refine Kd.C_alloc ?_ _) | (with_reducible refine Kd.C_drewN ?_ _) | (with_reducible refine Kd.C_drew ?_))); (case side2 => exact HC0.out); rintro e w' ⟨rfl, ⟨nd, rfl⟩⟩; refine ⟨_, rfl, ?_⟩))
 (try simp only [Act.put, List.setIfInBounds_toArray, List.set_cons_zero, List.set_cons_succ])
 go_cut [] (fun wc => ∃ (kq : Nat), Y0 (Yp.j1 kq l0 t_0 = some (r1, r2, r3)) ∧ Y0 (kq ≤ k) ∧ Drawn0 w wc)
 case first =>
  have H := HC3.out
  clear HC3
  by_cases c4 : t_0 = 0
  ·rw [if_pos c4] at H
   have c4b0 := bqT c4
   have c4b1 := bnF c4
   clear c4
   (first | rw [c4b0] | (simp only [i64_w, i32_w]; rw [c4b0]) | skip)
   simp only [Option.some.injEq, Prod.mk.injEq] at H
   obtain ⟨rfl, rfl, rfl⟩ := H
   go_wp2
   go_ret3
   exact ⟨reS, dS⟩
  ·rw [if_neg c4] at H
   have c4b0 := bqF c4
   have c4b1 := bnT c4
   (first | rw [c4b0] | (simp only [i64_w, i32_w]; rw [c4b0]) | skip)
   have HC5 := Y0.mk H
   clear H
   go_upto_region 4 with (fail)
   go_cut [13] (fun v13 wc => ∃ (kq : Nat) (x13_4 : Bool), v13 = .bool x13_4 ∧ Y0 (Yp.j0 kq l0 t_0 x13_4 = some (r1, r2, r3)) ∧ Y0 (kq ≤ k) ∧ Drawn0 w wc)
   case first =>
    have H := HC5.out
    clear HC5
    by_cases c6 : t_0 > 10
    ·rw [if_pos c6] at H
     have c6b0 := decide_eq_true c6
     clear c6
     (first | rw [c6b0] | (simp only [i64_w, i32_w]; rw [c6b0]) | skip)
     have H' := Y0.mk H
     clear H
     go_wp2
     go_meet
     case rel => exact ⟨_, (true), reS, H', ⟨by first | omega | exact Nat.le_refl _⟩, dS⟩
    ·rw [if_neg c6] at H
     have c6b0 := decide_eq_false c6
     clear c6
     (first | rw [c6b0] | (simp only [i64_w, i32_w]; rw [c6b0]) | skip)
     by_cases c7 : t_0 = 10
     ·rw [if_pos c7] at H
      have c7b0 := bqT c7
      have c7b1 := bnF c7
      clear c7
      obtain ⟨c8, H⟩ := iS H
      have c8b0 := decide_eq_true c8
      have c8b1 : decide (9 < l0.length) = true := decide_eq_true (by omega)
      clear c8
      have H' := Y0.mk H
      clear H
      have p1097 : 0 ≤ (9 : Int) := (by omega)
      have q1097 : 9 < (l0.length : Int) := of_decide_eq_true (by first | (with_reducible assumption) | assumption)
      obtain ⟨d_2, e1097, m_0⟩ := Kd.at_int HR0.out 9 p1097 q1097
      cases e1097
      (try simp only [show (9 : Int).toNat = 9 from rfl, Nat.reduceMul, Nat.reduceEqDiff, Go.Addr.add, ↓reduceIte] at m_0)
      have qi1097 : (9 < l0.length) = True := eq_true (by omega)
      (try rw [show ((9 : Int)).toNat = 9 from rfl] at m_0)
      replace p1097 := eq_true p1097
      replace q1097 := eq_true q1097
      go_wp2
      go_meet
      case rel => exact ⟨_, (decide ((rd l0 9) > 1)), reS, H', ⟨by first | omega | exact Nat.le_refl _⟩, dS⟩
     ·rw [if_neg c7] at H
      have c7b0 := bqF c7
      have c7b1 := bnT c7
      have H' := Y0.mk H
      clear H
      go_wp2
      go_meet
      case rel => exact ⟨_, (false), reS, H', ⟨by first | omega | exact Nat.le_refl _⟩, dS⟩
   case rest =>
    clear HC5
    try clear c1
    try clear p1
    try clear q1
    try clear hx1
    try clear qi1
    try clear p2
    try clear c4
    try clear c4b0
    try clear c4b1
    try clear c6
    try clear c6b0
    try clear c7
    try clear c7b0
    try clear c7b1
    try clear c8
    try clear c8b0
    try clear c8b1
    try clear m_0
    try clear p1097
    try clear q1097
    obtain ⟨kq, x13_4, rfl, HA, HJ4, ⟨mc4, rfl⟩⟩ := hcut
    cases kq with
    | zero => exact absurd HA.out (by simp [Yp.j0])
    | succ kj4 =>
     have H := HA.out
     clear HA
     simp only [Yp.j0] at H
     by_cases c9 : x13_4 = true
     ·subst c9
      have H1 : (some (0, 0, 12)) = some (r1, r2, r3) := by rw [if_pos rfl] at H; exact H
      clear H
      have H := H1
      clear H1
      simp only [Option.some.injEq, Prod.mk.injEq] at H
      obtain ⟨rfl, rfl, rfl⟩ := H
      go_wp2
      go_ret3
      exact ⟨reS, dS⟩
     ·replace c9 := Bool.eq_false_iff.mpr c9
      subst c9
      rw [if_neg (show ¬ (false = true) by decide)] at H
      by_cases c10 : t_0 > 1
      ·rw [if_pos c10] at H
       have c10b0 := decide_eq_true c10
       clear c10
       obtain ⟨ji11, hji11⟩ : ∃ j_ : Int, (wrap64 (t_0 - 1)) = j_ := ⟨_, rfl⟩
       replace H : (if 0 ≤ (ji11) then (if (ji11) < (l0.length : Int) then (if (rd l0 (ji11)) = 0 then (some (0, 0, 2)) else (Yp.j1 kj4 l0 t_0)) else (none)) else (none)) = some (r1, r2, r3) := by first | (rw [hji11] at H; exact H) | (simp only [hji11] at H ⊢; exact H)
       have hji11w : (IntKind.i64.wrap (t_0 - 1)) = ji11 := (i64_w _).trans hji11
       obtain ⟨c12, H⟩ := iS H
       have c12b0 := decide_eq_true c12
       clear c12
       obtain ⟨c13, H⟩ := iS H
       have c13b0 := decide_eq_true c13
       clear c13
       by_cases c14 : (rd l0 (ji11)) = 0
       ·rw [if_pos c14] at H
        have c14b0 := bqT c14
        have c14b1 := bnF c14
        clear c14
        simp only [Option.some.injEq, Prod.mk.injEq] at H
        obtain ⟨rfl, rfl, rfl⟩ := H
        have p1098 : 0 ≤ ((ji11) : Int) := of_decide_eq_true (by first | (with_reducible assumption) | assumption)
        have q1098 : (ji11) < (l0.length : Int) := of_decide_eq_true (by first | (with_reducible assumption) | assumption)
        obtain ⟨d_0, e1098, m_1⟩ := Kd.at_int HR0.out (ji11) p1098 q1098
        cases e1098
        replace p1098 := eq_true p1098
        replace q1098 := eq_true q1098
        go_wp2
        go_ret3
        exact ⟨by first | rfl | (simp; done) | (simp only [← hji11] <;> (first | rfl | simp)) | (simp [*]; done), dS⟩
       ·rw [if_neg c14] at H
        have c14b0 := bqF c14
        have c14b1 := bnT c14
        have H' := Y0.mk H
        clear H
        have p1098 : 0 ≤ ((ji11) : Int) := of_decide_eq_true (by first | (with_reducible assumption) | assumption)
        have q1098 : (ji11) < (l0.length : Int) := of_decide_eq_true (by first | (with_reducible assumption) | assumption)
        obtain ⟨d_0, e1098, m_1⟩ := Kd.at_int HR0.out (ji11) p1098 q1098
        cases e1098
        replace p1098 := eq_true p1098
        replace q1098 := eq_true q1098
        go_wp2
        go_meet
        case rel => exact ⟨_, H', ⟨by have := HJ4.out; first | omega | exact Nat.le_refl _⟩, dS⟩
      ·rw [if_neg c10] at H
       have c10b0 := decide_eq_false c10
       clear c10
       have H' := Y0.mk H
       clear H
       go_wp2
       go_meet
       case rel => exact ⟨_, H', ⟨by have := HJ4.out; first | omega | exact Nat.le_refl _⟩, dS⟩
 case rest =>
  clear HC3
  try clear c1
  try clear p1
  try clear q1
  try clear hx1
  try clear qi1
  try clear p2
  try clear c4
  try clear c4b0
  try clear c4b1
  try clear c6
  try clear c6b0
  try clear p6
  try clear c7
  try clear c7b0
  try clear c7b1
  try clear c8
  try clear c8b0
  try clear c8b1
  try clear c9
  try clear c10
  try clear c10b0
  try clear p10
  try clear q10
  try clear hx10
  try clear qi10
  try clear c12
  try clear c12b0
  try clear c13
  try clear c13b0
  try clear c14
  try clear c14b0
  try clear c14b1
  try clear m_0
  try clear m_1
  try clear p1
  try clear p1097
  try clear p1098
  try clear p2
  try clear q1
  try clear q1097
  try clear q1098
  obtain ⟨kq, HA, HJ2, ⟨mc2, rfl⟩⟩ := hcut
  cases kq with
  | zero => exact absurd HA.out (by simp [Yp.j1])
  | succ kj2 =>
   have H := HA.out
   clear HA
   simp only [Yp.j1] at H
   have H' := Y0.mk H
   clear H
   go_wp2
   go_loopg [6, 38] kj2 (fun kq v6 v38 w' => ∃ (x6_2 : Int) (x38_2 : Int), v6 = .int .u64 x6_2 ∧ v38 = .int .i64 x38_2 ∧ Y0 (Yp.l0 kq l0 t_0 x6_2 t_0 x38_2 = some (r1, r2, r3)) ∧ Y0 (kq ≤ kj2) ∧ Drawn0 w w')
   case atStart => exact ⟨(0), (0), reS, reS, H', ⟨Nat.le_refl _⟩, dS⟩
   case round =>
    clear H'
    try clear c1
    try clear p1
    try clear q1
    try clear hx1
    try clear qi1
    try clear c2
    try clear p2
    try clear c4
    try clear c4b0
    try clear c4b1
    try clear c6
    try clear c6b0
    try clear p6
    try clear c7
    try clear c7b0
    try clear c7b1
    try clear c8
    try clear c8b0
    try clear c8b1
    try clear c9
    try clear c10
    try clear c10b0
    try clear p10
    try clear q10
    try clear hx10
    try clear qi10
    try clear c12
    try clear c12b0
    try clear c13
    try clear c13b0
    try clear c14
    try clear c14b0
    try clear c14b1
    try clear m_0
    try clear m_1
    try clear p1
    try clear p10
    try clear p1097
    try clear p1098
    try clear p2
    try clear p6
    try clear q1
    try clear q10
    try clear q1097
    try clear q1098
    obtain ⟨x6_2, x38_2, rfl, rfl, HA, HK2, ⟨m2, rfl⟩⟩ := hrel
    cases gk with
    | zero => exact absurd HA.out (by simp [Yp.l0])
    | succ k2 =>
     have H := HA.out
     clear HA
     simp only [Yp.l0] at H
     by_cases c15 : x38_2 < t_0
     ·rw [if_pos c15] at H
      have c15b0 := decide_eq_true c15
      clear c15
      obtain ⟨c16, H⟩ := iS H
      have c16b0 := decide_eq_true c16
      clear c16
      obtain ⟨c17, H⟩ := iS H
      have c17b0 := decide_eq_true c17
      clear c17
      obtain ⟨ji18, hji18⟩ : ∃ j_ : Int, (wrap64 (7 * x38_2)) = j_ := ⟨_, rfl⟩
      replace H : (if 0 ≤ (ji18) then (Yp.l0 k2 l0 t_0 (Go.bits .or .u64 x6_2 (shl .u64 (IntKind.u64.wrap (Go.bits .and .u8 (rd l0 x38_2) 127)) (ji18))) t_0 (wrap64 (x38_2 + 1))) else (none)) = some (r1, r2, r3) := by first | (rw [hji18] at H; exact H) | (simp only [hji18] at H ⊢; exact H)
      have hji18w : (IntKind.i64.wrap (7 * x38_2)) = ji18 := (i64_w _).trans hji18
      obtain ⟨c19, H⟩ := iS H
      have c19b0 := eq_true c19
      have c19b1 := decide_eq_true c19
      clear c19
      obtain ⟨ji20, hji20⟩ : ∃ j_ : Int, (shl .u64 (IntKind.u64.wrap (Go.bits .and .u8 (rd l0 x38_2) 127)) (ji18)) = j_ := ⟨_, rfl⟩
      replace H : (Yp.l0 k2 l0 t_0 (Go.bits .or .u64 x6_2 (ji20)) t_0 (wrap64 (x38_2 + 1))) = some (r1, r2, r3) := by first | (rw [hji20] at H; exact H) | (simp only [hji20] at H ⊢; exact H)
      have hji20_ : (IntKind.u64.wrap ((IntKind.u64.wrap (Go.bits .and .u8 (rd l0 x38_2) 127)) * 2 ^ min (ji18).toNat 64)) = ji20 := hji20
      have hji20z : (ji18) ≤ 64 → (IntKind.u64.wrap ((IntKind.u64.wrap (Go.bits .and .u8 (rd l0 x38_2) 127)) * 2 ^ (ji18).toNat)) = ji20 := Y5m hji20
      have H' := Y0.mk H
      clear H
      have p1099 : 0 ≤ (x38_2 : Int) := of_decide_eq_true (by first | (with_reducible assumption) | assumption)
      have q1099 : x38_2 < (l0.length : Int) := of_decide_eq_true (by first | (with_reducible assumption) | assumption)
      obtain ⟨d_1, e1099, m_2⟩ := Kd.at_int HR0.out x38_2 p1099 q1099
      cases e1099
      replace p1099 := eq_true p1099
      replace q1099 := eq_true q1099
      go_wp2
      go_roundg k2
      case measure => have := HJ2.out; have := HK2.out; omega
      case rel => exact ⟨(Go.bits .or .u64 x6_2 (ji20)), (wrap64 (x38_2 + 1)), (by first | rfl | (simp; done) | (simp only [← hji20] <;> (first | rfl | simp)) | (simp [*]; done)), reS, H', ⟨by have := HJ2.out; have := HK2.out; omega⟩, dS⟩
     ·rw [if_neg c15] at H
      have c15b0 := decide_eq_false c15
      clear c15
      by_cases c21 : (Go.bits .and .u64 x6_2 1) = 1
      ·rw [if_pos c21] at H
       have c21b0 := bqT c21
       have c21b1 := bnF c21
       clear c21
       simp only [Option.some.injEq, Prod.mk.injEq] at H
       obtain ⟨rfl, rfl, rfl⟩ := H
       go_wp2
       go_ret3
       exact ⟨reS, dS⟩
      ·rw [if_neg c21] at H
       have c21b0 := bqF c21
       have c21b1 := bnT c21
       simp only [Option.some.injEq, Prod.mk.injEq] at H
       obtain ⟨rfl, rfl, rfl⟩ := H
       go_wp2
       go_ret3
       exact ⟨reS, dS⟩
end Go.Proofs.Yteopkkoblbmggaa.P
end
