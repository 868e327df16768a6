/- Texts of this claim in one: VP60, VP64, VMapS, VFound, VInsK, VIns; no condition. -/
import Derived.Test.YteopkkoblbmggaaQAC
import Derived.Test.YteopkkoblbmggaaQAE
import Derived.Test.YteopkkoblbmggaaQAH
import Derived.Maps.OwnSet
import Derived.Maps.OwnOps
import Derived.DeepKeys4
import Derived.Deep.Light
import Derived.WalkSpells
import Derived.Laws.CopyRow
import Derived.Laws.IdiomCopy
import Derived.Shelf.Spec.SlicesInsert
import Derived.Shelf.Spec.SlicesInsertGrow
section
namespace Go.Proofs.Yteopkkoblbmggaa.P
open Go.RowKit Go.Proofs.YteopkkoblbmggaaW.PrintWords Go.Proofs.YteopkkoblbmggaaW.PrintLast Go.Proofs.YteopkkoblbmggaaW.PrintMore
attribute [local go_sem] Y11 Y13 Y19 Y1a YR YS Y12 Y14
set_option linter.unusedVariables false
set_option linter.unusedSimpArgs false
def YD.f (k : Nat) (l0 : List Int) (a1_0 : Int) (a1_1 : Int) (a1_2 : Int) (a1_3 : Int) (a1_4 : Int) (a1_5 : Bool) (a1_6 : Int) (a1_7 : Int) (a1_8 : Int) (a1_9 : Int) (a1_10 : Int) (a1_11 : Int) (a1_12 : Int) : Option (List Int × Int) := (Y1E.f k a1_0 a1_1 a1_2 a1_3 a1_4 a1_5 a1_6 a1_7 a1_8 a1_9 a1_10 a1_11 a1_12).bind fun b_1 => (if b_1.2 = 0 then ((Y15.f k b_1.1).bind fun b_0 => (if b_0.2 = 0 then ((slices_Clone_byte_byte.f l0).bind fun t_0 => (if t_0.length + b_0.1.length < 140737488355328 then (some ((t_0 ++ b_0.1), 0)) else (none))) else (some (([] : List Int), b_0.2)))) else (some (([] : List Int), b_1.2)))
theorem YD.mono : ∀ a0 a1 a2 a3 a4 a5 a6 a7 a8 a9 a10 a11 a12 a13 k, LeO (YD.f k a0 a1 a2 a3 a4 a5 a6 a7 a8 a9 a10 a11 a12 a13) (YD.f (k + 1) a0 a1 a2 a3 a4 a5 a6 a7 a8 a9 a10 a11 a12 a13) := by
 intro a0 a1 a2 a3 a4 a5 a6 a7 a8 a9 a10 a11 a12 a13 k
 unfold YD.f
 repeat' first
   | (with_reducible exact Y15.mono _ _)
   | (with_reducible exact Y1E.mono _ _ _ _ _ _ _ _ _ _ _ _ _ _)
   | (with_reducible exact LeO.refl _)
   | (with_reducible exact LeO.none _)
   | (with_reducible refine LeO.ite ?_ ?_)
   | (with_reducible refine LeO.bind ?_ (fun _ => ?_))
set_option maxHeartbeats 8000000 in
set_option maxRecDepth 100000 in
theorem YD.calls (k : Nat) (A0 : Option Addr) (c0 : Nat) (l0 : List Int) (a1_0 : Int) (a1_1 : Int) (a1_2 : Int) (a1_3 : Int) (a1_4 : Int) (a1_5 : Bool) (a1_6 : Int) (a1_7 : Int) (a1_8 : Int) (a1_9 : Int) (a1_10 : Int) (a1_11 : Int) (a1_12 : Int) (r1 : List Int) (r2 : Int) (w : World) (hr0 : Kd.C (Kd.int .u8) w A0 l0.length l0) (hc0 : l0.length ≤ c0) (h : YD.f k l0 a1_0 a1_1 a1_2 a1_3 a1_4 a1_5 a1_6 a1_7 a1_8 a1_9 a1_10 a1_11 a1_12 = some (r1, r2)) :
  Calls Try.prog 38 #[.slice A0 l0.length c0, .agg #[.int .i64 a1_0, .int .i64 a1_1, .int .i64 a1_2, .int .i64 a1_3, .int .i64 a1_4, .bool a1_5, .int .i64 a1_6, .int .i64 a1_7, .int .i64 a1_8, .int .i64 a1_9, .int .i64 a1_10, .int .i64 a1_11, .int .i64 a1_12]] w fun e w' => ∃ v0_ : Value, e = .returned (.tuple #[v0_, .int .i64 r2]) ∧ Kd.R (Kd.int .u8) 5 w' w.heap.size (fun _ => True) v0_ r1 ∧ Below w.heap.size w w' := by
 have hu30 := Try.underlying30
 have HR0 := Y0.mk hr0
 have HC0 := Y0.mk hc0
 clear hr0 hc0
 have HB := Y0.mk (Below.refl w.heap.size w)
 have H : ((Y1E.f k a1_0 a1_1 a1_2 a1_3 a1_4 a1_5 a1_6 a1_7 a1_8 a1_9 a1_10 a1_11 a1_12).bind fun b_1 => (if b_1.2 = 0 then ((Y15.f k b_1.1).bind fun b_0 => (if b_0.2 = 0 then ((slices_Clone_byte_byte.f l0).bind fun t_0 => (if t_0.length + b_0.1.length < 140737488355328 then (some ((t_0 ++ b_0.1), 0)) else (none))) else (some (([] : List Int), b_0.2)))) else (some (([] : List Int), b_1.2)))) = some (r1, r2) := h
 clear h
 obtain ⟨⟨t_2, t_3⟩, A30, H⟩ := bS H
 try dsimp only at H
 have A3 := Y0.mk A30
 clear A30
 by_cases c4 : t_3 = 0
 ·rw [if_pos c4] at H
  have c4b0 := bqT c4
  have c4b1 := bnF c4
  clear c4
  obtain ⟨⟨t_1, t_4⟩, A50, H⟩ := bS H
  try dsimp only at H
  have A5 := Y0.mk A50
  clear A50
  by_cases c6 : t_4 = 0
  ·rw [if_pos c6] at H
   have c6b0 := bqT c6
   have c6b1 := bnF c6
   clear c6
   obtain ⟨t_0, A70, H⟩ := bS H
   replace H : (if t_0.length + t_1.length < 140737488355328 then (some ((t_0 ++ t_1), 0)) else (none)) = some (r1, r2) := H
   have A7 := Y0.mk A70
   clear A70
   obtain ⟨c8, H⟩ := iS H
   have LMc8 := Y0.mk c8
   clear c8
   obtain ⟨y1092, hy1092⟩ : ∃ y_ : List Int, y_ = (t_0 ++ t_1) := ⟨_, rfl⟩
   replace H : (some (y1092, 0)) = some (r1, r2) := by first | (rw [hy1092]; with_reducible exact H) | (have H2_ := (Option.bind_some _ _).symm.trans H; rw [hy1092]; with_reducible exact H2_) | (have H2_ := (Option.bind_some _ _).symm.trans H; with_reducible exact H2_) | with_reducible exact H | (rw [hy1092]; exact H) | exact H
   have Ny1092 := Y0.mk hy1092
   clear hy1092
   simp only [Option.some.injEq, Prod.mk.injEq] at H
   obtain ⟨rfl, rfl⟩ := H
   go_enter Try.func38, Try.ntmps38
   go_wp2_with (first | ((with_reducible refine Yl (N := 3) rfl ?_); refine Yk ?hg (N := 3) ?hd (cs := #[.int .i64 a1_0, .int .i64 a1_1, .int .i64 a1_2, .int .i64 a1_3, .int .i64 a1_4, .bool a1_5, .int .i64 a1_6, .int .i64 a1_7, .int .i64 a1_8, .int .i64 a1_9, .int .i64 a1_10, .int .i64 a1_11, .int .i64 a1_12]) (t := 30) ?hr ?_; (case hd => rfl); (case hg => rfl); (case hr => first | (go_simp; done) | (go_simp; rfl)); intro g_0 hg w9 hbox hb; have n0_ := Y0.mk (Y4 (hU HB.out) hb); have n1_ := Y0.mk (hbox); have n2_ := gE hg HB; have n3_ := gE hg HB; clear HB; have HB := n0_; have B_0 := n1_; have W_0 := n2_; have G_0 := n3_; clear n0_ n1_ n2_ n3_; clear hb hbox hg; have z_1 := Y1 B_0.out; have f_2 := Y3 B_0.out) | ((with_reducible refine Y8 (f := 82) rfl ?_); refine goesA (some 11) Try.func82 #[.agg #[.int .i64 a1_0, .int .i64 a1_1, .int .i64 a1_2, .int .i64 a1_3, .int .i64 a1_4, .bool a1_5, .int .i64 a1_6, .int .i64 a1_7, .int .i64 a1_8, .int .i64 a1_9, .int .i64 a1_10, .int .i64 a1_11, .int .i64 a1_12]] ?_; (with_reducible refine (Y1E.calls k a1_0 a1_1 a1_2 a1_3 a1_4 a1_5 a1_6 a1_7 a1_8 a1_9 a1_10 a1_11 a1_12 t_2 t_3 _ A3.out).mono ?_); rintro e w11 ⟨v_0, rfl, ho0, hb⟩; refine ⟨_, rfl, ?_⟩; replace O_0 := Y0.mk (Kd.V_lower (Kd.V_mono (ok' := fun k_ => k_ ≠ g_0) ho0 (fun k_ hk_ => (Kd.freshB (bU B_0.out) k_ hk_))) (Yi (hU HB.out))); replace B_0 := Y0.mk (Y6 (bU B_0.out) hb); replace HB := Y0.mk (Y4 (hU HB.out) hb); (try clear hb); (try clear hb2); (try clear hk); (try clear hi); (try clear ho0); obtain ⟨Ao12, co12, eo12⟩ := Kd.V_slice O_0.out; subst eo12) | ((with_reducible refine Y8 (f := 83) rfl ?_); refine goesA (some 19) Try.func83 #[.slice Ao12 t_2.length co12] ?_; (with_reducible refine (Y15.calls k _ _ t_2 t_1 t_4 _ ?side1 ?side2 A5.out).mono ?_); (case side1 => repeat (first | exact (Kd.V_reads' O_0.out).2.2 | (with_reducible refine Kd.C_alloc ?_ _) | (with_reducible refine Kd.C_drewN ?_ _) | (with_reducible refine Kd.C_drew ?_))); (case side2 => exact (Kd.V_reads' O_0.out).2.1); rintro e w13 ⟨v_1, rfl, ho0, hb⟩; refine ⟨_, rfl, ?_⟩; replace O_0 := Y0.mk (Kd.V_elder' (Kd.vU O_0.out) (Kd.R_base ho0) hb); replace O_1 := Y0.mk (Kd.R_lower ho0 (Yi (hU HB.out))); replace B_0 := Y0.mk (Y6 (bU B_0.out) hb); replace HB := Y0.mk (Y4 (hU HB.out) hb); (try clear hb); (try clear hb2); (try clear hk); (try clear hi); (try clear ho0)) | ((with_reducible refine Y8 (f := 84) rfl ?_); refine goesA (some 26) Try.func84 #[.slice A0 l0.length c0] ?_; (with_reducible refine (slices_Clone_byte_byte.calls _ _ l0 t_0 _ ?side1 ?side2 A7.out).mono ?_); (case side1 => repeat (first | exact (Kd.C_below HR0.out HB.out) | (with_reducible refine Kd.C_alloc ?_ _) | (with_reducible refine Kd.C_drewN ?_ _) | (with_reducible refine Kd.C_drew ?_))); (case side2 => exact HC0.out); rintro e w14 ⟨v_2, rfl, ho0, hb⟩; refine ⟨_, rfl, ?_⟩; replace O_0 := Y0.mk (Kd.V_elder' (Kd.vU O_0.out) (Kd.R_base ho0) hb); replace O_2 := Y0.mk (Kd.R_lower (Kd.R_new' ho0 (Kd.R_lt (Kd.rU O_1.out))) (Yi (hU HB.out))); replace O_1 := Y0.mk (Kd.R_elder' (Kd.rU O_1.out) (Kd.R_base ho0) hb); replace B_0 := Y0.mk (Y6 (bU B_0.out) hb); replace HB := Y0.mk (Y4 (hU HB.out) hb); (try clear hb); (try clear hb2); (try clear hk); (try clear hi); (try clear ho0); obtain ⟨Ao16, co16, eo16⟩ := Kd.R_slice O_1.out; subst eo16) | ((with_reducible refine Y1h (b := .append) (xs := #[.tmp 26, .tmp 27]) rfl ?_); at_builtin; refine Kd.R_append_rows (Kd.int .u8) (w0 := w) w.heap.size rfl (.tmp 26) (.tmp 27) 60 5 (.int .u8 0) 1 rfl Try.underlying60 info5 rfl (by decide) (by omega) v_2 t_0 t_1 _ _ _ (fun k_ => some k_ ≠ (.slice Ao16 t_1.length co16 : Value).ownBlock) (fun _ => False) rfl rfl ?aO ?aR (fun _ _ h => h) (fun _ h => h.elim) ?aF ?aB ?aS ?aL ?_; (case aR => repeat (first | exact (Kd.R_reads' O_1.out).2.2 | (with_reducible refine Kd.C_alloc ?_ _) | (with_reducible refine Kd.C_drewN ?_ _) | (with_reducible refine Kd.C_drew ?_))); (case aB => exact (hU HB.out)); (case aF => exact (fun k_ hk => Kd.fresh' (Kd.R_lt (Kd.rU O_1.out)) k_ hk)); (case aO => exact (by (with_reducible repeat (first | apply Kd.R_alloc | apply Kd.R_drewN | apply Kd.R_drew)); exact Kd.R_mono O_2.out (fun _ hk => hk.2))); (case aS => exact (Yi (hU HB.out))); (case aL => have := LMc8.out; omega); intro v_3 w15 ho hb hg hat; rw [← Ny1092.out] at ho; have n0_ := Y0.mk (Y1U (bU B_0.out) hg (Kd.R_ne O_2.out B_0.out (by decide))); have n1_ := Y0.mk (Kd.V_afterv (ok := (fun k_ => some k_ ≠ (.slice Ao16 t_1.length co16 : Value).ownBlock ∧ k_ ≠ g_0)) (by (with_reducible repeat (first | apply Kd.V_alloc | apply Kd.V_drewN | apply Kd.V_drew)); exact Kd.V_mono O_0.out (fun _ hk => ⟨⟨hk.1.2, hk.1.1⟩, hk.2⟩)) hg hat); have n2_ := Y0.mk (Kd.R_after (ok := (fun _ => True)) (Kd.rU O_1.out) hg hat); have n3_ := Y0.mk (hb); have n4_ := Y0.mk (ho); clear B_0; clear O_0; clear O_1; clear HB; clear O_2; have B_0 := n0_; have O_0 := n1_; have O_1 := n2_; have HB := n3_; have O_3 := n4_; clear n0_ n1_ n2_ n3_ n4_; clear ho hb hg hat))
   go_ret2
   exact ⟨_, reT, by (with_reducible repeat (first | apply Kd.R_alloc | apply Kd.R_drewN | apply Kd.R_drew)); exact Kd.R_mono O_3.out (fun _ hk => trivial), hU HB.out⟩
  ·rw [if_neg c6] at H
   have c6b0 := bqF c6
   have c6b1 := bnT c6
   simp only [Option.some.injEq, Prod.mk.injEq] at H
   obtain ⟨rfl, rfl⟩ := H
   go_enter Try.func38, Try.ntmps38
   go_wp2_with (first | ((with_reducible refine Yl (N := 3) rfl ?_); refine Yk ?hg (N := 3) ?hd (cs := #[.int .i64 a1_0, .int .i64 a1_1, .int .i64 a1_2, .int .i64 a1_3, .int .i64 a1_4, .bool a1_5, .int .i64 a1_6, .int .i64 a1_7, .int .i64 a1_8, .int .i64 a1_9, .int .i64 a1_10, .int .i64 a1_11, .int .i64 a1_12]) (t := 30) ?hr ?_; (case hd => rfl); (case hg => rfl); (case hr => first | (go_simp; done) | (go_simp; rfl)); intro g_0 hg w17 hbox hb; have n0_ := Y0.mk (Y4 (hU HB.out) hb); have n1_ := Y0.mk (hbox); have n2_ := gE hg HB; have n3_ := gE hg HB; clear HB; have HB := n0_; have B_0 := n1_; have W_0 := n2_; have G_0 := n3_; clear n0_ n1_ n2_ n3_; clear hb hbox hg; have z_0 := Y1 B_0.out; have f_1 := Y3 B_0.out) | ((with_reducible refine Y8 (f := 82) rfl ?_); refine goesA (some 11) Try.func82 #[.agg #[.int .i64 a1_0, .int .i64 a1_1, .int .i64 a1_2, .int .i64 a1_3, .int .i64 a1_4, .bool a1_5, .int .i64 a1_6, .int .i64 a1_7, .int .i64 a1_8, .int .i64 a1_9, .int .i64 a1_10, .int .i64 a1_11, .int .i64 a1_12]] ?_; (with_reducible refine (Y1E.calls k a1_0 a1_1 a1_2 a1_3 a1_4 a1_5 a1_6 a1_7 a1_8 a1_9 a1_10 a1_11 a1_12 t_2 t_3 _ A3.out).mono ?_); rintro e w19 ⟨v_0, rfl, ho0, hb⟩; refine ⟨_, rfl, ?_⟩; replace O_0 := Y0.mk (Kd.V_lower (Kd.V_mono (ok' := fun k_ => k_ ≠ g_0) ho0 (fun k_ hk_ => (Kd.freshB (bU B_0.out) k_ hk_))) (Yi (hU HB.out))); replace B_0 := Y0.mk (Y6 (bU B_0.out) hb); replace HB := Y0.mk (Y4 (hU HB.out) hb); (try clear hb); (try clear hb2); (try clear hk); (try clear hi); (try clear ho0); obtain ⟨Ao20, co20, eo20⟩ := Kd.V_slice O_0.out; subst eo20) | ((with_reducible refine Y8 (f := 83) rfl ?_); refine goesA (some 19) Try.func83 #[.slice Ao20 t_2.length co20] ?_; (with_reducible refine (Y15.calls k _ _ t_2 t_1 t_4 _ ?side1 ?side2 A5.out).mono ?_); (case side1 => repeat (first | exact (Kd.V_reads' O_0.out).2.2 | (with_reducible refine Kd.C_alloc ?_ _) | (with_reducible refine Kd.C_drewN ?_ _) | (with_reducible refine Kd.C_drew ?_))); (case side2 => exact (Kd.V_reads' O_0.out).2.1); rintro e w21 ⟨v_1, rfl, ho0, hb⟩; refine ⟨_, rfl, ?_⟩; replace O_0 := Y0.mk (Kd.V_elder' (Kd.vU O_0.out) (Kd.R_base ho0) hb); replace O_1 := Y0.mk (Kd.R_lower ho0 (Yi (hU HB.out))); replace B_0 := Y0.mk (Y6 (bU B_0.out) hb); replace HB := Y0.mk (Y4 (hU HB.out) hb); (try clear hb); (try clear hb2); (try clear hk); (try clear hi); (try clear ho0)))
   go_ret2
   exact ⟨_, reT, by first | exact Kd.R_nil _ _ _ _ _ | exact Kd.N_nil _ _ _ _ _ | exact Kd.V_nil _ _ _ _ _ | exact Kd.Q_nil _ _ _ _ _ | exact Kd.S_nil _ _ _ _ _, hU HB.out⟩
 ·rw [if_neg c4] at H
  have c4b0 := bqF c4
  have c4b1 := bnT c4
  simp only [Option.some.injEq, Prod.mk.injEq] at H
  obtain ⟨rfl, rfl⟩ := H
  go_enter Try.func38, Try.ntmps38
  go_wp2_with (first | ((with_reducible refine Yl (N := 3) rfl ?_); refine Yk ?hg (N := 3) ?hd (cs := #[.int .i64 a1_0, .int .i64 a1_1, .int .i64 a1_2, .int .i64 a1_3, .int .i64 a1_4, .bool a1_5, .int .i64 a1_6, .int .i64 a1_7, .int .i64 a1_8, .int .i64 a1_9, .int .i64 a1_10, .int .i64 a1_11, .int .i64 a1_12]) (t := 30) ?hr ?_; (case hd => rfl); (case hg => rfl); (case hr => first | (go_simp; done) | (go_simp; rfl)); intro g_0 hg w22 hbox hb; have n0_ := Y0.mk (Y4 (hU HB.out) hb); have n1_ := Y0.mk (hbox); have n2_ := gE hg HB; have n3_ := gE hg HB; clear HB; have HB := n0_; have B_0 := n1_; have W_0 := n2_; have G_0 := n3_; clear n0_ n1_ n2_ n3_; clear hb hbox hg; have z_2 := Y1 B_0.out; have f_0 := Y3 B_0.out) | ((with_reducible refine Y8 (f := 82) rfl ?_); refine goesA (some 11) Try.func82 #[.agg #[.int .i64 a1_0, .int .i64 a1_1, .int .i64 a1_2, .int .i64 a1_3, .int .i64 a1_4, .bool a1_5, .int .i64 a1_6, .int .i64 a1_7, .int .i64 a1_8, .int .i64 a1_9, .int .i64 a1_10, .int .i64 a1_11, .int .i64 a1_12]] ?_; (with_reducible refine (Y1E.calls k a1_0 a1_1 a1_2 a1_3 a1_4 a1_5 a1_6 a1_7 a1_8 a1_9 a1_10 a1_11 a1_12 t_2 t_3 _ A3.out).mono ?_); rintro e w24 ⟨v_0, rfl, ho0, hb⟩; refine ⟨_, rfl, ?_⟩; replace O_0 := Y0.mk (Kd.V_lower (Kd.V_mono (ok' := fun k_ => k_ ≠ g_0) ho0 (fun k_ hk_ => (Kd.freshB (bU B_0.out) k_ hk_))) (Yi (hU HB.out))); replace B_0 := Y0.mk (Y6 (bU B_0.out) hb); replace HB := Y0.mk (Y4 (hU HB.out) hb); (try clear hb); (try clear hb2); (try clear hk); (try clear hi); (try clear ho0)))
  go_ret2
  exact ⟨_, reT, by first | exact Kd.R_nil _ _ _ _ _ | exact Kd.N_nil _ _ _ _ _ | exact Kd.V_nil _ _ _ _ _ | exact Kd.Q_nil _ _ _ _ _ | exact Kd.S_nil _ _ _ _ _, hU HB.out⟩
def YG.f (l0 : List Int) (l1 : List Int) : Option (Bool) := some ((strOfNums l0).toList == (strOfNums l1).toList)
set_option maxHeartbeats 8000000 in
set_option maxRecDepth 100000 in
theorem YG.calls (A0 : Option Addr) (c0 : Nat) (l0 : List Int) (A1 : Option Addr) (c1 : Nat) (l1 : List Int) (r : Bool) (w : World) (hr0 : Kd.C (Kd.int .u8) w A0 l0.length l0) (hc0 : l0.length ≤ c0) (hr1 : Kd.C (Kd.int .u8) w A1 l1.length l1) (hc1 : l1.length ≤ c1) (h : YG.f l0 l1 = some r) :
  Calls Try.prog 40 #[.slice A0 l0.length c0, .slice A1 l1.length c1] w fun e w' => e = .returned (.bool r) ∧ Drawn0 w w' := by
 have HR0 := Y0.mk hr0
 have HC0 := Y0.mk hc0
 clear hr0 hc0
 have HR1 := Y0.mk hr1
 have HC1 := Y0.mk hc1
 clear hr1 hc1
 have H : (some ((strOfNums l0).toList == (strOfNums l1).toList)) = some r := h
 clear h
 obtain rfl := Option.some.inj H
 have hcv3 := Kd.C_string (P := Try.prog) (A := A0) (c := c0) Try.underlying60 Try.underlying5 Try.underlying9 HR0.out
 have hcv4 := Kd.C_string (P := Try.prog) (A := A1) (c := c1) Try.underlying60 Try.underlying5 Try.underlying9 HR1.out
 go_enter Try.func40, Try.ntmps40
 go_wp2
 go_ret
 exact ⟨reS, dS⟩
def YQ.l0 : Nat → List Int → Int → Int → Option (Int)
 | 0, _, _, _ => none
 | k + 1, x0, x5, x6 => if x6 < x5 then (if 0 ≤ x6 then (if x6 < (x0.length : Int) then (if (rd x0 x6) < 128 then (some (wrap64 (x6 + 1))) else (YQ.l0 k x0 x5 (wrap64 (x6 + 1)))) else (none)) else (none)) else (some 0)
def YQ.f (k : Nat) (l0 : List Int) : Option (Int) := YQ.l0 k l0 (l0.length : Int) 0
theorem YQ.mono_l : ∀ k, (∀ y0 y1 y2, LeO (YQ.l0 k y0 y1 y2) (YQ.l0 (k + 1) y0 y1 y2))
 | 0 => fun _ _ _ r h => by simp [YQ.l0] at h
 | k + 1 => by
  have ih0 := YQ.mono_l k
  ·intro y0 y1 y2
   unfold YQ.l0
   repeat' first
   | (with_reducible exact ih0 _ _ _)
   | (with_reducible exact LeO.refl _)
   | (with_reducible exact LeO.none _)
   | (with_reducible refine LeO.ite ?_ ?_)
   | (with_reducible refine LeO.bind ?_ (fun _ => ?_))
theorem YQ.mono : ∀ a0 k, LeO (YQ.f k a0) (YQ.f (k + 1) a0) := by
 intro a0 k
 have ih0 := YQ.mono_l k
 unfold YQ.f
 repeat' first
   | (with_reducible exact ih0 _ _ _)
   | (with_reducible exact LeO.refl _)
   | (with_reducible exact LeO.none _)
   | (with_reducible refine LeO.ite ?_ ?_)
   | (with_reducible refine LeO.bind ?_ (fun _ => ?_))
set_option maxHeartbeats 8000000 in
set_option maxRecDepth 100000 in
theorem YQ.calls (k : Nat) (A0 : Option Addr) (c0 : Nat) (l0 : List Int) (r : Int) (w : World) (hr0 : Kd.C (Kd.int .u8) w A0 l0.length l0) (hc0 : l0.length ≤ c0) (h : YQ.f k l0 = some r) :
  Calls Try.prog 171 #[.slice A0 l0.length c0] w fun e w' => e = .returned (.int .i64 r) ∧ Drawn0 w w' := by
 have HR0 := Y0.mk hr0
 have HC0 := Y0.mk hc0
 clear hr0 hc0
 have H : (YQ.l0 k l0 (l0.length : Int) 0) = some r := h
 clear h
 have H' := Y0.mk H
 clear H
 go_enter Try.func171, Try.ntmps171
 go_wp2
 go_loopg [6] k (fun kq v6 w' => ∃ (x6_1 : Int), v6 = .int .i64 x6_1 ∧ Y0 (YQ.l0 kq l0 (l0.length : Int) x6_1 = some r) ∧ Y0 (kq ≤ k) ∧ Drawn0 w w')
 case atStart => exact ⟨(0), reS, H', ⟨Nat.le_refl _⟩, dS⟩
 case round =>
  clear H'
  try clear c1
  obtain ⟨x6_1, rfl, HA, HK1, ⟨m1, rfl⟩⟩ := hrel
  cases gk with
  | zero => exact absurd HA.out (by simp [YQ.l0])
  | succ k1 =>
   have H := HA.out
   clear HA
   simp only [YQ.l0] at H
   by_cases c2 : x6_1 < (l0.length : Int)
   ·rw [if_pos c2] at H
    have c2b0 := decide_eq_true c2
    clear c2
    obtain ⟨c3, H⟩ := iS H
    have c3b0 := decide_eq_true c3
    clear c3
    obtain ⟨c4, H⟩ := iS H
    have c4b0 := decide_eq_true c4
    clear c4
    by_cases c5 : (rd l0 x6_1) < 128
    ·rw [if_pos c5] at H
     have c5b0 := decide_eq_true c5
     clear c5
     obtain rfl := Option.some.inj H
     have p1095 : 0 ≤ (x6_1 : Int) := of_decide_eq_true (by first | (with_reducible assumption) | assumption)
     have q1095 : x6_1 < (l0.length : Int) := of_decide_eq_true (by first | (with_reducible assumption) | assumption)
     obtain ⟨d_0, e1095, m_0⟩ := Kd.at_int HR0.out x6_1 p1095 q1095
     cases e1095
     replace p1095 := eq_true p1095
     replace q1095 := eq_true q1095
     go_wp2
     go_ret
     exact ⟨reS, dS⟩
    ·rw [if_neg c5] at H
     have c5b0 := decide_eq_false c5
     clear c5
     have H' := Y0.mk H
     clear H
     have p1095 : 0 ≤ (x6_1 : Int) := of_decide_eq_true (by first | (with_reducible assumption) | assumption)
     have q1095 : x6_1 < (l0.length : Int) := of_decide_eq_true (by first | (with_reducible assumption) | assumption)
     obtain ⟨d_0, e1095, m_0⟩ := Kd.at_int HR0.out x6_1 p1095 q1095
     cases e1095
     replace p1095 := eq_true p1095
     replace q1095 := eq_true q1095
     go_wp2
     go_roundg k1
     case measure => have := HK1.out; omega
     case rel => exact ⟨(wrap64 (x6_1 + 1)), reS, H', ⟨by have := HK1.out; omega⟩, dS⟩
   ·rw [if_neg c2] at H
    have c2b0 := decide_eq_false c2
    clear c2
    obtain rfl := Option.some.inj H
    go_wp2
    go_ret
    exact ⟨reS, dS⟩
def YA.f (a0 : Int) (a1 : Int) : Option (Int × Int × Int × Int × Int × Bool × Int × Int × Int × Int × Int × Int × Int) := some (a0, 2, 0, 1, 2, false, 2, 0, 0, a1, 0, 0, 0)
set_option maxHeartbeats 8000000 in
set_option maxRecDepth 100000 in
theorem YA.calls (a0 : Int) (a1 : Int) (r1 : Int) (r2 : Int) (r3 : Int) (r4 : Int) (r5 : Int) (r6 : Bool) (r7 : Int) (r8 : Int) (r9 : Int) (r10 : Int) (r11 : Int) (r12 : Int) (r13 : Int) (w : World) (h : YA.f a0 a1 = some (r1, r2, r3, r4, r5, r6, r7, r8, r9, r10, r11, r12, r13)) :
  Calls Try.prog 80 #[.int .i64 a0, .int .i64 a1] w fun e w' => e = .returned (.agg #[.int .i64 r1, .int .i64 r2, .int .i64 r3, .int .i64 r4, .int .i64 r5, .bool r6, .int .i64 r7, .int .i64 r8, .int .i64 r9, .int .i64 r10, .int .i64 r11, .int .i64 r12, .int .i64 r13]) ∧ Below w.heap.size w w' := by
 have hu30 := Try.underlying30
 have hu26 := Try.underlying26
 have hu28 := Try.underlying28
 have HB := Y0.mk (Below.refl w.heap.size w)
 have H : (some (a0, 2, 0, 1, 2, false, 2, 0, 0, a1, 0, 0, 0)) = some (r1, r2, r3, r4, r5, r6, r7, r8, r9, r10, r11, r12, r13) := h
 clear h
 simp only [Option.some.injEq, Prod.mk.injEq] at H
 obtain ⟨rfl, rfl, rfl, rfl, rfl, rfl, rfl, rfl, rfl, rfl, rfl, rfl, rfl⟩ := H
 go_enter Try.func80, Try.ntmps80
 go_wp2_with (first | ((with_reducible refine Yl (N := 4) rfl ?_); refine Yk ?hg (N := 4) ?hd (cs := #[.int .i64 0, .int .i64 0, .int .i64 0, .int .i64 0, .int .i64 0, .bool false, .int .i64 0, .int .i64 0, .int .i64 0, .int .i64 0, .int .i64 0, .int .i64 0, .int .i64 0]) (t := 30) ?hr ?_; (case hd => rfl); (case hg => rfl); (case hr => first | (go_simp; done) | (go_simp; rfl)); intro g_1 hg w3 hbox hb; have n0_ := Y0.mk (Y4 (hU HB.out) hb); have n1_ := Y0.mk (hbox); have n2_ := gE hg HB; have n3_ := gE hg HB; clear HB; have HB := n0_; have B_0 := n1_; have W_0 := n2_; have G_0 := n3_; clear n0_ n1_ n2_ n3_; clear hb hbox hg; have z_0 := Y1 B_0.out; have f_1 := Y3 B_0.out))
 refine bodyPost_ret (results_cell_row rfl _ _ g_1 30 #[.int .i64 a0, .int .i64 2, .int .i64 0, .int .i64 1, .int .i64 2, .bool false, .int .i64 2, .int .i64 0, .int .i64 0, .int .i64 a1, .int .i64 0, .int .i64 0, .int .i64 0] (0, 0) _ rfl (by (with_reducible repeat (first | refine Yh ?_ _ | refine Yd ?_ | refine Yc ?_ _)); apply Yw; (iterate 12 ((with_reducible repeat (first | refine Yh ?_ _ | refine Yd ?_ | refine Yc ?_ _)); apply Y1l)); (with_reducible repeat (first | refine Yh ?_ _ | refine Yd ?_ | refine Yc ?_ _)); exact B_0.out; simp only [List.setIfInBounds_toArray, List.set_cons_zero, List.set_cons_succ]) Try.underlying30 rfl (by kernel_rfl)) rfl ?_
 exact ⟨reT, hU HB.out⟩
def YE.f  : Option (Int × Int × Int × Int × Int × Bool × Int × Int × Int × Int × Int × Int × Int) := some (3, 2, 0, 1, 2, true, 0, 0, 0, 0, 0, 0, 0)
set_option maxHeartbeats 8000000 in
set_option maxRecDepth 100000 in
theorem YE.calls  (r1 : Int) (r2 : Int) (r3 : Int) (r4 : Int) (r5 : Int) (r6 : Bool) (r7 : Int) (r8 : Int) (r9 : Int) (r10 : Int) (r11 : Int) (r12 : Int) (r13 : Int) (w : World) (h : YE.f  = some (r1, r2, r3, r4, r5, r6, r7, r8, r9, r10, r11, r12, r13)) :
  Calls Try.prog 81 #[] w fun e w' => e = .returned (.agg #[.int .i64 r1, .int .i64 r2, .int .i64 r3, .int .i64 r4, .int .i64 r5, .bool r6, .int .i64 r7, .int .i64 r8, .int .i64 r9, .int .i64 r10, .int .i64 r11, .int .i64 r12, .int .i64 r13]) ∧ Below w.heap.size w w' := by
 have hu30 := Try.underlying30
 have hu26 := Try.underlying26
 have HB := Y0.mk (Below.refl w.heap.size w)
 have H : (some (3, 2, 0, 1, 2, true, 0, 0, 0, 0, 0, 0, 0)) = some (r1, r2, r3, r4, r5, r6, r7, r8, r9, r10, r11, r12, r13) := h
 clear h
 simp only [Option.some.injEq, Prod.mk.injEq] at H
 obtain ⟨rfl, rfl, rfl, rfl, rfl, rfl, rfl, rfl, rfl, rfl, rfl, rfl, rfl⟩ := H
 go_enter Try.func81, Try.ntmps81
 go_wp2_with (first | ((with_reducible refine Yl (N := 0) rfl ?_); refine Yk ?hg (N := 0) ?hd (cs := #[.int .i64 0, .int .i64 0, .int .i64 0, .int .i64 0, .int .i64 0, .bool false, .int .i64 0, .int .i64 0, .int .i64 0, .int .i64 0, .int .i64 0, .int .i64 0, .int .i64 0]) (t := 30) ?hr ?_; (case hd => rfl); (case hg => rfl); (case hr => first | (go_simp; done) | (go_simp; rfl)); intro g_0 hg w1 hbox hb; have n0_ := Y0.mk (Y4 (hU HB.out) hb); have n1_ := Y0.mk (hbox); have n2_ := gE hg HB; have n3_ := gE hg HB; clear HB; have HB := n0_; have B_1 := n1_; have W_1 := n2_; have G_1 := n3_; clear n0_ n1_ n2_ n3_; clear hb hbox hg; have z_1 := Y1 B_1.out; have f_0 := Y3 B_1.out))
 refine bodyPost_ret (results_cell_row rfl _ _ g_0 30 #[.int .i64 3, .int .i64 2, .int .i64 0, .int .i64 1, .int .i64 2, .bool true, .int .i64 0, .int .i64 0, .int .i64 0, .int .i64 0, .int .i64 0, .int .i64 0, .int .i64 0] (0, 0) _ rfl (by (with_reducible repeat (first | refine Yh ?_ _ | refine Yd ?_ | refine Yc ?_ _)); apply Yw; (iterate 12 ((with_reducible repeat (first | refine Yh ?_ _ | refine Yd ?_ | refine Yc ?_ _)); apply Y1l)); (with_reducible repeat (first | refine Yh ?_ _ | refine Yd ?_ | refine Yc ?_ _)); exact B_1.out; simp only [List.setIfInBounds_toArray, List.set_cons_zero, List.set_cons_succ]) Try.underlying30 rfl (by kernel_rfl)) rfl ?_
 exact ⟨reT, hU HB.out⟩
end Go.Proofs.Yteopkkoblbmggaa.P
end
section
set_option linter.unusedVariables false
set_option linter.unusedSimpArgs false
namespace Go.Proofs.Yteopkkoblbmggaa.P
open Go.RowKit Go.Maps Go.Proofs.YteopkkoblbmggaaW.PrintWords Go.Proofs.YteopkkoblbmggaaW.PrintLast Go.Proofs.YteopkkoblbmggaaW.PrintMore
theorem Y44 : laidOutB Try.prog = true := by kernel_rfl
theorem rowS : (82 : TypeId) < Try.prog.types.size := of_decide_eq_true (by kernel_rfl)
theorem wideS : (match Try.prog.underlying 82 with | some (.array _ _) | some (.struct _) => true | _ => false) = true := by kernel_rfl
set_option maxRecDepth 100000 in
theorem lawS : Go.Maps.Keyed Try.prog 82 := Go.Maps.Keyed.of_law (deep_law_laid Y44 (m := 3) (by omega) rowS (by kernel_rfl) wideS)
theorem keyTS : Try.prog.keyType 82 = true := by kernel_rfl
theorem Y5S : Try.prog.cellsOf 82 = 3 := by kernel_rfl
theorem Y4G : Try.prog.cellsOf 26 = 2 := by kernel_rfl
theorem Y5R : Try.prog.cellsOf 3 = 1 := by kernel_rfl
theorem sizeS : ∃ m, Try.prog.types.size = m + 3 := ⟨Try.prog.types.size - 3, by have : 3 ≤ Try.prog.types.size := of_decide_eq_true (by kernel_rfl); omega⟩
def okN (n : Int) : Prop := (Lit.int .i64 n).wf = true
def kS (p c d : Int) : Lit := .string (keyBytes [.int .i64 p, .int .i64 c, .int .i64 d])
theorem Y2h {p c d : Int} (h1 : okN p) (h2 : okN c) (h3 : okN d) : keyOf Try.prog 82 (.agg #[.int .i64 p, .int .i64 c, .int .i64 d]) = some (kS p c d) := by
  unfold okN at h1 h2 h3
  obtain ⟨m, hm⟩ := sizeS
  unfold keyOf
  rw [Try.underlying82]
  simp only [keyTS, Value.formed, Try.underlying82, Y5S, hm]
  simp [Program.keyLits, Try.underlying82, Try.underlying26, Try.underlying3, Y5S, Y4G, Y5R, h1, h2, h3, Value.cells, kS]
  rw [if_pos (by decide)]; rfl
theorem Y6I {p c d p' c' d' : Int} (h1 : okN p) (h2 : okN c) (h3 : okN d) (h1' : okN p') (h2' : okN c') (h3' : okN d') (h : kS p c d = kS p' c' d') : p = p' ∧ c = c' ∧ d = d' := by
  have := lawS.inj (Y2h h1 h2 h3) (h ▸ Y2h h1' h2' h3')
  simp at this
  exact this
theorem Y25 {H : Type} {P : Program} {e : TypeId} (he : P.underlying e = some .bool) {v : Value} {z : DataW H × List MemPlace} (h : plainElem P e v = some z) : ∃ x, v = .bool x ∧ z = (.lit (.bool x), []) := by
  unfold plainElem at h
  rw [he] at h
  cases v <;> simp at h
  exact ⟨_, rfl, h.symm⟩
theorem zeroB (w : World) : (zeroValue 4).run Try.prog w = .ok (.bool false) w := by kernel_rfl
theorem Y27 {H : Type} {P : Program} (w : World) {ops : Array Oper} {rest : List Oper} {o : Oper} {a : Act} {Q : Exit → Act → World → Prop}
    (hg : o.guard = none) (m x : Operand) (t : TypeId) (hop : o.op = Op.lookup t m x false)
    (k e : TypeId) (K : Keyed P k) (ht : P.underlying t = some (.map k e)) (he : P.underlying e = some .bool) (hz : (zeroValue e).run P w = .ok (.bool false) w) (b n : Nat) (D : DataW H)
    (hm : a.eval m = .map (some b)) (hown : w.ownsMap P k (plainElem P e) b n D) (key : Value) (kl : Lit) (hx : a.eval x = key) (hkey : keyOf P k key = some kl) (r : Bool) (hr : D.atKey kl (.lit (.bool false)) = .lit (.bool r))
    (hK : wpList P ops Q rest (a.put o.dst (.bool r)) w) :
    wpList P ops Q (o :: rest) a w := by
  refine wpList_plain hg fun K' hK' => ?_
  obtain ⟨v, ps, hrun, hv⟩ := hown.lookup K ht hz (plainElem_bool he false) hkey
  obtain ⟨c, rfl, hc⟩ := Y25 he hv
  simp only [Prod.mk.injEq] at hc
  have hcr : c = r := by
    have := hc.1.symm.trans hr
    simpa using this
  subst hcr
  unfold Oper.wp
  simp [execOp, hop, hm, hx, hrun, Result.andThen]
  exact hK' _ _ hK
def SaysB (D : DataW Unit) (f : Int → Int → Int → Bool) : Prop := ∀ p c d, okN p → okN c → okN d → D.atKey (kS p c d) (.lit (.bool false)) = .lit (.bool (f p c d))
theorem Y5j {D : DataW Unit} {f : Int → Int → Int → Bool} (h : SaysB D f) (hD : IsMap D) {p c d : Int} (h1 : okN p) (h2 : okN c) (h3 : okN d) :
    SaysB (D.put (kS p c d) (.lit (.bool true))) (fun p' c' d' => f p' c' d' || decide (p' = p ∧ c' = c ∧ d' = d)) := by
  intro p' c' d' g1 g2 g3
  by_cases e : p' = p ∧ c' = c ∧ d' = d
  · obtain ⟨rfl, rfl, rfl⟩ := e
    rw [atKey_put_same hD (lawS.key (Y2h h1 h2 h3))]
    simp
  · have hne : kS p' c' d' ≠ kS p c d := fun q => e (Y6I g1 g2 g3 h1 h2 h3 q)
    rw [atKey_put_other hne, h p' c' d' g1 g2 g3]
    simp [e]
end Go.Proofs.Yteopkkoblbmggaa.P
end
section
set_option linter.unusedVariables false
set_option linter.unusedSimpArgs false
namespace Go.Proofs.Yteopkkoblbmggaa.P
open Go.RowKit Go.Maps Go.Proofs.YteopkkoblbmggaaW.PrintWords Go.Proofs.YteopkkoblbmggaaW.PrintLast Go.Proofs.YteopkkoblbmggaaW.PrintMore
attribute [local go_sem high] eqA26
theorem Y1J {xs : List S30} {i : Nat} (h : i < xs.length) : Y2 xs (i : Int) = xs[i] := by
  unfold Y2; rw [Int.toNat_natCast, List.getD_eq_getElem?_getD, List.getElem?_eq_getElem h, Option.getD_some]
def fndsE (e : S30) : Bool := !e.f3 && (e.f0.f0 == e.f2.f0 && (e.f0.f1 == e.f2.f1))
def fouB (l : List S30) (p c d : Int) : Bool := l.any (fun e => fndsE e && decide (p = e.f1 ∧ c = e.f2.f0 ∧ d = e.f2.f1))
def okE30 (e : S30) : Prop := okN e.f1 ∧ okN e.f2.f0 ∧ okN e.f2.f1
theorem Y4Q (l : List S30) (i : Nat) (h : i < l.length) : (fun p c d => fouB (l.take (i + 1)) p c d) = fun p c d => fouB (l.take i) p c d || (fndsE l[i] && decide (p = l[i].f1 ∧ c = l[i].f2.f0 ∧ d = l[i].f2.f1)) := by
  funext p c d
  unfold fouB
  rw [List.take_add_one, List.getElem?_eq_getElem h, List.any_append]
  simp
set_option maxHeartbeats 4000000 in
set_option maxRecDepth 100000 in
theorem Y29 (A0 : Option Addr) (c0 : Nat) (l0 : List S30) (w : World) (hr0 : Kd.C k30 w A0 l0.length l0) (hc0 : l0.length ≤ c0) (hlen : l0.length ≤ 1000000) (hv : ∀ e ∈ l0, okE30 e) :
    Calls Try.prog 57 #[.slice A0 l0.length c0] w fun e w' => ∃ B D, e = .returned (.map (some B)) ∧ World.ownsMap (H := Unit) w' Try.prog 82 (plainElem Try.prog 4) B l0.length D ∧ SaysB D (fouB l0) ∧ w.heap.size ≤ B ∧ Below w.heap.size w w' := by
  have HR := Y0.mk hr0
  have HC := Y0.mk hc0
  have HN := Y0.mk hlen
  have HV := Y0.mk hv
  have HB := Y0.mk (Below.refl w.heap.size w)
  have hmm := @run_makeMap Try.prog
  clear hr0 hc0 hlen hv
  go_enter Try.func57, Try.ntmps57
  go_wp2
  go_loopg [9] l0.length (fun kq v9 W => ∃ (i : Nat) (D : DataW Unit), v9 = .int .i64 (i : Int) ∧ Y0 (i + kq = l0.length) ∧ Y0 (World.ownsMap W Try.prog 82 (plainElem Try.prog 4) w.heap.size i D) ∧ Y0 (SaysB D (fouB (l0.take i))) ∧ Y0 (Below w.heap.size w W))
  case atStart => exact ⟨0, .map [], rfl, ⟨by omega⟩, ⟨World.ownsMap_made _ _ _ _⟩, ⟨fun p c d _ _ _ => rfl⟩, ⟨YH (Below.refl _ _) _⟩⟩
  case round =>
    clear HB
    obtain ⟨i, D, rfl, HK, HO, HS, HB⟩ := hrel
    cases gk with
    | zero =>
      have hi : i = l0.length := by have := HK.out; omega
      have hlt : decide (i < l0.length) = false := by simp; omega
      have ho := HO.out
      have hs := HS.out
      rw [hi, List.take_length] at hs
      rw [hi] at ho
      clear hi HO HS
      have HO := Y0.mk ho
      have HS := Y0.mk hs
      clear ho hs
      go_wp2
      go_ret
      exact ⟨_, D, rfl, HO.out, HS.out, Nat.le_refl _, HB.out⟩
    | succ k1 =>
      have hi : i < l0.length := by have := HK.out; omega
      have hlt : decide (i < l0.length) = true := by simp; exact hi
      obtain ⟨ad, e0, hx0, hx1, hx2, hx3, hx4, hx5, hx6, hx7, hx8, hx9, hx10, hx11, hx12⟩ := Y1v HR.out (i : Int) (by omega) (by omega)
      cases e0
      rw [Int.toNat_natCast] at hx0 hx1 hx2 hx3 hx4 hx5 hx6 hx7 hx8 hx9 hx10 hx11 hx12
      rw [Y1J hi] at hx0 hx1 hx2 hx3 hx4 hx5 hx6 hx7 hx8 hx9 hx10 hx11 hx12
      replace hx0 := (HB.out.cell (World.block_lt_of_cell? w _ hx0)).trans hx0
      replace hx1 := (HB.out.cell (World.block_lt_of_cell? w _ hx1)).trans hx1
      replace hx2 := (HB.out.cell (World.block_lt_of_cell? w _ hx2)).trans hx2
      replace hx3 := (HB.out.cell (World.block_lt_of_cell? w _ hx3)).trans hx3
      replace hx4 := (HB.out.cell (World.block_lt_of_cell? w _ hx4)).trans hx4
      replace hx5 := (HB.out.cell (World.block_lt_of_cell? w _ hx5)).trans hx5
      replace hx6 := (HB.out.cell (World.block_lt_of_cell? w _ hx6)).trans hx6
      replace hx7 := (HB.out.cell (World.block_lt_of_cell? w _ hx7)).trans hx7
      replace hx8 := (HB.out.cell (World.block_lt_of_cell? w _ hx8)).trans hx8
      replace hx9 := (HB.out.cell (World.block_lt_of_cell? w _ hx9)).trans hx9
      replace hx10 := (HB.out.cell (World.block_lt_of_cell? w _ hx10)).trans hx10
      replace hx11 := (HB.out.cell (World.block_lt_of_cell? w _ hx11)).trans hx11
      replace hx12 := (HB.out.cell (World.block_lt_of_cell? w _ hx12)).trans hx12
      have q0 : (0 ≤ ((i : Nat) : Int)) = True := by simp
      have q1 : (((i : Nat) : Int) < (l0.length : Int)) = True := by simp; exact hi
      have HT := Y0.mk (Y4Q l0 i hi)
      have HE := Y0.mk (HV.out _ (List.getElem_mem hi))
      generalize l0[i]'hi = x at hx0 hx1 hx2 hx3 hx4 hx5 hx6 hx7 hx8 hx9 hx10 hx11 hx12 HT HE
      have HI := Y0.mk hi
      clear hi
      go_upto_region 5 with (fail)
      have HB1 : Y0 (Below w.heap.size w (wr.alloc (.cells #[.int .i64 x.f0.f0, .int .i64 x.f0.f1, .int .i64 x.f1, .int .i64 x.f2.f0, .int .i64 x.f2.f1, .bool x.f3, .int .i64 x.f4.f0, .int .i64 x.f4.f1, .int .i64 x.f4.f2, .int .i64 x.f4.f3, .int .i64 x.f4.f4, .int .i64 x.f4.f5, .int .i64 x.f4.f6] 30))) := ⟨YH HB.out _⟩
      have HO1 : Y0 (World.ownsMap (H := Unit) (wr.alloc (.cells #[.int .i64 x.f0.f0, .int .i64 x.f0.f1, .int .i64 x.f1, .int .i64 x.f2.f0, .int .i64 x.f2.f1, .bool x.f3, .int .i64 x.f4.f0, .int .i64 x.f4.f1, .int .i64 x.f4.f2, .int .i64 x.f4.f3, .int .i64 x.f4.f4, .int .i64 x.f4.f5, .int .i64 x.f4.f6] 30)) Try.prog 82 (plainElem Try.prog 4) w.heap.size i D) := ⟨HO.out.alloc _⟩
      have B5 : Y0 ((wr.alloc (.cells #[.int .i64 x.f0.f0, .int .i64 x.f0.f1, .int .i64 x.f1, .int .i64 x.f2.f0, .int .i64 x.f2.f1, .bool x.f3, .int .i64 x.f4.f0, .int .i64 x.f4.f1, .int .i64 x.f4.f2, .int .i64 x.f4.f3, .int .i64 x.f4.f4, .int .i64 x.f4.f5, .int .i64 x.f4.f6] 30)).heap[wr.heap.size]? = some (.cells #[.int .i64 x.f0.f0, .int .i64 x.f0.f1, .int .i64 x.f1, .int .i64 x.f2.f0, .int .i64 x.f2.f1, .bool x.f3, .int .i64 x.f4.f0, .int .i64 x.f4.f1, .int .i64 x.f4.f2, .int .i64 x.f4.f3, .int .i64 x.f4.f4, .int .i64 x.f4.f5, .int .i64 x.f4.f6] 30 (0, 0))) := ⟨Y1x _ _⟩
      generalize (wr.alloc (.cells #[.int .i64 x.f0.f0, .int .i64 x.f0.f1, .int .i64 x.f1, .int .i64 x.f2.f0, .int .i64 x.f2.f1, .bool x.f3, .int .i64 x.f4.f0, .int .i64 x.f4.f1, .int .i64 x.f4.f2, .int .i64 x.f4.f3, .int .i64 x.f4.f4, .int .i64 x.f4.f5, .int .i64 x.f4.f6] 30)) = W1 at HB1 HO1 B5 ⊢
      generalize wr.heap.size = g5 at B5 ⊢
      clear HO HB hx0 hx1 hx2 hx3 hx4 hx5 hx6 hx7 hx8 hx9 hx10 hx11 hx12
      have hc5 := Y1 B5.out
      have skip_ : fndsE x = false → SaysB D (fouB (l0.take (i + 1))) := fun e => by
        have h := HT.out
        rw [e] at h
        simp only [Bool.false_and, Bool.or_false] at h
        have h2 := HS.out
        unfold SaysB at h2 ⊢
        intro p c d g1 g2 g3
        rw [h2 p c d g1 g2 g3, congrFun (congrFun (congrFun h p) c) d]
      have HSK := Y0.mk skip_
      clear skip_
      by_cases c0_ : x.f3 = true
      · have hf : fndsE x = false := by unfold fndsE; rw [c0_]; rfl
        have HF := Y0.mk hf
        clear hf
        go_wp2
        go_roundg k1
        case measure => have := HK.out; omega
        case rel => exact ⟨i + 1, D, by first | (simp; done) | (simp; unfold wrap64; have := HN.out; have := HI.out; omega), ⟨by have := HK.out; omega⟩, ⟨HO1.out.mono (Nat.le_succ _)⟩, ⟨HSK.out HF.out⟩, HB1⟩
      · have c0b : x.f3 = false := Bool.eq_false_iff.mpr c0_
        clear c0_
        by_cases c1_ : x.f0.f0 = x.f2.f0
        · have b1_ : (x.f0.f0 == x.f2.f0) = true := beq_iff_eq.mpr c1_
          by_cases c2_ : x.f0.f1 = x.f2.f1
          · have b2_ : (x.f0.f1 == x.f2.f1) = true := beq_iff_eq.mpr c2_
            have hf : fndsE x = true := by unfold fndsE; rw [c0b, b1_, b2_]; rfl
            have hput := Y5j HS.out HO1.out.isMap HE.out.1 HE.out.2.1 HE.out.2.2
            have HP : Y0 (SaysB (D.put (kS x.f1 x.f2.f0 x.f2.f1) (.lit (.bool true))) (fouB (l0.take (i + 1)))) := ⟨by
              have h := HT.out
              rw [hf] at h
              simp only [Bool.true_and] at h
              intro p c d g1 g2 g3
              rw [hput p c d g1 g2 g3, congrFun (congrFun (congrFun h p) c) d]⟩
            clear hput hf c1_ c2_
            go_wp2_with (first | (at_mapUpdate; refine wpList_mapUpdate_own _ rfl _ _ _ 79 rfl 82 4 lawS Try.underlying79 _ w.heap.size i D rfl HO1.out (by unfold maxLen; have := HN.out; have := HI.out; omega) _ _ _ rfl rfl (Y2h HE.out.1 HE.out.2.1 HE.out.2.2) _ [] (plainElem_bool Try.underlying4 true) ?_; intro w1 hown1 hgrow1; have HO2 := Y0.mk hown1; have HB2 := Y0.mk (HB1.out.grown hgrow1 (Yi HB1.out) (fun j hj => by cases hj; exact Nat.le_refl _)); clear hown1 hgrow1))
            go_roundg k1
            case measure => have := HK.out; omega
            case rel => exact ⟨i + 1, _, by first | (simp; done) | (simp; unfold wrap64; have := HN.out; have := HI.out; omega), ⟨by have := HK.out; omega⟩, HO2, HP, HB2⟩
          · have b2_ : (x.f0.f1 == x.f2.f1) = false := beq_eq_false_iff_ne.mpr c2_
            have hf : fndsE x = false := by unfold fndsE; rw [b2_, Bool.and_false, Bool.and_false]
            have HF := Y0.mk hf
            clear hf c1_ c2_
            go_wp2
            go_roundg k1
            case measure => have := HK.out; omega
            case rel => exact ⟨i + 1, D, by first | (simp; done) | (simp; unfold wrap64; have := HN.out; have := HI.out; omega), ⟨by have := HK.out; omega⟩, ⟨HO1.out.mono (Nat.le_succ _)⟩, ⟨HSK.out HF.out⟩, HB1⟩
        · have b1_ : (x.f0.f0 == x.f2.f0) = false := beq_eq_false_iff_ne.mpr c1_
          have hf : fndsE x = false := by unfold fndsE; rw [b1_, Bool.false_and, Bool.and_false]
          have HF := Y0.mk hf
          clear hf c1_
          go_wp2
          go_roundg k1
          case measure => have := HK.out; omega
          case rel => exact ⟨i + 1, D, by first | (simp; done) | (simp; unfold wrap64; have := HN.out; have := HI.out; omega), ⟨by have := HK.out; omega⟩, ⟨HO1.out.mono (Nat.le_succ _)⟩, ⟨HSK.out HF.out⟩, HB1⟩
end Go.Proofs.Yteopkkoblbmggaa.P
end
section
set_option linter.unusedVariables false
namespace Go.Proofs.Yteopkkoblbmggaa.P
open Go
theorem Y21 {P : Program} (w : World) (dT sT ty elem : TypeId) (g o dLen dCap : Nat) (a : Addr) (sLen sCap sz : Nat) (cur : Array Value) (t : TypeId) (cs : List Value)
    (hu : P.underlying dT = some (.slice elem)) (hs : (P.info? elem).map (·.size) = some sz)
    (hg : w.heap[g]? = some (.cells cur t (0, 0))) (hn : cs.length = Nat.min sLen dLen * sz)
    (hsrc : ∀ j v, cs[j]? = some v → w.cell? (a.add j) = some v) (hfit : o + cs.length ≤ cur.size) (h1 : ∀ v ∈ cs, v.oneCell' = true) :
    (Builtin.copy_ #[dT, sT] ty #[.slice (some ⟨g, o, none⟩) dLen dCap, .slice (some a) sLen sCap]).run P w =
      .ok (goInt (Nat.min sLen dLen)) (w.setRow g (cur.toList.take o ++ cs ++ cur.toList.drop (o + cs.length)).toArray) := by
  have hl := run_loadCells_list (P := P) w a cs hsrc
  have hst := run_storeCells_at P g o t cs 0 cur w hg (by simpa using hfit) h1
  cases hq : P.info? elem with
  | none => simp [hq] at hs
  | some i =>
    have hi : i.size = sz := by simpa [hq] using hs
    simp [Builtin.copy_, run_underlying hu, Builtin.lenOf, Builtin.firstCells, sizeOf, typeInfo, hq, hi, ← hn, hl, hst]
end Go.Proofs.Yteopkkoblbmggaa.P
end
section
set_option linter.unusedVariables false
set_option linter.unusedSimpArgs false
namespace Go.Proofs.Yteopkkoblbmggaa.P
open Go.RowKit Go.Lib Go.Proofs.YteopkkoblbmggaaW.PrintWords Go.Proofs.YteopkkoblbmggaaW.PrintLast Go.Proofs.YteopkkoblbmggaaW.PrintMore
theorem Y6R (w : World) : (Go.sizeOf 30).run Try.prog w = .ok 13 w := by kernel_rfl
theorem Y3h : (Try.prog.info? 30).map (·.size) = some 13 := by kernel_rfl
set_option maxHeartbeats 8000000 in
set_option maxRecDepth 100000 in
theorem Y4S (g cap n i vb : Nat) (cur : Array Value) (ec : List Value) (w : World) (hi : i < n) (hroom : n + 1 ≤ cap) (hc63 : cap ≤ 9223372036854775807) (hn : n ≤ 1000000)
    (hg : w.heap[g]? = some (.cells cur 30 (0, 0))) (hsz : cur.size = cap * 13) (hv : w.heap[vb]? = some (.cells ec.toArray 30 (0, 0))) (hec : ec.length = 13) (hne : vb ≠ g)
    (mid : List Value) (hmid : mid = (cur.toList.take (n * 13)).drop (i * 13)) (R1 R2 : Array Value) (hR1 : R1 = (cur.toList.take ((i + 1) * 13) ++ mid ++ cur.toList.drop ((i + 1) * 13 + mid.length)).toArray)
    (hR2 : R2 = (R1.toList.take (i * 13) ++ ec ++ R1.toList.drop (i * 13 + ec.length)).toArray)
    (h1c : ∀ v ∈ mid, v.oneCell' = true) (h1v : ∀ v ∈ ec, v.oneCell' = true) :
    Calls Try.prog 58 #[.slice (some ⟨g, 0, none⟩) n cap, .int .i64 i, .slice (some ⟨vb, 0, none⟩) 1 1] w fun e w' =>
      e = .returned (.slice (some ⟨g, 0, none⟩) (n + 1) cap) ∧ w' = (w.drew.setRow g R1).setRow g R2 := by
  have hus := Try.underlying22
  have hz2 : ¬ ((i : Int) = (n : Int)) := by omega
  have hml : mid.length = (n - i) * 13 := by rw [hmid, List.length_drop, List.length_take, Array.length_toList, hsz]; omega
  have hov : ∀ o lb cb, (callFunc 94 #[.slice (some ⟨vb, 0, none⟩) 1 1, .slice (some ⟨g, o, none⟩) lb cb]).run Try.prog w = .ok (.value (.bool false)) w := fun o lb cb => by
    rw [run_callFunc_extern Try.func94 (by kernel_rfl) (by kernel_rfl) (by kernel_rfl) (e := Extern.SlicesOverlaps.overlaps #[22, 22] #[4]) (by kernel_rfl),
      Lib.run_overlaps_apart w 22 4 30 hus 13 Y6R ⟨vb, 0, none⟩ ⟨g, o, none⟩ 1 1 lb cb hne 30 30 ec.toArray.size cur.size (by simp [World.shape?, hv]) (by simp [World.shape?, hg]) (by omega) (Y3 hv 0) (Y3 hv _)]
    rfl
  have hcp1 : ∀ ty dc sc, (Builtin.copy_ #[22, 22] ty #[.slice (some ⟨g, (i + 1) * 13, none⟩) (n - i) dc, .slice (some ⟨g, i * 13, none⟩) (n + 1 - i) sc]).run Try.prog w.drew = .ok (goInt ((n - i : Nat) : Int)) (w.drew.setRow g R1) := fun ty dc sc => by
    have h := Y21 (P := Try.prog) w.drew 22 22 ty 30 g ((i + 1) * 13) (n - i) dc ⟨g, i * 13, none⟩ (n + 1 - i) sc 13 cur 30 mid hus Y3h hg (by rw [hml]; simp only [Nat.min_def]; split <;> omega)
      (fun j v hj => by
        rw [Addr.add_lit]
        refine (Y1 hg _).trans ?_
        rw [hmid, List.getElem?_drop, List.getElem?_take] at hj
        split at hj
        · rw [Array.getElem?_toList] at hj; exact hj
        · cases hj)
      (by rw [hml, hsz]; omega) h1c
    rw [show Nat.min (n + 1 - i) (n - i) = n - i by simp only [Nat.min_def]; split <;> omega, ← hR1] at h
    exact h
  have hR1l : R1.size = cur.size := by rw [hR1, List.size_toArray, List.length_append, List.length_append, List.length_take, List.length_drop, Array.length_toList, hml, hsz]; omega
  have hvW : (w.drew.setRow g R1).heap[vb]? = some (.cells ec.toArray 30 (0, 0)) := by
    have : (w.drew.setRow g R1).heap[vb]? = w.heap[vb]? := by
      show (w.heap.modify g _)[vb]? = _
      rw [Array.getElem?_modify, if_neg (Ne.symm hne)]
    rw [this]; exact hv
  have hcp2 : ∀ ty dc, (Builtin.copy_ #[22, 22] ty #[.slice (some ⟨g, i * 13, none⟩) (n + 1 - i) dc, .slice (some ⟨vb, 0, none⟩) 1 1]).run Try.prog (w.drew.setRow g R1) = .ok (goInt 1) ((w.drew.setRow g R1).setRow g R2) := fun ty dc => by
    have h := Y21 (P := Try.prog) (w.drew.setRow g R1) 22 22 ty 30 g (i * 13) (n + 1 - i) dc ⟨vb, 0, none⟩ 1 1 13 R1 30 ec hus Y3h (setRow_heap w.drew g cur R1 30 (0, 0) hg) (by rw [hec]; simp only [Nat.min_def]; split <;> omega)
      (fun j v hj => by
        rw [Addr.add_lit]
        refine (Y1 hvW _).trans ?_
        rw [Nat.zero_add, List.getElem?_toArray]; exact hj)
      (by rw [hec, hR1l, hsz]; omega) h1v
    rw [show Nat.min 1 (n + 1 - i) = 1 by simp only [Nat.min_def]; split <;> omega, ← hR2] at h
    exact h
  have hw1 : IntKind.i64.wrap ((i : Int) + 1) = (i : Int) + 1 := by rw [IntKind.wrap_i64]; omega
  have hw2 : wrap64 ((i : Int) + 1) = (i : Int) + 1 := by unfold wrap64; omega
  have hb1 : (0 : Int) ≤ (i : Int) + 1 := by omega
  have hin : i ≤ n := by omega
  have htn : ((i : Int) + 1).toNat = i + 1 := by omega
  have hb2 : ¬ (cap = i + 1) := by omega
  have hb3 : (i : Int) ≤ (n : Int) + 1 := by omega
  have hb4 : ¬ (cap = i) := by omega
  have hb5 : i ≤ n + 1 := by omega
  clear hmid hR1 hR2 hml hR1l hvW
  have mixed : Try.prog.follows .mixedOrders = true := by kernel_rfl
  go_enter Try.func58, Try.ntmps58
  go_wp2_with (simp only [hov])
  go_region_law_o (refine step_copy_runI rfl _ _ 22 22 rfl _ _ (by simp [Act.eval, Act.put]) (by simp [Act.eval, Act.put]) (hcp1 _ _ _) ?_)
  go_wp2_with (at_builtin; refine wpList_copy_runI _ rfl _ _ 22 22 rfl _ _ rfl rfl (hcp2 _ _) ?_)
  go_ret
  exact ⟨rfl, rfl⟩
def z30v : Value := (.agg #[(.int .i64 0), (.int .i64 0), (.int .i64 0), (.int .i64 0), (.int .i64 0), (.bool false), (.int .i64 0), (.int .i64 0), (.int .i64 0), (.int .i64 0), (.int .i64 0), (.int .i64 0), (.int .i64 0)] : Value)
theorem Y3K : z30v.cells.size = 13 := by kernel_rfl
set_option maxHeartbeats 8000000 in
set_option maxRecDepth 100000 in
theorem Y5v (g cap n i vb : Nat) (cur : Array Value) (ec : List Value) (w : World) (hi : i < n) (hnc : n ≤ cap) (hroom : cap < n + 1) (hn : n ≤ 1000000)
    (hg : w.heap[g]? = some (.cells cur 30 (0, 0))) (hsz : cur.size = cap * 13) (hv : w.heap[vb]? = some (.cells ec.toArray 30 (0, 0))) (hec : ec.length = 13)
    (mid : List Value) (hmid : mid = (cur.toList.take (n * 13)).drop (i * 13)) (G : Nat) (hG : G = grownCap w (n + 1) cap 30)
    (ROW R1 R2 : Array Value) (hROW : ROW = (cur.toList.take (i * 13)).toArray ++ Builtin.zeroCells z30v.cells (n + 1 - i) ++ Builtin.zeroCells z30v.cells (G - (n + 1)))
    (hR1 : R1 = (ROW.toList.take (i * 13) ++ ec ++ ROW.toList.drop (i * 13 + ec.length)).toArray) (hR2 : R2 = (R1.toList.take ((i + 1) * 13) ++ mid ++ R1.toList.drop ((i + 1) * 13 + mid.length)).toArray)
    (h1c : ∀ v ∈ mid, v.oneCell' = true) (h1v : ∀ v ∈ ec, v.oneCell' = true) :
    Calls Try.prog 58 #[.slice (some ⟨g, 0, none⟩) n cap, .int .i64 i, .slice (some ⟨vb, 0, none⟩) 1 1] w fun e w' =>
      e = .returned (.slice (some ⟨w.heap.size, 0, none⟩) (n + 1) G) ∧ w' = (((w.drew.alloc (.cells ROW 30)).setRow w.heap.size R1).drew).setRow w.heap.size R2 := by
  have HG := Y0.mk hG
  clear hG
  have hus := Try.underlying22
  obtain ⟨i0, hi0, hz0, hzs, hzb⟩ := info_parts Y2m
  have hz2 : ¬ ((i : Int) = (n : Int)) := by omega
  have hci : ¬ (cap = i) := by omega
  have hw1 : IntKind.i64.wrap ((i : Int) + 1) = (i : Int) + 1 := by rw [IntKind.wrap_i64]; omega
  have hw2 : wrap64 ((i : Int) + 1) = (i : Int) + 1 := by unfold wrap64; omega
  have hb1 : (0 : Int) ≤ (i : Int) + 1 := by omega
  have hin : i ≤ n := by omega
  have htn : ((i : Int) + 1).toNat = i + 1 := by omega
  have hb3 : (i : Int) ≤ (n : Int) := by omega
  have hb5 : i ≤ n + 1 := by omega
  have hb6 : i + 1 ≤ n + 1 := by omega
  have hz3 : (cap : Int) < (n : Int) + 1 := by omega
  have hml : mid.length = (n - i) * 13 := by rw [hmid, List.length_drop, List.length_take, Array.length_toList, hsz]; omega
  have hkk : (n : Int) + 1 - (i : Int) = ((n + 1 - i : Nat) : Int) := by omega
  have hik : i + (n + 1 - i) = n + 1 := by omega
  have hold : (Builtin.firstCells i0.size i (.slice (some ⟨g, 0, none⟩) i cap)).run Try.prog w.drew = .ok (cur.toList.take (i * 13)).toArray w.drew := by
    rw [hzs]
    exact run_firstCells_some w.drew 13 i ⟨g, 0, none⟩ i cap (cur.toList.take (i * 13)) (by rw [List.length_take, Array.length_toList, hsz]; omega) (fun j v hj => by
      rw [Addr.add_lit, Nat.zero_add]
      refine (Y1 hg _).trans ?_
      rw [List.getElem?_take] at hj
      split at hj
      · rw [Array.getElem?_toList] at hj; exact hj
      · cases hj)
  have hrz : ∀ ty, (Builtin.append_ #[22, 3] ty #[.slice (some ⟨g, 0, none⟩) i cap, .int .i64 ((n : Int) + 1 - (i : Int))]).run Try.prog w =
      .ok (.slice (some ⟨w.heap.size, 0, none⟩) (n + 1) G) (w.drew.alloc (.cells ROW 30)) := fun ty => by
    have h := Lib.run_append_grow_zeros w 22 3 ty 30 i0 _ .i64 .i64 hus Try.underlying3 hi0 hz0 (some ⟨g, 0, none⟩) i cap (cur.toList.take (i * 13)) hold (n + 1 - i) (by omega) (by omega) (by omega) (by omega) (by rw [hzb]; omega) (by rw [hzb, hik]; exact growslice_fits hroom (by omega))
    rw [hik, ← HG.out] at h
    rw [hkk, hROW]
    exact h
  have hgw : g < w.heap.size := Y1i hg
  have hvw : vb < w.heap.size := Y1i hv
  have hz13 := Y3K
  have hGn : n + 1 ≤ G := by rw [HG.out]; exact grownCap_ge w _ _ _
  have hG63 : G ≤ 9223372036854775807 := by
    have := grownCap_le_maxLen w (n + 1) cap 30 (by unfold maxLen; omega)
    rw [← HG.out] at this
    unfold maxLen at this
    omega
  have hRs : ROW.size = G * 13 := by
    rw [hROW]
    simp only [Array.size_append, Builtin.zeroCells, Array.size_map, Array.size_range, List.size_toArray, List.length_take, Array.length_toList, hz13, hsz]
    omega
  have hR1l : R1.size = G * 13 := by rw [hR1, List.size_toArray, List.length_append, List.length_append, List.length_take, List.length_drop, Array.length_toList, hec, hRs]; omega
  have hcpA : ∀ (W : World), W.heap = (w.drew.alloc (.cells ROW 30)).heap → ∀ ty dc, (Builtin.copy_ #[22, 22] ty #[.slice (some ⟨w.heap.size, i * 13, none⟩) (n + 1 - i) dc, .slice (some ⟨vb, 0, none⟩) 1 1]).run Try.prog W = .ok (goInt 1) (W.setRow w.heap.size R1) := fun W hW ty dc => by
    have hWn : W.heap[w.heap.size]? = some (.cells ROW 30 (0, 0)) := by rw [hW]; exact Y1x w.drew _
    have hWv : W.heap[vb]? = some (.cells ec.toArray 30 (0, 0)) := by rw [hW]; exact Yc (w := w.drew) hv _
    have h := Y21 (P := Try.prog) W 22 22 ty 30 w.heap.size (i * 13) (n + 1 - i) dc ⟨vb, 0, none⟩ 1 1 13 ROW 30 ec hus Y3h hWn (by rw [hec]; simp only [Nat.min_def]; split <;> omega)
      (fun j v hj => by
        rw [Addr.add_lit]
        refine (Y1 hWv _).trans ?_
        rw [Nat.zero_add, List.getElem?_toArray]; exact hj)
      (by rw [hec, hRs]; omega) h1v
    rw [show Nat.min 1 (n + 1 - i) = 1 by simp only [Nat.min_def]; split <;> omega, ← hR1] at h
    exact h
  have hcpB : ∀ (W : World), W.heap = ((w.drew.alloc (.cells ROW 30)).setRow w.heap.size R1).heap → ∀ ty dc sc, (Builtin.copy_ #[22, 22] ty #[.slice (some ⟨w.heap.size, (i + 1) * 13, none⟩) (n - i) dc, .slice (some ⟨g, i * 13, none⟩) (n - i) sc]).run Try.prog W = .ok (goInt ((n - i : Nat) : Int)) (W.setRow w.heap.size R2) := fun W hW ty dc sc => by
    have hWn : W.heap[w.heap.size]? = some (.cells R1 30 (0, 0)) := by rw [hW]; exact setRow_heap (w.drew.alloc (.cells ROW 30)) w.heap.size ROW R1 30 (0, 0) (Y1x w.drew _)
    have hWg : W.heap[g]? = some (.cells cur 30 (0, 0)) := by
      rw [hW]
      show ((w.drew.alloc (.cells ROW 30)).heap.modify w.heap.size _)[g]? = _
      rw [Array.getElem?_modify, if_neg (by omega)]
      exact Yc (w := w.drew) hg _
    have h := Y21 (P := Try.prog) W 22 22 ty 30 w.heap.size ((i + 1) * 13) (n - i) dc ⟨g, i * 13, none⟩ (n - i) sc 13 R1 30 mid hus Y3h hWn (by rw [hml]; simp only [Nat.min_def]; split <;> omega)
      (fun j v hj => by
        rw [Addr.add_lit]
        refine (Y1 hWg _).trans ?_
        rw [hmid, List.getElem?_drop, List.getElem?_take] at hj
        split at hj
        · rw [Array.getElem?_toList] at hj; exact hj
        · cases hj)
      (by rw [hml, hR1l]; omega) h1c
    rw [show Nat.min (n - i) (n - i) = n - i by simp only [Nat.min_def]; split <;> omega, ← hR2] at h
    exact h
  have hGi : ¬ (G = i) := by omega
  have hGim : ¬ (G = i + 1) := by omega
  have hcA := hcpA ((w.alloc (.cells ROW 30)).drew) rfl
  have hcB := hcpB ((((w.alloc (.cells ROW 30)).drew).setRow w.heap.size R1).drew) rfl
  clear hcpA hcpB
  clear hkk hik hold hROW HG hRs hR1l hR1 hR2 hmid hml hz13 hi0 hz0 hzs hzb
  have mixed : Try.prog.follows .mixedOrders = true := by kernel_rfl
  go_enter Try.func58, Try.ntmps58
  go_wp2_with (first
    | (at_builtin; refine Lib.wpList_append_run _ rfl _ _ _ _ rfl _ _ rfl rfl _ _ (hrz _) ?_))
  go_region_law_o (refine step_copy_runI rfl _ _ 22 22 rfl (.slice (some ⟨w.heap.size, (i + 1) * 13, none⟩) (n - i) (G - (i + 1))) (.slice (some ⟨g, i * 13, none⟩) (n - i) (cap - i)) (by simp [Act.eval, Act.put]) (by simp [Act.eval, Act.put]) (hcB 3 (G - (i + 1)) (cap - i)) ?_)
  go_wp2
  go_ret
  exact ⟨rfl, rfl⟩
end Go.Proofs.Yteopkkoblbmggaa.P
end
