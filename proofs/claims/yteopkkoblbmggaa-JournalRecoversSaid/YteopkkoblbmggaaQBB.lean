/- Texts of this claim in one: VP77, VOpen, VAwakeJ, VJSameP; no condition. -/
import Derived.Test.YteopkkoblbmggaaQAC
import Derived.Test.YteopkkoblbmggaaQAE
import Derived.Test.YteopkkoblbmggaaQAQ
import Derived.Test.YteopkkoblbmggaaQBA
import Derived.Test.YteopkkoblbmggaaQAP
import Derived.Test.YteopkkoblbmggaaQAB
import Derived.OpenShut
import Derived.SizedLaws
import Derived.ChangeArms
section
namespace Go.Proofs.Yteopkkoblbmggaa.P
open Go.RowKit Go.Proofs.YteopkkoblbmggaaW.PrintWords Go.Proofs.YteopkkoblbmggaaW.PrintLast Go.Proofs.YteopkkoblbmggaaW.PrintMore
attribute [local go_sem] Y11 Y13 Y19 Y1a YR YS Y12 Y14
set_option linter.unusedVariables false
set_option linter.unusedSimpArgs false
def YI.f (k : Nat) (a0 : Int) (l1 : List Int) : Option (Bool) := if (l1.length : Int) > 2000 then ((Yv.f k).bind fun t_5 => (some t_5)) else ((Yy.f k a0 l1).bind fun b_0 => ((Ye.f k a0 l1).bind fun b_1 => ((Yu.f k b_0.1 b_0.2.1 b_1.1 b_1.2.1).bind fun t_6 => (if t_6 = true then (if b_0.2.2.1 = b_1.2.2.1 then (if b_0.2.2.2 = b_1.2.2.2 then ((Yv.f k).bind fun t_4 => (some t_4)) else (none)) else (none)) else (none)))))
theorem YI.mono : ∀ a0 a1 k, LeO (YI.f k a0 a1) (YI.f (k + 1) a0 a1) := by
 intro a0 a1 k
 unfold YI.f
 repeat' first
   | (with_reducible exact Yv.mono _)
   | (with_reducible exact Ye.mono _ _ _)
   | (with_reducible exact Yu.mono _ _ _ _ _)
   | (with_reducible exact Yy.mono _ _ _)
   | (with_reducible exact LeO.refl _)
   | (with_reducible exact LeO.none _)
   | (with_reducible refine LeO.ite ?_ ?_)
   | (with_reducible refine LeO.bind ?_ (fun _ => ?_))
set_option maxHeartbeats 8000000 in
set_option maxRecDepth 100000 in
theorem YI.calls (k : Nat) (a0 : Int) (A1 : Option Addr) (c1 : Nat) (l1 : List Int) (r : Bool) (w : World) (hr1 : Kd.C (Kd.int .u8) w A1 l1.length l1) (hc1 : l1.length ≤ c1) (h : YI.f k a0 l1 = some r) :
  Calls Try.prog 12 #[.int .i64 a0, .slice A1 l1.length c1] w fun e w' => e = .returned (.bool r) ∧ Below w.heap.size w w' := by
 have hu24 := Try.underlying24
 have HR1 := Y0.mk hr1
 have HC1 := Y0.mk hc1
 clear hr1 hc1
 have HB := Y0.mk (Below.refl w.heap.size w)
 have H : (if (l1.length : Int) > 2000 then ((Yv.f k).bind fun t_5 => (some t_5)) else ((Yy.f k a0 l1).bind fun b_0 => ((Ye.f k a0 l1).bind fun b_1 => ((Yu.f k b_0.1 b_0.2.1 b_1.1 b_1.2.1).bind fun t_6 => (if t_6 = true then (if b_0.2.2.1 = b_1.2.2.1 then (if b_0.2.2.2 = b_1.2.2.2 then ((Yv.f k).bind fun t_4 => (some t_4)) else (none)) else (none)) else (none)))))) = some r := h
 clear h
 by_cases c3 : (l1.length : Int) > 2000
 ·rw [if_pos c3] at H
  have c3b0 := decide_eq_true c3
  have c3b1 : decide (2000 < l1.length) = true := decide_eq_true (by omega)
  clear c3
  obtain ⟨t_5, A40, H⟩ := bS H
  replace H : (some t_5) = some r := H
  have A4 := Y0.mk A40
  clear A40
  obtain rfl := Option.some.inj H
  go_enter Try.func12, Try.ntmps12
  go_wp2_with (first | ((with_reducible refine Y8 (f := 37) rfl ?_); refine goesA (some 14) Try.func37 #[] ?_; (with_reducible refine (Yv.calls k  t_5 _ A4.out).mono ?_); rintro e w5 ⟨rfl, hb⟩; refine ⟨_, rfl, ?_⟩; replace HB := Y0.mk (Y4 (hU HB.out) hb); (try clear hb); (try clear hb2); (try clear hk); (try clear hi)))
  go_ret
  exact ⟨reT, hU HB.out⟩
 ·rw [if_neg c3] at H
  have c3b0 := decide_eq_false c3
  have c3b1 : decide (2000 < l1.length) = false := decide_eq_false (by omega)
  clear c3
  obtain ⟨⟨t_3, t_2, t_7, t_8⟩, A60, H⟩ := bS H
  try dsimp only at H
  have A6 := Y0.mk A60
  clear A60
  obtain ⟨⟨t_1, t_0, t_a, t_9⟩, A70, H⟩ := bS H
  try dsimp only at H
  have A7 := Y0.mk A70
  clear A70
  obtain ⟨t_6, A80, H⟩ := bS H
  try dsimp only at H
  have A8 := Y0.mk A80
  clear A80
  by_cases c9 : t_6 = true
  rotate_left
  ·replace c9 := Bool.eq_false_iff.mpr c9
   subst c9
   have H1 : (none) = some r := by rw [if_neg (show ¬ (false = true) by decide)] at H; exact H
   clear H
   have H := H1
   clear H1
   exact absurd H (by simp)
  subst c9
  have H1 : (if t_7 = t_a then (if t_8 = t_9 then ((Yv.f k).bind fun t_4 => (some t_4)) else (none)) else (none)) = some r := by rw [if_pos rfl] at H; exact H
  clear H
  have H := H1
  clear H1
  obtain ⟨c10, H⟩ := iS H
  have c10b0 := bqT c10
  have c10b1 := bnF c10
  clear c10
  obtain ⟨c11, H⟩ := iS H
  have c11b0 := bqT c11
  have c11b1 := bnF c11
  clear c11
  obtain ⟨t_4, A120, H⟩ := bS H
  replace H : (some t_4) = some r := H
  have A12 := Y0.mk A120
  clear A120
  obtain rfl := Option.some.inj H
  go_enter Try.func12, Try.ntmps12
  go_wp2_with (first | ((with_reducible refine Y8 (f := 41) rfl ?_); refine goesA (some 18) Try.func41 #[.int .i64 a0, .slice A1 l1.length c1] ?_; (with_reducible refine (Yy.calls k a0 _ _ l1 t_3 t_2 t_7 t_8 _ ?side1 ?side2 A6.out).mono ?_); (case side1 => repeat (first | exact HR1.out | (with_reducible refine Kd.C_alloc ?_ _) | (with_reducible refine Kd.C_drewN ?_ _) | (with_reducible refine Kd.C_drew ?_))); (case side2 => exact HC1.out); rintro e w13 ⟨v_0, rfl, ho0, hb⟩; refine ⟨_, rfl, ?_⟩; replace O_0 := Y0.mk (Kd.R_lower ho0 (Yi (hU HB.out))); replace HB := Y0.mk (Y4 (hU HB.out) hb); (try clear hb); (try clear hb2); (try clear hk); (try clear hi); (try clear ho0)) | ((with_reducible refine Yl (N := 5) rfl ?_); refine Yk ?hg (N := 5) ?hd (cs := #[.int .i64 0, .slice none 0 0]) (t := 24) ?hr ?_; (case hd => rfl); (case hg => rfl); (case hr => first | (go_simp; done) | (go_simp; rfl)); intro g_1 hg w14 hbox hb; have n0_ := Y0.mk (Kd.R_below (Kd.rU O_0.out) hb); have n1_ := Y0.mk (Y4 (hU HB.out) hb); have n2_ := Y0.mk (hbox); have n3_ := gE hg HB; have n4_ := gE hg HB; clear O_0; clear HB; have O_0 := n0_; have HB := n1_; have B_0 := n2_; have W_0 := n3_; have G_0 := n4_; clear n0_ n1_ n2_ n3_ n4_; clear hb hbox hg; have z_1 := Y1 B_0.out; have f_1 := Y3 B_0.out; obtain ⟨Ao16, co16, eo16⟩ := Kd.R_slice O_0.out; subst eo16) | ((with_reducible refine Y8 (f := 42) rfl ?_); refine goesA (some 25) Try.func42 #[.int .i64 a0, .slice A1 l1.length c1] ?_; (with_reducible refine (Ye.calls k a0 _ _ l1 t_1 t_0 t_a t_9 _ ?side1 ?side2 A7.out).mono ?_); (case side1 => exact Kd.C_below HR1.out (hU HB.out)); (case side2 => exact HC1.out); rintro e w17 ⟨v_1, rfl, ho0, hb⟩; refine ⟨_, rfl, ?_⟩; replace O_1 := Y0.mk (Kd.R_lower (Kd.R_new' ho0 (Kd.R_lt (by (with_reducible repeat (first | apply Kd.R_alloc | apply Kd.R_drewN | apply Kd.R_drew)); exact (Kd.R_mono (Kd.R_far (p := ⟨g_1, 1, none⟩) (Kd.R_far (p := ⟨g_1, 0, none⟩) (Kd.R_types O_0.out B_0.out (by decide)) (fun _ hk => hk.2) (.int .i64 t_3)) (fun _ hk => hk.2) (.slice Ao16 t_2.length co16)) (fun _ h_ => h_.1))))) (Yi (hU HB.out))); replace O_0 := Y0.mk (Kd.R_elder' (by (with_reducible repeat (first | apply Kd.R_alloc | apply Kd.R_drewN | apply Kd.R_drew)); exact (Kd.R_mono (Kd.R_far (p := ⟨g_1, 1, none⟩) (Kd.R_far (p := ⟨g_1, 0, none⟩) (Kd.R_types O_0.out B_0.out (by decide)) (fun _ hk => hk.2) (.int .i64 t_3)) (fun _ hk => hk.2) (.slice Ao16 t_2.length co16)) (fun _ h_ => h_.1))) (Kd.R_base ho0) hb); replace B_0 := Y0.mk (Y6 (g := g_1) (o := .cells #[.int .i64 t_3, .slice Ao16 t_2.length co16] 24 (0, 0)) (by (with_reducible repeat (first | refine Yh ?_ _ | refine Yd ?_ | refine Yc ?_ _)); refine Yw (cs := #[.int .i64 t_3, .slice none 0 0]) ?_ 1 _ rfl; (with_reducible repeat (first | refine Yh ?_ _ | refine Yd ?_ | refine Yc ?_ _)); refine Yw (cs := #[.int .i64 0, .slice none 0 0]) ?_ 0 _ rfl; (with_reducible repeat (first | refine Yh ?_ _ | refine Yd ?_ | refine Yc ?_ _)); exact B_0.out) hb); replace HB := Y0.mk (Y4 (hU HB.out) hb); (try clear hb); (try clear hb2); (try clear hk); (try clear hi); (try clear ho0)) | ((with_reducible refine Yl (N := 8) rfl ?_); refine Yk ?hg (N := 8) ?hd (cs := #[.int .i64 0, .slice none 0 0]) (t := 24) ?hr ?_; (case hd => rfl); (case hg => rfl); (case hr => first | (go_simp; done) | (go_simp; rfl)); intro g_0 hg w18 hbox hb; have n0_ := Y0.mk (Kd.R_below (Kd.rU O_0.out) hb); have n1_ := Y0.mk (Kd.R_below (Kd.rU O_1.out) hb); have n2_ := Y0.mk (Y6 (bU B_0.out) hb); have n3_ := Y0.mk (Y4 (hU HB.out) hb); have n4_ := Y0.mk (hbox); have n5_ := gE hg HB; have n6_ := gE hg HB; have n7_ := gL hg B_0; have n8_ := gG hg B_0; clear O_0; clear O_1; clear B_0; clear HB; have O_0 := n0_; have O_1 := n1_; have B_0 := n2_; have HB := n3_; have B_1 := n4_; have W_1 := n5_; have G_1 := n6_; have N_0 := n7_; have N_1 := n8_; clear n0_ n1_ n2_ n3_ n4_ n5_ n6_ n7_ n8_; clear hb hbox hg; have hnb19 := N_1.out; have hnc19 := N_0.out; have z_2 := Y1 B_1.out; have f_0 := Y3 B_1.out; obtain ⟨Ao21, co21, eo21⟩ := Kd.R_slice O_1.out; subst eo21; have z_0 := Y1 B_0.out; have f_2 := Y3 B_0.out) | ((with_reducible refine Y8 (f := 43) rfl ?_); refine goesA (some 31) Try.func43 #[.agg #[.int .i64 t_3, .slice Ao16 t_2.length co16], .agg #[.int .i64 t_1, .slice Ao21 t_0.length co21]] ?_; (with_reducible refine (Yu.calls k t_3 _ _ t_2 t_1 _ _ t_0 true _ ?side1 ?side2 ?side3 ?side4 A8.out).mono ?_); (case side1 => refine (Kd.R_reads' (e := 30) (base := w.heap.size) (ok := fun k_ => (True ∧ some k_ ≠ (.slice Ao21 t_0.length co21 : Value).ownBlock)) (n := t_2.length) (c := co16) ?_).2.2; exact (by (with_reducible repeat (first | apply Kd.R_alloc | apply Kd.R_drewN | apply Kd.R_drew)); exact (Kd.R_mono (Kd.R_far (p := ⟨g_0, 1, none⟩) (Kd.R_far (p := ⟨g_0, 0, none⟩) (Kd.R_types O_0.out B_1.out (by decide)) (fun _ hk => hk.2) (.int .i64 t_1)) (fun _ hk => hk.2) (.slice Ao21 t_0.length co21)) (fun _ h_ => h_.1)))); (case side2 => exact (Kd.R_reads' O_0.out).2.1); (case side3 => refine (Kd.R_reads' (e := 30) (base := w.heap.size) (ok := fun k_ => (True ∧ some k_ ≠ (.slice Ao16 t_2.length co16 : Value).ownBlock)) (n := t_0.length) (c := co21) ?_).2.2; exact (by (with_reducible repeat (first | apply Kd.R_alloc | apply Kd.R_drewN | apply Kd.R_drew)); exact (Kd.R_mono (Kd.R_far (p := ⟨g_0, 1, none⟩) (Kd.R_far (p := ⟨g_0, 0, none⟩) (Kd.R_types O_1.out B_1.out (by decide)) (fun _ hk => hk.2) (.int .i64 t_1)) (fun _ hk => hk.2) (.slice Ao21 t_0.length co21)) (fun _ h_ => h_.1)))); (case side4 => exact (Kd.R_reads' O_1.out).2.1); rintro e w23 ⟨rfl, hb⟩; refine ⟨_, rfl, ?_⟩; replace O_0 := Y0.mk (Kd.R_below (by (with_reducible repeat (first | apply Kd.R_alloc | apply Kd.R_drewN | apply Kd.R_drew)); exact (Kd.R_mono (Kd.R_far (p := ⟨g_0, 1, none⟩) (Kd.R_far (p := ⟨g_0, 0, none⟩) (Kd.R_types O_0.out B_1.out (by decide)) (fun _ hk => hk.2) (.int .i64 t_1)) (fun _ hk => hk.2) (.slice Ao21 t_0.length co21)) (fun _ h_ => h_.1))) hb); replace O_1 := Y0.mk (Kd.R_below (by (with_reducible repeat (first | apply Kd.R_alloc | apply Kd.R_drewN | apply Kd.R_drew)); exact (Kd.R_mono (Kd.R_far (p := ⟨g_0, 1, none⟩) (Kd.R_far (p := ⟨g_0, 0, none⟩) (Kd.R_types O_1.out B_1.out (by decide)) (fun _ hk => hk.2) (.int .i64 t_1)) (fun _ hk => hk.2) (.slice Ao21 t_0.length co21)) (fun _ h_ => h_.1))) hb); replace B_0 := Y0.mk (Y6 (g := g_1) (o := .cells #[.int .i64 t_3, .slice Ao16 t_2.length co16] 24 (0, 0)) (by (with_reducible repeat (first | refine Yh ?_ _ | refine Yd ?_ | refine Yc ?_ _)); refine (Below.heap_setCell _ ⟨_, _, none⟩ _ _ N_0.out).trans ?_; (with_reducible repeat (first | refine Yh ?_ _ | refine Yd ?_ | refine Yc ?_ _)); refine (Below.heap_setCell _ ⟨_, _, none⟩ _ _ N_0.out).trans ?_; (with_reducible repeat (first | refine Yh ?_ _ | refine Yd ?_ | refine Yc ?_ _)); exact B_0.out) hb); replace B_1 := Y0.mk (Y6 (g := g_0) (o := .cells #[.int .i64 t_1, .slice Ao21 t_0.length co21] 24 (0, 0)) (by (with_reducible repeat (first | refine Yh ?_ _ | refine Yd ?_ | refine Yc ?_ _)); refine Yw (cs := #[.int .i64 t_1, .slice none 0 0]) ?_ 1 _ rfl; (with_reducible repeat (first | refine Yh ?_ _ | refine Yd ?_ | refine Yc ?_ _)); refine Yw (cs := #[.int .i64 0, .slice none 0 0]) ?_ 0 _ rfl; (with_reducible repeat (first | refine Yh ?_ _ | refine Yd ?_ | refine Yc ?_ _)); exact B_1.out) hb); replace HB := Y0.mk (Y4 (hU HB.out) hb); (try clear hb); (try clear hb2); (try clear hk); (try clear hi)) | (go_at_call 37; (with_reducible refine (Yv.calls k  t_4 _ A12.out).mono ?_); rintro e w24 ⟨rfl, hb⟩; replace O_0 := Y0.mk (Kd.R_below (Kd.rU O_0.out) hb); replace O_1 := Y0.mk (Kd.R_below (Kd.rU O_1.out) hb); replace B_0 := Y0.mk (Y6 (bU B_0.out) hb); replace B_1 := Y0.mk (Y6 (bU B_1.out) hb); replace HB := Y0.mk (Y4 (hU HB.out) hb); (try clear hb); (try clear hb2); (try clear hk); (try clear hi)))
  go_ret
  exact ⟨reT, hU HB.out⟩
end Go.Proofs.Yteopkkoblbmggaa.P
end
section
set_option linter.unusedVariables false
namespace Go.Proofs.Yteopkkoblbmggaa.Open
open Go.ChangeShapes Go.WideShapes Go.RowKit Go.Proofs.YteopkkoblbmggaaW.PrintWords
def Opens {α : Type} (P : Program) (t : TypeId) (d : Kd α) (ok : α → Prop) : Prop :=
  P.cellsOf t = d.sz ∧ ∀ (H : Type) (enc : TypeId × Value → H) (w : World) (sp : Nat → Bool) (hd : Bool) (fuel : Nat) (cs : List Value) (x : DataW H × List MemPlace),
    DataW.trod enc P w 0 sp hd fuel t cs = some x → (∀ n ∈ x.1.weights P t, n ≤ 140737488351232) → ∃ a, d.K w a cs ∧ ok a
def okI (n : Int) : Prop := -9223372036854775808 ≤ n ∧ n ≤ 9223372036854775807
theorem Y51 {P : Program} {t : TypeId} (ht : P.underlying t = some (.int .i64)) (hc : P.cellsOf t = 1) : Opens P t (Kd.int .i64) okI :=
  ⟨hc, fun H enc w sp hd fuel cs x h _ => by
    obtain ⟨n, rfl, _, hw⟩ := DataW.trod_int ht h
    exact ⟨n, rfl, bounds_i64 hw⟩⟩
theorem Y5A {P : Program} {t : TypeId} (ht : P.underlying t = some (.int .u8)) (hc : P.cellsOf t = 1) : Opens P t (Kd.int .u8) (fun n => 0 ≤ n ∧ n ≤ 255) :=
  ⟨hc, fun H enc w sp hd fuel cs x h _ => by
    obtain ⟨n, rfl, _, hw⟩ := DataW.trod_int ht h
    exact ⟨n, rfl, bounds_u8 hw⟩⟩
theorem Y2o {H : Type} {P : Program} {e : TypeId} {n : Nat} : ∀ {ds : List (DataW H)} {d : DataW H}, d ∈ ds → n ∈ d.weights P e → n ∈ DataW.weightsAll P e ds
  | d0 :: ds, d, hd, hn => by
    rw [DataW.weightsAll, List.mem_append]
    rcases List.mem_cons.1 hd with rfl | hd
    · exact .inl hn
    · exact .inr (Y2o hd hn)
theorem Y3R {α : Type} {P : Program} {t e : TypeId} {d : Kd α} {ok : α → Prop} (ht : P.underlying t = some (.slice e)) (hc : P.cellsOf t = 1) {B : Nat} (hB : P.bytesOf e = B) (ho : Opens P e d ok) :
    Opens P t (Kd.slice e d) (fun xs => xs.length ≤ maxLen ∧ xs.length * B ≤ 140737488351232 ∧ ∀ a ∈ xs, ok a) := by
  refine ⟨hc, fun H enc w sp hd fuel cs x h hw => ?_⟩
  rcases DataW.trod_slice ht h with ⟨rfl, _⟩ | ⟨a, len, cap, elems, rest, n, _, rfl, rfl, _, hlc, hcm, hel, helem, _, _⟩
  · exact ⟨[], ⟨none, 0, rfl, Nat.le_refl _, Kd.C_nil d w⟩, by simp, by simp, by simp⟩
  · have hwt : ∀ m ∈ (elems.length + rest.length) * P.bytesOf e :: (DataW.weightsAll P e (elems.map (·.1)) ++ DataW.weightsAll P e (rest.map (·.1))), m ≤ 140737488351232 := by
      intro m hm
      refine hw m ?_
      simp only [DataW.weights, ht, List.length_map]
      exact hm
    have key : ∀ i : Fin len, ∃ p : α, ok p ∧ ∃ c : List Value, c.length = d.sz ∧ d.K w p c ∧ ∀ j u, c[j]? = some u → w.cell? (a.add (i.1 * d.sz + j)) = some u := by
      intro i
      have hi := helem i.1 i.2
      have hlt : i.1 < elems.length := by have := i.2; omega
      rw [List.getElem?_eq_getElem hlt] at hi
      obtain ⟨c, hc1, hc2⟩ := Option.bind_eq_some_iff.1 hi
      obtain ⟨_, hl, hcell⟩ := World.cells?_some hc1
      obtain ⟨p, hp, hok⟩ := ho.2 H enc w sp hd n c _ hc2 (fun m hm => hwt m (List.mem_cons_of_mem _ (List.mem_append_left _ (Y2o (List.mem_map.2 ⟨_, List.getElem_mem hlt, rfl⟩) hm))))
      refine ⟨p, hok, c, by rw [hl, ho.1], hp, fun j u hu => ?_⟩
      have hj : j < P.cellsOf e := by rw [← hl]; exact (List.getElem?_eq_some_iff.1 hu).1
      have hh := hcell j hj
      rw [hu, Addr.add_add, ho.1] at hh
      exact hh
    have hlen : (List.ofFn fun i : Fin len => Classical.choose (key i)).length = len := List.length_ofFn
    have hmx : len ≤ 9223372036854775807 := by unfold maxLen at hcm; omega
    refine ⟨List.ofFn fun i : Fin len => Classical.choose (key i), ⟨some a, cap, by rw [hlen], by rw [hlen]; exact hlc, ?_⟩, by rw [hlen]; unfold maxLen at hcm ⊢; omega, ?_, ?_⟩
    · refine ⟨rfl, by rw [hlen]; exact hmx, fun _ => ⟨a, rfl, fun j p hp => ?_⟩⟩
      rw [List.getElem?_ofFn] at hp
      split at hp
      · rename_i hj
        injection hp with hp
        subst hp
        exact (Classical.choose_spec (key ⟨j, hj⟩)).2
      · cases hp
    · rw [hlen, ← hB]
      have := hwt _ List.mem_cons_self
      exact Nat.le_trans (Nat.mul_le_mul_right _ (by omega)) this
    · intro p hp
      obtain ⟨i, rfl⟩ := List.mem_ofFn.1 hp
      exact (Classical.choose_spec (key i)).1
section
variable {H : Type} {enc : TypeId × Value → H} {P : Program} {W : World} {ts : List TypeId} {ds : List (DataW H)} {j : Nat} {t : TypeId} {v : Value} {dd : DataW H} {p : List MemPlace} {sp : Nat → Bool} {hd : Bool}
theorem Y5z {α : Type} {d : Kd α} {ok : List α → Prop} {r : Reach} {b : Nat} {e : TypeId} (ho : Opens P t (Kd.slice e d) ok) (ht : P.underlying t = some (.slice e)) (hv : Value.okWide P W r b t v)
    (hsz : (DataW.weightsEach P ts ds).all (· ≤ reachBytes) = true) (htj : ts[j]? = some t) (hdj : ds[j]? = some dd) (h : DataW.Trod enc P W 0 sp hd t v dd p) :
    ∃ (xs : List α) (A : Option Addr) (c : Nat), v = .slice A xs.length c ∧ xs.length ≤ c ∧ d.C W A xs.length xs ∧ ok xs := by
  obtain ⟨A, len, cap, rfl⟩ := okWide_slice ht hv
  obtain ⟨fuel, hf⟩ := h
  obtain ⟨xs, ⟨A', c', he, hl, hC⟩, hok⟩ := ho.2 H enc W sp hd fuel _ _ hf (fun n hn => by
    have := List.all_eq_true.1 hsz _ (DataW.weights_mem_each htj hdj n hn)
    exact of_decide_eq_true this)
  simp only [Value.cells] at he
  injection he with he _
  exact ⟨xs, A', c', he, hl, hC, hok⟩
end
end Go.Proofs.Yteopkkoblbmggaa.Open
end
section
set_option linter.unusedVariables false
namespace Go.Proofs.Yteopkkoblbmggaa.P
open Go.RowKit Go.Proofs.YteopkkoblbmggaaW.PrintWords Go.Proofs.YteopkkoblbmggaaW.PrintLast Go.Proofs.YteopkkoblbmggaaW.PrintMore
set_option maxRecDepth 100000 in
theorem Y4E : Yv.f 400 = some true := by decide +kernel
theorem Y31 (k : Nat) (hk : 400 ≤ k) : Yv.f k = some true := Y3u (fun k => Yv.mono k) hk Y4E
end Go.Proofs.Yteopkkoblbmggaa.P
end
section
set_option linter.unusedVariables false
set_option linter.unusedSimpArgs false
namespace Go.Proofs.Yteopkkoblbmggaa.P
open Go.RowKit Go.Proofs.YteopkkoblbmggaaW.PrintWords Go.Proofs.YteopkkoblbmggaaW.PrintLast Go.Proofs.YteopkkoblbmggaaW.PrintMore
theorem Y2G (l : List S30) (hl : l.length ≤ 1000000) : ∀ (m i k : Nat), l.length - i = m → i ≤ l.length → m + 1 ≤ k → Ys.l0 k l l (i : Int) = some true
  | 0, i, k, hm, hi, hk => by
    obtain ⟨k, rfl⟩ : ∃ j, k = j + 1 := ⟨k - 1, by omega⟩
    unfold Ys.l0
    rw [if_neg (by omega)]
  | m + 1, i, k, hm, hi, hk => by
    obtain ⟨k, rfl⟩ : ∃ j, k = j + 1 := ⟨k - 1, by omega⟩
    unfold Ys.l0
    rw [if_pos (by omega), if_pos (by omega), if_pos (by omega), if_neg (by simp), show wrap64 ((i : Int) + 1) = ((i + 1 : Nat) : Int) by unfold wrap64; omega]
    exact Y2G l hl m (i + 1) k (by omega) (by omega) (by omega)
theorem Y4j (k : Nat) (l : List S30) (hl : l.length ≤ 1000000) (hk : l.length + 1 ≤ k) : Ys.f k l l = some true := by
  unfold Ys.f
  rw [if_pos rfl]
  exact Y2G l hl l.length 0 k (by omega) (by omega) hk
theorem Y5i (k : Nat) (d : Int) (l : List S30) (hl : l.length ≤ 1000000) (hk : l.length + 1 ≤ k) : Yu.f k d l d l = some true := by
  unfold Yu.f
  rw [if_pos rfl, Y4j k l hl hk]
  rfl
end Go.Proofs.Yteopkkoblbmggaa.P
end
