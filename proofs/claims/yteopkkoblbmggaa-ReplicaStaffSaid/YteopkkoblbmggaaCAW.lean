/- Texts of this claim in one: VP42, VOpen, VAwakeR, VSamR, VRSymP, VRPutP, VRAddP, VRLastP, VStfA; no condition. -/
import Derived.Test.YteopkkoblbmggaaCAC
import Derived.Test.YteopkkoblbmggaaCAE
import Derived.Test.YteopkkoblbmggaaCAO
import Derived.Test.YteopkkoblbmggaaCAV
import Derived.Test.YteopkkoblbmggaaCAN
import Derived.Test.YteopkkoblbmggaaCAB
import Derived.OpenShut
import Derived.SizedLaws
import Derived.ChangeArms
import Derived.Test.YteopkkoblbmggaaCAH
import Derived.Test.YteopkkoblbmggaaCAP
import Derived.Test.YteopkkoblbmggaaCAQ
import Derived.Test.YteopkkoblbmggaaCAG
import Derived.Test.YteopkkoblbmggaaCAR
import Derived.Test.YteopkkoblbmggaaCAI
import Derived.Test.YteopkkoblbmggaaCAL
import Derived.Test.YteopkkoblbmggaaCAT
import Derived.Test.YteopkkoblbmggaaCAM
import Derived.Test.YteopkkoblbmggaaCAU
section
namespace Go.Proofs.Yteopkkoblbmggaa.P
open Go.RowKit Go.Proofs.YteopkkoblbmggaaW.PrintWords Go.Proofs.YteopkkoblbmggaaW.PrintLast Go.Proofs.YteopkkoblbmggaaW.PrintMore
attribute [local go_sem] YU YW Y14 Y15 YJ YK YV YX
set_option linter.unusedVariables false
set_option linter.unusedSimpArgs false
def YE.f (k : Nat) (a0_0 : Int) (l0_1 : List (S30)) (a1 : Int) (a2 : Int) : Option (Bool) := (YC.f a0_0 l0_1).bind fun t_3 => (if t_3 = true then ((Yb.f k).bind fun t_1 => (some t_1)) else ((Y1d.f a0_0 l0_1 a1 a2).bind fun b_0 => ((Yc.f k a0_0 l0_1 a1 a2).bind fun b_1 => ((Yp.f k b_0.1 b_1.1).bind fun t_4 => (if t_4 = true then ((Yk.f k b_0.2.1 b_1.2.1).bind fun t_2 => (if t_2 = true then (if b_0.2.2 = b_1.2.2 then ((Yb.f k).bind fun t_0 => (some t_0)) else (none)) else (none))) else (none))))))
theorem YE.mono : ∀ a0 a1 a2 a3 k, LeO (YE.f k a0 a1 a2 a3) (YE.f (k + 1) a0 a1 a2 a3) := by
 intro a0 a1 a2 a3 k
 unfold YE.f
 repeat' first
   | (with_reducible exact Yb.mono _)
   | (with_reducible exact Yp.mono _ _ _)
   | (with_reducible exact Yk.mono _ _ _)
   | (with_reducible exact Yc.mono _ _ _ _ _)
   | (with_reducible exact LeO.refl _)
   | (with_reducible exact LeO.none _)
   | (with_reducible refine LeO.ite ?_ ?_)
   | (with_reducible refine LeO.bind ?_ (fun _ => ?_))
set_option maxHeartbeats 8000000 in
set_option maxRecDepth 100000 in
theorem YE.calls (k : Nat) (a0_0 : Int) (A0_1 : Option Addr) (c0_1 : Nat) (l0_1 : List (S30)) (a1 : Int) (a2 : Int) (r : Bool) (w : World) (hr0_1 : Kd.C k30 w A0_1 l0_1.length l0_1) (hc0_1 : l0_1.length ≤ c0_1) (h : YE.f k a0_0 l0_1 a1 a2 = some r) :
  Calls Try.prog 4 #[.agg #[.int .i64 a0_0, .slice A0_1 l0_1.length c0_1], .int .i64 a1, .int .i64 a2] w fun e w' => e = .returned (.bool r) ∧ Below w.heap.size w w' := by
 have hu24 := Try.underlying24
 have HR0_1 := Y0.mk hr0_1
 have HC0_1 := Y0.mk hc0_1
 clear hr0_1 hc0_1
 have HB := Y0.mk (Below.refl w.heap.size w)
 have H : ((YC.f a0_0 l0_1).bind fun t_3 => (if t_3 = true then ((Yb.f k).bind fun t_1 => (some t_1)) else ((Y1d.f a0_0 l0_1 a1 a2).bind fun b_0 => ((Yc.f k a0_0 l0_1 a1 a2).bind fun b_1 => ((Yp.f k b_0.1 b_1.1).bind fun t_4 => (if t_4 = true then ((Yk.f k b_0.2.1 b_1.2.1).bind fun t_2 => (if t_2 = true then (if b_0.2.2 = b_1.2.2 then ((Yb.f k).bind fun t_0 => (some t_0)) else (none)) else (none))) else (none))))))) = some r := h
 clear h
 obtain ⟨t_3, A40, H⟩ := bS H
 try dsimp only at H
 have A4 := Y0.mk A40
 clear A40
 by_cases c5 : t_3 = true
 ·subst c5
  have H1 : ((Yb.f k).bind fun t_1 => (some t_1)) = some r := by rw [if_pos rfl] at H; exact H
  clear H
  have H := H1
  clear H1
  obtain ⟨t_1, A60, H⟩ := bS H
  replace H : (some t_1) = some r := H
  have A6 := Y0.mk A60
  clear A60
  obtain rfl := Option.some.inj H
  go_enter Try.func4, Try.ntmps4
  go_wp2_with (first | ((with_reducible refine Yj (N := 3) rfl ?_); refine Yl ?hg (N := 3) ?hd (cs := #[.int .i64 a0_0, .slice A0_1 l0_1.length c0_1]) (t := 24) ?hr ?_; (case hd => rfl); (case hg => rfl); (case hr => first | (go_simp; done) | (go_simp; rfl)); intro g_0 hg w7 hbox hb; have n0_ := Y0.mk (Y4 (hU HB.out) hb); have n1_ := Y0.mk (hbox); have n2_ := gE hg HB; have n3_ := gE hg HB; clear HB; have HB := n0_; have B_0 := n1_; have W_0 := n2_; have G_0 := n3_; clear n0_ n1_ n2_ n3_; clear hb hbox hg; have z_0 := Y1 B_0.out; have f_1 := Y3 B_0.out) | ((with_reducible refine Yh (f := 22) rfl ?_); refine goesA (some 14) Try.func22 #[.agg #[.int .i64 a0_0, .slice A0_1 l0_1.length c0_1]] ?_; (with_reducible refine (YC.calls a0_0 _ _ l0_1 true _ ?side1 ?side2 A4.out).mono ?_); (case side1 => repeat (first | exact (Kd.C_below HR0_1.out HB.out) | (with_reducible refine Kd.C_alloc ?_ _) | (with_reducible refine Kd.C_drewN ?_ _) | (with_reducible refine Kd.C_drew ?_))); (case side2 => exact HC0_1.out); rintro e w9 ⟨rfl, hb⟩; refine ⟨_, rfl, ?_⟩; replace B_0 := Y0.mk (Y2 (bU B_0.out) hb); replace HB := Y0.mk (Y4 (hU HB.out) hb); (try clear hb); (try clear hb2); (try clear hk); (try clear hi)) | ((with_reducible refine Yh (f := 18) rfl ?_); refine goesA (some 15) Try.func18 #[] ?_; (with_reducible refine (Yb.calls k  t_1 _ A6.out).mono ?_); rintro e w10 ⟨rfl, hb⟩; refine ⟨_, rfl, ?_⟩; replace B_0 := Y0.mk (Y2 (bU B_0.out) hb); replace HB := Y0.mk (Y4 (hU HB.out) hb); (try clear hb); (try clear hb2); (try clear hk); (try clear hi)))
  go_ret
  exact ⟨reT, hU HB.out⟩
 ·replace c5 := Bool.eq_false_iff.mpr c5
  subst c5
  rw [if_neg (show ¬ (false = true) by decide)] at H
  obtain ⟨⟨t_8, t_a, t_5⟩, A110, H⟩ := bS H
  try dsimp only at H
  have A11 := Y0.mk A110
  clear A110
  obtain ⟨⟨t_7, t_9, t_6⟩, A120, H⟩ := bS H
  try dsimp only at H
  have A12 := Y0.mk A120
  clear A120
  obtain ⟨t_4, A130, H⟩ := bS H
  try dsimp only at H
  have A13 := Y0.mk A130
  clear A130
  by_cases c14 : t_4 = true
  rotate_left
  ·replace c14 := Bool.eq_false_iff.mpr c14
   subst c14
   have H1 : (none) = some r := by rw [if_neg (show ¬ (false = true) by decide)] at H; exact H
   clear H
   have H := H1
   clear H1
   exact absurd H (by simp)
  subst c14
  rw [if_pos rfl] at H
  obtain ⟨t_2, A150, H⟩ := bS H
  replace H : (if t_2 = true then (if t_5 = t_6 then ((Yb.f k).bind fun t_0 => (some t_0)) else (none)) else (none)) = some r := H
  have A15 := Y0.mk A150
  clear A150
  by_cases c16 : t_2 = true
  rotate_left
  ·replace c16 := Bool.eq_false_iff.mpr c16
   subst c16
   have H1 : (none) = some r := by rw [if_neg (show ¬ (false = true) by decide)] at H; exact H
   clear H
   have H := H1
   clear H1
   exact absurd H (by simp)
  subst c16
  have H1 : (if t_5 = t_6 then ((Yb.f k).bind fun t_0 => (some t_0)) else (none)) = some r := by rw [if_pos rfl] at H; exact H
  clear H
  have H := H1
  clear H1
  obtain ⟨c17, H⟩ := iS H
  have c17b0 := bqT c17
  have c17b1 := bnF c17
  clear c17
  obtain ⟨t_0, A180, H⟩ := bS H
  replace H : (some t_0) = some r := H
  have A18 := Y0.mk A180
  clear A180
  obtain rfl := Option.some.inj H
  go_enter Try.func4, Try.ntmps4
  go_wp2_with (first | ((with_reducible refine Yj (N := 3) rfl ?_); refine Yl ?hg (N := 3) ?hd (cs := #[.int .i64 a0_0, .slice A0_1 l0_1.length c0_1]) (t := 24) ?hr ?_; (case hd => rfl); (case hg => rfl); (case hr => first | (go_simp; done) | (go_simp; rfl)); intro g_0 hg w19 hbox hb; have n0_ := Y0.mk (Y4 (hU HB.out) hb); have n1_ := Y0.mk (hbox); have n2_ := gE hg HB; have n3_ := gE hg HB; clear HB; have HB := n0_; have B_0 := n1_; have W_0 := n2_; have G_0 := n3_; clear n0_ n1_ n2_ n3_; clear hb hbox hg; have z_3 := Y1 B_0.out; have f_3 := Y3 B_0.out) | ((with_reducible refine Yh (f := 22) rfl ?_); refine goesA (some 14) Try.func22 #[.agg #[.int .i64 a0_0, .slice A0_1 l0_1.length c0_1]] ?_; (with_reducible refine (YC.calls a0_0 _ _ l0_1 false _ ?side1 ?side2 A4.out).mono ?_); (case side1 => repeat (first | exact (Kd.C_below HR0_1.out HB.out) | (with_reducible refine Kd.C_alloc ?_ _) | (with_reducible refine Kd.C_drewN ?_ _) | (with_reducible refine Kd.C_drew ?_))); (case side2 => exact HC0_1.out); rintro e w21 ⟨rfl, hb⟩; refine ⟨_, rfl, ?_⟩; replace B_0 := Y0.mk (Y2 (bU B_0.out) hb); replace HB := Y0.mk (Y4 (hU HB.out) hb); (try clear hb); (try clear hb2); (try clear hk); (try clear hi); have z_1 := Y1 B_0.out; have f_2 := Y3 B_0.out) | ((with_reducible refine Yh (f := 23) rfl ?_); refine goesA (some 20) Try.func23 #[.agg #[.int .i64 a0_0, .slice A0_1 l0_1.length c0_1], .int .i64 a1, .int .i64 a2] ?_; (with_reducible refine (Y1d.calls a0_0 _ _ l0_1 a1 a2 t_8 t_a t_5 _ ?side1 ?side2 A11.out).mono ?_); (case side1 => repeat (first | exact (Kd.C_below HR0_1.out HB.out) | (with_reducible refine Kd.C_alloc ?_ _) | (with_reducible refine Kd.C_drewN ?_ _) | (with_reducible refine Kd.C_drew ?_))); (case side2 => exact HC0_1.out); rintro e w23 ⟨v_2, v_3, rfl, ho0, ho1, hb⟩; refine ⟨_, rfl, ?_⟩; replace O_0 := Y0.mk (Kd.R_lower ho0 (Yn (hU HB.out))); replace O_1 := Y0.mk (Kd.R_lower ho1 (Yn (hU HB.out))); replace B_0 := Y0.mk (Y2 (bU B_0.out) hb); replace HB := Y0.mk (Y4 (hU HB.out) hb); (try clear hb); (try clear hb2); (try clear hk); (try clear hi); (try clear ho0); (try clear ho1); have z_2 := Y1 B_0.out; have f_0 := Y3 B_0.out) | ((with_reducible refine Yh (f := 24) rfl ?_); refine goesA (some 28) Try.func24 #[.agg #[.int .i64 a0_0, .slice A0_1 l0_1.length c0_1], .int .i64 a1, .int .i64 a2] ?_; (with_reducible refine (Yc.calls k a0_0 _ _ l0_1 a1 a2 t_7 t_9 t_6 _ ?side1 ?side2 A12.out).mono ?_); (case side1 => repeat (first | exact (Kd.C_below HR0_1.out HB.out) | (with_reducible refine Kd.C_alloc ?_ _) | (with_reducible refine Kd.C_drewN ?_ _) | (with_reducible refine Kd.C_drew ?_))); (case side2 => exact HC0_1.out); rintro e w25 ⟨v_1, v_0, rfl, ho0, ho1, hb⟩; refine ⟨_, rfl, ?_⟩; replace O_2 := Y0.mk (Kd.R_lower (Kd.R_new' ho0 (Kd.R_lt (Kd.rU O_0.out))) (Yn (hU HB.out))); replace O_0 := Y0.mk (Kd.R_elder' (Kd.rU O_0.out) (Kd.R_base ho0) hb); replace O_3 := Y0.mk (Kd.R_lower (Kd.R_new' ho1 (Kd.R_lt (Kd.rU O_1.out))) (Yn (hU HB.out))); replace O_1 := Y0.mk (Kd.R_elder' (Kd.rU O_1.out) (Kd.R_base ho1) hb); replace B_0 := Y0.mk (Y2 (bU B_0.out) hb); replace HB := Y0.mk (Y4 (hU HB.out) hb); (try clear hb); (try clear hb2); (try clear hk); (try clear hi); (try clear ho0); (try clear ho1); obtain ⟨Ao26, co26, eo26⟩ := Kd.R_slice O_0.out; subst eo26; obtain ⟨Ao27, co27, eo27⟩ := Kd.R_slice O_2.out; subst eo27) | ((with_reducible refine Yh (f := 25) rfl ?_); refine goesA (some 34) Try.func25 #[.slice Ao26 t_8.length co26, .slice Ao27 t_7.length co27] ?_; (with_reducible refine (Yp.calls k _ _ t_8 _ _ t_7 true _ ?side1 ?side2 ?side3 ?side4 A13.out).mono ?_); (case side1 => repeat (first | exact (Kd.R_reads' O_0.out).2.2 | (with_reducible refine Kd.C_alloc ?_ _) | (with_reducible refine Kd.C_drewN ?_ _) | (with_reducible refine Kd.C_drew ?_))); (case side2 => exact (Kd.R_reads' O_0.out).2.1); (case side3 => repeat (first | exact (Kd.R_reads' O_2.out).2.2 | (with_reducible refine Kd.C_alloc ?_ _) | (with_reducible refine Kd.C_drewN ?_ _) | (with_reducible refine Kd.C_drew ?_))); (case side4 => exact (Kd.R_reads' O_2.out).2.1); rintro e w' ⟨rfl, ⟨nd, rfl⟩⟩; refine ⟨_, rfl, ?_⟩; obtain ⟨Ao28, co28, eo28⟩ := Kd.R_slice O_1.out; subst eo28; obtain ⟨Ao29, co29, eo29⟩ := Kd.R_slice O_3.out; subst eo29) | (go_at_call 26; (with_reducible refine (Yk.calls k _ _ t_a _ _ t_9 true _ ?side1 ?side2 ?side3 ?side4 A15.out).mono ?_); (case side1 => repeat (first | exact (Kd.R_reads' O_1.out).2.2 | (with_reducible refine Kd.C_alloc ?_ _) | (with_reducible refine Kd.C_drewN ?_ _) | (with_reducible refine Kd.C_drew ?_))); (case side2 => exact (Kd.R_reads' O_1.out).2.1); (case side3 => repeat (first | exact (Kd.R_reads' O_3.out).2.2 | (with_reducible refine Kd.C_alloc ?_ _) | (with_reducible refine Kd.C_drewN ?_ _) | (with_reducible refine Kd.C_drew ?_))); (case side4 => exact (Kd.R_reads' O_3.out).2.1); rintro e w' ⟨rfl, ⟨nd, rfl⟩⟩) | (go_at_call 18; (with_reducible refine (Yb.calls k  t_0 _ A18.out).mono ?_); rintro e w30 ⟨rfl, hb⟩; replace O_0 := Y0.mk (Kd.R_below (Kd.rU O_0.out) hb); replace O_1 := Y0.mk (Kd.R_below (Kd.rU O_1.out) hb); replace O_2 := Y0.mk (Kd.R_below (Kd.rU O_2.out) hb); replace O_3 := Y0.mk (Kd.R_below (Kd.rU O_3.out) hb); replace B_0 := Y0.mk (Y2 (bU B_0.out) hb); replace HB := Y0.mk (Y4 (hU HB.out) hb); (try clear hb); (try clear hb2); (try clear hk); (try clear hi)))
  go_ret
  exact ⟨reT, hU HB.out⟩
end Go.Proofs.Yteopkkoblbmggaa.P
end
section
set_option linter.unusedVariables false
namespace Go.Proofs.Yteopkkoblbmggaa.Open
open Go.ChangeShapes Go.WideShapes Go.RowKit Go.Proofs.YteopkkoblbmggaaW.PrintWords
def Opens {α : Type} (P : Program) (t : TypeId) (d : Kd α) (ok : α → Prop) : Prop :=
  P.cellsOf t = d.sz ∧ ∀ (H : Type) (enc : TypeId × Value → H) (w : World) (sp : Nat → Bool) (hd : Bool) (fuel : Nat) (cs : List Value) (x : DataW H × List MemPlace),
    DataW.trod enc P w 0 sp hd fuel t cs = some x → (∀ n ∈ x.1.weights P t, n ≤ 140737488351232) → ∃ a, d.K w a cs ∧ ok a
def okI (n : Int) : Prop := -9223372036854775808 ≤ n ∧ n ≤ 9223372036854775807
theorem Y4M {P : Program} {t : TypeId} (ht : P.underlying t = some (.int .i64)) (hc : P.cellsOf t = 1) : Opens P t (Kd.int .i64) okI :=
  ⟨hc, fun H enc w sp hd fuel cs x h _ => by
    obtain ⟨n, rfl, _, hw⟩ := DataW.trod_int ht h
    exact ⟨n, rfl, bounds_i64 hw⟩⟩
theorem Y4d {P : Program} {t : TypeId} (ht : P.underlying t = some .bool) (hc : P.cellsOf t = 1) : Opens P t Kd.bool (fun _ => True) :=
  ⟨hc, fun H enc w sp hd fuel cs x h _ => by
    obtain ⟨n, rfl, _⟩ := DataW.trod_bool ht h
    exact ⟨n, rfl, trivial⟩⟩
theorem Y2c {H : Type} {P : Program} {e : TypeId} {n : Nat} : ∀ {ds : List (DataW H)} {d : DataW H}, d ∈ ds → n ∈ d.weights P e → n ∈ DataW.weightsAll P e ds
  | d0 :: ds, d, hd, hn => by
    rw [DataW.weightsAll, List.mem_append]
    rcases List.mem_cons.1 hd with rfl | hd
    · exact .inl hn
    · exact .inr (Y2c hd hn)
theorem Y3F {α : Type} {P : Program} {t e : TypeId} {d : Kd α} {ok : α → Prop} (ht : P.underlying t = some (.slice e)) (hc : P.cellsOf t = 1) {B : Nat} (hB : P.bytesOf e = B) (ho : Opens P e d ok) :
    Opens P t (Kd.slice e d) (fun xs => xs.length ≤ maxLen ∧ xs.length * B ≤ 140737488351232 ∧ ∀ a ∈ xs, ok a) := by
  refine ⟨hc, fun H enc w sp hd fuel cs x h hw => ?_⟩
  rcases DataW.trod_slice ht h with ⟨rfl, _⟩ | ⟨a, len, cap, elems, rest, n, _, rfl, rfl, _, hlc, hcm, hel, helem, _, _⟩
  · exact ⟨[], ⟨none, 0, rfl, Nat.le_refl _, Kd.C_nil d w⟩, by simp, by simp, by simp⟩
  · have hwt : ∀ m ∈ (elems.length + rest.length) * P.bytesOf e :: (DataW.weightsAll P e (elems.map (·.1)) ++ DataW.weightsAll P e (rest.map (·.1))), m ≤ 140737488351232 := by
      intro m hm
      refine hw m ?_
      simp only [DataW.weights, ht, List.length_map]
      exact hm
    have key : ∀ i : Fin len, ∃ p : α, ok p ∧ ∃ c : List Value, c.length = d.sz ∧ d.K w p c ∧ ∀ j u, c[j]? = some u → w.cell? (a.add (i.1 * d.sz + j)) = some u := by
      intro i
      have hi := helem i.1 i.2
      have hlt : i.1 < elems.length := by have := i.2; omega
      rw [List.getElem?_eq_getElem hlt] at hi
      obtain ⟨c, hc1, hc2⟩ := Option.bind_eq_some_iff.1 hi
      obtain ⟨_, hl, hcell⟩ := World.cells?_some hc1
      obtain ⟨p, hp, hok⟩ := ho.2 H enc w sp hd n c _ hc2 (fun m hm => hwt m (List.mem_cons_of_mem _ (List.mem_append_left _ (Y2c (List.mem_map.2 ⟨_, List.getElem_mem hlt, rfl⟩) hm))))
      refine ⟨p, hok, c, by rw [hl, ho.1], hp, fun j u hu => ?_⟩
      have hj : j < P.cellsOf e := by rw [← hl]; exact (List.getElem?_eq_some_iff.1 hu).1
      have hh := hcell j hj
      rw [hu, Addr.add_add, ho.1] at hh
      exact hh
    have hlen : (List.ofFn fun i : Fin len => Classical.choose (key i)).length = len := List.length_ofFn
    have hmx : len ≤ 9223372036854775807 := by unfold maxLen at hcm; omega
    refine ⟨List.ofFn fun i : Fin len => Classical.choose (key i), ⟨some a, cap, by rw [hlen], by rw [hlen]; exact hlc, ?_⟩, by rw [hlen]; unfold maxLen at hcm ⊢; omega, ?_, ?_⟩
    · refine ⟨rfl, by rw [hlen]; exact hmx, fun _ => ⟨a, rfl, fun j p hp => ?_⟩⟩
      rw [List.getElem?_ofFn] at hp
      split at hp
      · rename_i hj
        injection hp with hp
        subst hp
        exact (Classical.choose_spec (key ⟨j, hj⟩)).2
      · cases hp
    · rw [hlen, ← hB]
      have := hwt _ List.mem_cons_self
      exact Nat.le_trans (Nat.mul_le_mul_right _ (by omega)) this
    · intro p hp
      obtain ⟨i, rfl⟩ := List.mem_ofFn.1 hp
      exact (Classical.choose_spec (key i)).1
def Y3R {α : Type} (P : Program) (fs : List Field) (o : Nat) (d : Kd α) (ok : α → Prop) : Prop :=
  ∀ (H : Type) (enc : TypeId × Value → H) (w : World) (sp : Nat → Bool) (hd : Bool) (fuel : Nat) (cs : List Value) (ys : List (DataW H × List MemPlace)),
    ys.length = fs.length → (∀ (i : Nat) (f : Field), fs[i]? = some f → DataW.trod enc P w 0 sp hd fuel f.type ((cs.drop f.offset).take (P.cellsOf f.type)) = ys[i]?) → cs.length = o + d.sz →
    (∀ n ∈ DataW.weightsEach P (fs.map (·.type)) (ys.map (·.1)), n ≤ 140737488351232) → ∃ a, d.K w a (cs.drop o) ∧ ok a
theorem Y29 {α : Type} {P : Program} {f : Field} {o : Nat} {d : Kd α} {ok : α → Prop} (hf : f.offset = o) (ho : Opens P f.type d ok) : Y3R P [f] o d ok := by
  intro H enc w sp hd fuel cs ys hl hy hcs hw
  match ys, hl with
  | [y], _ =>
    have h := hy 0 f rfl
    have e : (cs.drop f.offset).take (P.cellsOf f.type) = cs.drop o := by rw [hf, ho.1]; exact List.take_of_length_le (by rw [List.length_drop]; omega)
    rw [e] at h
    exact ho.2 H enc w sp hd fuel _ y h (fun n hn => hw n (by simpa [DataW.weightsEach] using hn))
theorem Y1p {α β : Type} {P : Program} {f : Field} {fs : List Field} {o : Nat} {d : Kd α} {d' : Kd β} {ok : α → Prop} {ok' : β → Prop} (hf : f.offset = o) (ho : Opens P f.type d ok) (hr : Y3R P fs (o + d.sz) d' ok') :
    Y3R P (f :: fs) o (Kd.pair d d') (fun a => ok a.1 ∧ ok' a.2) := by
  intro H enc w sp hd fuel cs ys hl hy hcs hw
  match ys, hl with
  | y :: ys, hl =>
    have h := hy 0 f rfl
    have hcs' : cs.length = o + (d.sz + d'.sz) := hcs
    rw [hf, ho.1] at h
    obtain ⟨a, ka, oa⟩ := ho.2 H enc w sp hd fuel _ y h (fun n hn => hw n (by simp only [List.map_cons, DataW.weightsEach, List.mem_append]; exact .inl hn))
    obtain ⟨b, kb, ob⟩ := hr H enc w sp hd fuel cs ys (by simpa using hl) (fun i g hg => by simpa using hy (i + 1) g (by simpa using hg)) (by omega) (fun n hn => hw n (by simp only [List.map_cons, DataW.weightsEach, List.mem_append]; exact .inr hn))
    refine ⟨(a, b), ⟨_, _, ?_, ka, kb⟩, oa, ob⟩
    rw [← List.drop_drop, List.take_append_drop]
theorem Y1S {α β : Type} {P : Program} {t : TypeId} {fs : List Field} {d : Kd α} {ok : α → Prop} (ht : P.underlying t = some (.struct fs.toArray)) (hc : P.cellsOf t = d.sz) (ho : Y3R P fs 0 d ok) (f : β → α) (g : α → β) (hfg : ∀ a, f (g a) = a) :
    Opens P t (Kd.iso d f) (fun b => ok (f b)) := by
  refine ⟨hc, fun H enc w sp hd fuel cs x h hw => ?_⟩
  obtain ⟨xs, n, _, rfl, hl, hxl, hx⟩ := DataW.trod_struct ht h
  obtain ⟨a, ha, hok⟩ := ho H enc w sp hd n cs xs (by simpa using hxl) (fun i f hf => hx i f (by simpa using hf)) (by omega) (fun m hm => hw m (by simp only [DataW.weights, ht]; exact hm))
  refine ⟨g a, ?_, by show ok (f (g a)); rw [hfg]; exact hok⟩
  show d.K w (f (g a)) cs
  rw [hfg]
  exact ha
section
variable {H : Type} {enc : TypeId × Value → H} {P : Program} {W : World} {ts : List TypeId} {ds : List (DataW H)} {j : Nat} {t : TypeId} {v : Value} {dd : DataW H} {p : List MemPlace} {sp : Nat → Bool} {hd : Bool}
theorem Y5k {α : Type} {d : Kd α} {ok : α → Prop} {r : Reach} {b : Nat} {fs : Array Field} (ho : Opens P t d ok) (ht : P.underlying t = some (.struct fs)) (hv : Value.okWide P W r b t v)
    (hsz : (DataW.weightsEach P ts ds).all (· ≤ reachBytes) = true) (htj : ts[j]? = some t) (hdj : ds[j]? = some dd) (h : DataW.Trod enc P W 0 sp hd t v dd p) : ∃ (a : α) (cs : Array Value), v = .agg cs ∧ d.K W a cs.toList ∧ ok a := by
  obtain ⟨cs, rfl, _⟩ := okWide_struct ht hv
  obtain ⟨fuel, hf⟩ := h
  obtain ⟨a, ha, hok⟩ := ho.2 H enc W sp hd fuel _ _ hf (fun n hn => by
    have := List.all_eq_true.1 hsz _ (DataW.weights_mem_each htj hdj n hn)
    exact of_decide_eq_true this)
  exact ⟨a, cs, rfl, ha, hok⟩
end
end Go.Proofs.Yteopkkoblbmggaa.Open
end
section
set_option linter.unusedVariables false
namespace Go.Proofs.Yteopkkoblbmggaa.P
open Go.RowKit Go.Proofs.YteopkkoblbmggaaW.PrintWords Go.Proofs.YteopkkoblbmggaaW.PrintLast Go.Proofs.YteopkkoblbmggaaW.PrintMore
set_option maxRecDepth 100000 in
theorem Y4r : Yb.f 400 = some true := by decide +kernel
theorem Y2T (k : Nat) (hk : 400 ≤ k) : Yb.f k = some true := Y1E (fun k => Yb.mono k) hk Y4r
theorem Y5e (d : Int) (l : List S30) : YC.f d l = some (decide (40 < l.length)) := by
  unfold YC.f
  congr 1
  rw [decide_eq_decide]
  omega
end Go.Proofs.Yteopkkoblbmggaa.P
end
section
set_option linter.unusedVariables false
set_option linter.unusedSimpArgs false
namespace Go.Proofs.Yteopkkoblbmggaa.P
open Go.RowKit Go.Proofs.YteopkkoblbmggaaW.PrintWords Go.Proofs.YteopkkoblbmggaaW.PrintLast Go.Proofs.YteopkkoblbmggaaW.PrintMore
def zN (n : Int) : Prop := -9223372036854775808 ≤ n ∧ n ≤ 9223372036854775807
def zT26 (x : S26) : Prop := zN x.f0 ∧ zN x.f1
def zT28 (x : S28) : Prop := zN x.f0 ∧ zN x.f1 ∧ zN x.f2 ∧ zN x.f3 ∧ zN x.f4 ∧ zN x.f5 ∧ zN x.f6
def zT30 (x : S30) : Prop := zT26 x.f0 ∧ zN x.f1 ∧ zT26 x.f2 ∧ True ∧ zT28 x.f4
theorem zN_ok {n : Int} (h : zN n) : okN n := by
  have e1 : IntKind.i64.min = -9223372036854775808 := rfl
  have e2 : IntKind.i64.max = 9223372036854775807 := rfl
  unfold okN
  simp only [Lit.wf, e1, e2, Bool.and_eq_true, decide_eq_true_eq]
  exact h
theorem zT_ok {x : S30} (h : zT30 x) : okE30 x := by
  obtain ⟨_, c, ⟨d, e⟩, _⟩ := h
  exact ⟨zN_ok c, zN_ok d, zN_ok e⟩
theorem Y4u (j : Nat) (k c : Int) (h : ¬ (k < 1 ∨ 4 < k)) : Yo.f (j + 1) k c = some (decide (colP k c)) := by
  unfold Yo.f Yo.j0 colP
  grind
theorem Y30 (j : Nat) (x : Bool) (k c b l d v m : Int) (h1 : ¬ (k < 1 ∨ 4 < k)) (hc : 0 ≤ c ∧ c ≤ 8) : Yf.j1 (j + 2) x k c b l d v m = some (if x = true then 1 else sayC k c d v m) := by
  simp only [Yf.j1, sayC]
  rw [Y3n (c - 2) (by omega) (by omega)]
  cases x with
  | true => simp
  | false =>
    simp only [if_neg (show ¬ (false = true) by decide)]
    by_cases k1 : k = 1
    · rw [if_pos k1, if_pos k1]
      have e : YN.f d v = some (if 0 ≤ d ∧ d ≤ 8 ∧ -1 ≤ v ∧ v ≤ 1 then 0 else 1) := YO.dcheck_eq d v
      rw [e, Option.bind_some]
      by_cases h : 0 ≤ d ∧ d ≤ 8 ∧ -1 ≤ v ∧ v ≤ 1
      · rw [if_pos h, if_pos h, if_pos rfl]; split <;> rfl
      · rw [if_neg h, if_neg h, if_neg (by decide)]
    · rw [if_neg k1, if_neg k1]
      by_cases k3 : k = 3
      · rw [if_pos k3, if_neg (by omega), if_pos k3]
        simp only [YO.f, Option.bind_some]
      · rw [if_neg k3, if_neg k3]
        simp only [Yf.j2]
        by_cases k2 : k = 2
        · by_cases h : d = 0 <;> by_cases h' : v = 0 <;> by_cases h'' : m = 0 <;> simp [h, h', h'', k2]
        · have k4 : k = 4 := by omega
          by_cases h : d = 0 <;> by_cases h' : v = 0 <;> simp [k4, h, h']
          by_cases a : m < -16 <;> by_cases a' : 16 < m <;> by_cases a'' : m = 0 <;> simp [a, a', a'']
theorem Y4g (j : Nat) (x : Bool) (k c b l d v m : Int) (hx : x = false) (h1 : ¬ (k < 1 ∨ 4 < k)) : Yf.j0 (j + 3) x k c b l d v m = some (chkP k c b l d v m) := by
  subst hx
  simp only [Yf.j0, chkP, if_neg h1]
  rw [Y4u (j + 1) k c h1, if_neg (by decide)]
  simp only [Option.bind_some, decide_eq_true_eq]
  by_cases h2 : colP k c
  · have hc : 0 ≤ c ∧ c ≤ 8 := by unfold colP at h2; grind
    rw [if_pos h2, if_neg (not_not_intro h2), Y30 j _ k c b l d v m h1 hc, Y30 j _ k c b l d v m h1 hc]
    by_cases h3 : b < 0 ∨ 8191 < b
    · rw [if_pos (by omega : b < 0 ∨ 8191 < b ∨ l < 1 ∨ 8192 - b < l)]
      rcases h3 with h3 | h3
      · rw [if_pos h3]; rfl
      · rw [if_neg (by omega), if_pos (by omega)]; rfl
    · rw [Y3n (8192 - b) (by omega) (by omega), if_neg (by omega), if_neg (by omega)]
      by_cases h4 : l < 1 ∨ 8192 - b < l
      · rw [if_pos (by omega : b < 0 ∨ 8191 < b ∨ l < 1 ∨ 8192 - b < l)]
        rcases h4 with h4 | h4
        · rw [if_pos h4]; rfl
        · by_cases h5 : l < 1
          · rw [if_pos h5]; rfl
          · rw [if_neg h5, if_pos (by simpa using h4)]
      · rw [if_neg (by omega), if_neg (by simp; omega), if_neg (by omega : ¬ (b < 0 ∨ 8191 < b ∨ l < 1 ∨ 8192 - b < l))]
  · rw [if_neg h2, if_pos h2]
theorem Y3H (j : Nat) (k c b l d v m : Int) : Yf.f (j + 3) k c b l d v m = some (chkP k c b l d v m) := by
  unfold Yf.f
  by_cases h1 : k < 1 ∨ 4 < k
  · have e : chkP k c b l d v m = 9 := by rw [chkP, if_pos h1]
    rw [e]
    rcases h1 with h1 | h1
    · rw [if_pos h1]; simp [Yf.j0]
    · rw [if_neg (by omega)]; simp [Yf.j0, h1]
  · rw [if_neg (by omega)]
    exact Y4g j _ k c b l d v m (by simp; omega) h1
theorem Y4h (c d : Int) : YD.f c d = some (valP c d) := by
  unfold YD.f valP
  by_cases h1 : 1 ≤ c <;> by_cases h2 : c ≤ 1000000 <;> by_cases h3 : 1 ≤ d <;> by_cases h4 : d ≤ 64 <;> simp [h1, h2, h3, h4, GE.ge]
theorem Y3i (a b c d : Int) : YA.f a b c d = some (lessP a b c d) := by
  unfold YA.f lessP
  by_cases h2 : a = c
  · simp [h2]
  · simp [h2]
theorem Y60 (j : Nat) (x : Bool) (a0 a1 a2 a3 a4 : Int) (a5 : Bool) (a6 a7 a8 a9 a10 a11 a12 : Int) :
    Yi.j0 (j + 5) x a0 a1 a2 a3 a4 a5 a6 a7 a8 a9 a10 a11 a12 = some (if x = true then 43 else if a2 < 0 ∨ 12 ≤ a2 then 33
      else if a5 = true then (if a6 = 0 ∧ a7 = 0 ∧ a8 = 0 ∧ a9 = 0 ∧ a10 = 0 ∧ a11 = 0 ∧ a12 = 0 then 0 else 2) else chkP a6 a7 a8 a9 a10 a11 a12) := by
  have e := Y5B (j + 1) x a0 a1 a2 a3 a4 a5 a6 a7 a8 a9 a10 a11 a12
  rw [← e]
  simp only [Yi.j0, Yi.j1, Yu.j0, Yu.j1, Y2L, Y3H]
theorem Y4R (j : Nat) (a0 a1 a2 a3 a4 : Int) (a5 : Bool) (a6 a7 a8 a9 a10 a11 a12 : Int) :
    Yi.f (j + 5) a0 a1 a2 a3 a4 a5 a6 a7 a8 a9 a10 a11 a12 = some (chkE a0 a1 a2 a3 a4 a5 a6 a7 a8 a9 a10 a11 a12) := by
  unfold Yi.f chkE
  simp only [Y4h, Y3i, Option.bind_some, Y60]
  cases h1 : valP a0 a1 <;> cases h2 : valP a3 a4 <;> cases h3 : lessP a0 a1 a3 a4 <;> simp
theorem Y2w {i : Nat} (h : i ≤ 2000000) : wrap64 ((i : Int) + 1) = ((i + 1 : Nat) : Int) := by unfold wrap64; omega
def fndB (x y : S30) : Bool := fndsE x && decide (y.f1 = x.f1 ∧ y.f2.f0 = x.f2.f0 ∧ y.f2.f1 = x.f2.f1)
theorem Y4A (x y : S30) : Y12.f x.f0.f0 x.f0.f1 x.f1 x.f2.f0 x.f2.f1 x.f3 x.f4.f0 x.f4.f1 x.f4.f2 x.f4.f3 x.f4.f4 x.f4.f5 x.f4.f6 y.f0.f0 y.f0.f1 y.f1 y.f2.f0 y.f2.f1 y.f3 y.f4.f0 y.f4.f1 y.f4.f2 y.f4.f3 y.f4.f4 y.f4.f5 y.f4.f6 = some (fndB x y) := by
  unfold Y12.f
  by_cases h1 : x.f1 = y.f1
  · rw [if_pos h1]
    by_cases h3 : x.f3 = true
    · rw [if_pos h3]
      congr 1
      unfold fndB fndsE
      rw [h3]
      rfl
    · rw [if_neg h3]
      have h3' : x.f3 = false := by simpa using h3
      by_cases h4 : (x.f0.f0 == y.f2.f0 && (x.f0.f1 == y.f2.f1)) = true
      · rw [if_pos h4]
        congr 1
        rw [Bool.eq_iff_iff]
        simp only [Bool.and_eq_true, beq_iff_eq] at h4
        simp [fndB, fndsE, h3']
        omega
      · rw [if_neg h4]
        congr 1
        symm
        rw [← Bool.not_eq_true]
        simp only [Bool.and_eq_true, beq_iff_eq] at h4
        simp [fndB, fndsE, h3']
        omega
  · rw [if_neg h1]
    congr 1
    symm
    rw [← Bool.not_eq_true]
    simp [fndB]
    intro _ h
    exact absurd h.symm h1
theorem Y2V (l : List S30) (hl : l.length ≤ 1000000) (y : S30) : ∀ (m i k : Nat), l.length - i = m → i ≤ l.length → m + 1 ≤ k → Ym.l0 k l (i : Int) y.f0.f0 y.f0.f1 y.f1 y.f2.f0 y.f2.f1 y.f3 y.f4.f0 y.f4.f1 y.f4.f2 y.f4.f3 y.f4.f4 y.f4.f5 y.f4.f6 = some ((l.drop i).any (fun e => fndB e y))
  | 0, i, k, hm, hi, hk => by
    obtain ⟨k, rfl⟩ : ∃ j, k = j + 1 := ⟨k - 1, by omega⟩
    unfold Ym.l0
    rw [if_neg (by omega), List.drop_of_length_le (by omega)]
    rfl
  | m + 1, i, k, hm, hi, hk => by
    obtain ⟨k, rfl⟩ : ∃ j, k = j + 1 := ⟨k - 1, by omega⟩
    have hlt : i < l.length := by omega
    unfold Ym.l0
    rw [if_pos (by omega), if_pos (by omega), Y1D hlt, Y4A, Option.bind_some, Y2w (by omega), List.drop_eq_getElem_cons hlt, List.any_cons]
    cases fndB l[i] y
    · rw [if_neg (by decide), Y2V l hl y m (i + 1) k (by omega) (by omega) (by omega), Bool.false_or]
    · rw [if_pos rfl, Bool.true_or]
theorem Y49 (k : Nat) (l : List S30) (hl : l.length ≤ 1000000) (y : S30) (hk : l.length + 1 ≤ k) : Ym.f k l y.f0.f0 y.f0.f1 y.f1 y.f2.f0 y.f2.f1 y.f3 y.f4.f0 y.f4.f1 y.f4.f2 y.f4.f3 y.f4.f4 y.f4.f5 y.f4.f6 = some (kno30 l y) := by
  have := Y2V l hl y l.length 0 k (by omega) (by omega) hk
  rw [List.drop_zero] at this
  exact this
theorem Y4U (d : Int) (l : List S30) (hl : l.length ≤ 1000000) : ∀ (m i k : Nat), l.length - i = m → i ≤ l.length → m + l.length + 2 ≤ k → Y9.l2 k (i : Int) d l = some (if (l.drop i).all (kno30 l) = true then 0 else 6)
  | 0, i, k, hm, hi, hk => by
    obtain ⟨k, rfl⟩ : ∃ j, k = j + 1 := ⟨k - 1, by omega⟩
    unfold Y9.l2
    rw [if_neg (by omega), List.drop_of_length_le (by omega)]
    rfl
  | m + 1, i, k, hm, hi, hk => by
    obtain ⟨k, rfl⟩ : ∃ j, k = j + 1 := ⟨k - 1, by omega⟩
    have hlt : i < l.length := by omega
    unfold Y9.l2
    rw [if_pos (by omega), if_pos (by omega), Y1D hlt, Y49 k l hl l[i] (by omega), Option.bind_some, Y2w (by omega), List.drop_eq_getElem_cons hlt, List.all_cons]
    cases kno30 l l[i]
    · rw [if_neg (by decide), Bool.false_and, if_neg (by decide)]
    · rw [if_pos rfl, Y4U d l hl m (i + 1) k (by omega) (by omega) (by omega), Bool.true_and]
theorem Y4T (d : Int) (l : List S30) (hl : l.length ≤ 1000000) : ∀ (m i k : Nat), l.length - i = m → 1 ≤ i → (i ≤ l.length ∨ i = 1) → m + 2 * l.length + 3 ≤ k → Y9.l1 k (i : Int) d l = some (if ord30 (l.drop (i - 1)) = true then (if l.all (kno30 l) = true then 0 else 6) else 5)
  | 0, i, k, hm, h1, hi, hk => by
    obtain ⟨k, rfl⟩ : ∃ j, k = j + 1 := ⟨k - 1, by omega⟩
    unfold Y9.l1
    have ho : ord30 (l.drop (i - 1)) = true := by
      have : (l.drop (i - 1)).length ≤ 1 := by rw [List.length_drop]; omega
      match hd : l.drop (i - 1), this with
      | [], _ => rfl
      | [a], _ => rfl
      | a :: b :: t, h => simp at h
    rw [if_neg (by omega), ho, if_pos rfl]
    have := Y4U d l hl l.length 0 k (by omega) (by omega) (by omega)
    rw [List.drop_zero] at this
    exact this
  | m + 1, i, k, hm, h1, hi, hk => by
    obtain ⟨k, rfl⟩ : ∃ j, k = j + 1 := ⟨k - 1, by omega⟩
    have hlt : i < l.length := by omega
    obtain ⟨p, rfl⟩ : ∃ p, i = p + 1 := ⟨i - 1, by omega⟩
    have hlp : p < l.length := by omega
    unfold Y9.l1
    have hw : wrap64 (((p + 1 : Nat) : Int) - 1) = (p : Int) := by unfold wrap64; omega
    rw [hw, if_pos (by omega), if_pos (by omega), if_pos (by omega), if_pos (by omega), Y1D hlp, Y1D hlt, Y3i, Option.bind_some, Y2w (by omega), Nat.add_sub_cancel, List.drop_eq_getElem_cons hlp, List.drop_eq_getElem_cons hlt]
    show _ = some (if (Y1x l[p].f0 l[p + 1].f0 && ord30 (l[p + 1] :: l.drop (p + 1 + 1))) = true then _ else _)
    have hd := List.drop_eq_getElem_cons hlt
    rw [← hd]
    unfold Y1x
    cases lessP l[p].f0.f0 l[p].f0.f1 l[p + 1].f0.f0 l[p + 1].f0.f1
    · rw [if_neg (by decide), Bool.false_and, if_neg (by decide)]
    · rw [if_pos rfl, Bool.true_and, Y4T d l hl m (p + 1 + 1) k (by omega) (by omega) (by omega) (by omega)]
      rfl
theorem Y4S (d : Int) (l : List S30) (hl : l.length ≤ 1000000) : ∀ (m i k : Nat), l.length - i = m → i ≤ l.length → m + 3 * l.length + 10 ≤ k → Y9.l0 k (i : Int) d l = some (if Y1K (l.drop i) = 0 then (if ord30 l = true then (if l.all (kno30 l) = true then 0 else 6) else 5) else Y1K (l.drop i))
  | 0, i, k, hm, hi, hk => by
    obtain ⟨k, rfl⟩ : ∃ j, k = j + 1 := ⟨k - 1, by omega⟩
    unfold Y9.l0
    rw [if_neg (by omega), List.drop_of_length_le (by omega)]
    have := Y4T d l hl (l.length - 1) 1 k (by omega) (by omega) (by omega) (by omega)
    rw [show 1 - 1 = 0 from rfl, List.drop_zero] at this
    exact this
  | m + 1, i, k, hm, hi, hk => by
    obtain ⟨k, rfl⟩ : ∃ j, k = j + 1 := ⟨k - 1, by omega⟩
    have hlt : i < l.length := by omega
    unfold Y9.l0
    obtain ⟨q, rfl⟩ : ∃ q, k = q + 5 := ⟨k - 5, by omega⟩
    rw [if_pos (by omega), if_pos (by omega), Y1D hlt, Y4R, Option.bind_some, Y2w (by omega), List.drop_eq_getElem_cons hlt]
    show _ = some (if (if chk30 l[i] = 0 then Y1K (l.drop (i + 1)) else chk30 l[i]) = 0 then _ else (if chk30 l[i] = 0 then Y1K (l.drop (i + 1)) else chk30 l[i]))
    by_cases hz : chk30 l[i] = 0
    · rw [if_pos hz, if_pos (show chkE _ _ _ _ _ _ _ _ _ _ _ _ _ = 0 from hz), Y4S d l hl m (i + 1) (q + 5) (by omega) (by omega) (by omega)]
    · rw [if_neg hz, if_neg (show ¬ chkE _ _ _ _ _ _ _ _ _ _ _ _ _ = 0 from hz), if_neg hz]
      rfl
theorem Y5Z (k : Nat) (d : Int) (l : List S30) (hl : l.length ≤ 1000000) (hk : 4 * l.length + 20 ≤ k) : Y9.f k d l = some (rchkP d l) := by
  obtain ⟨k, rfl⟩ : ∃ j, k = j + 1 := ⟨k - 1, by omega⟩
  unfold Y9.f rchkP
  have h0 := Y4S d l hl l.length 0 k (by omega) (by omega) (by omega)
  rw [List.drop_zero] at h0
  by_cases h1 : d < 1
  · rw [if_pos h1, if_pos (Or.inl h1)]
    rfl
  · rw [if_neg h1]
    show (if decide (d > 64) = true then some 43 else if (l.length : Int) > 512 then some 3 else Y9.l0 k 0 d l) = _
    by_cases h2 : 64 < d
    · rw [if_pos (Or.inr h2), if_pos (decide_eq_true h2)]
    · rw [if_neg (show ¬ (d < 1 ∨ 64 < d) by omega), if_neg (show ¬ decide (d > 64) = true by simpa using h2)]
      by_cases h3 : 512 < l.length
      · rw [if_pos h3, if_pos (by omega)]
      · rw [if_neg h3, if_neg (by omega)]
        exact h0
def tup (y : S30) (ok : Bool) : Int × Int × Int × Int × Int × Bool × Int × Int × Int × Int × Int × Int × Int × Bool := (y.f0.f0, y.f0.f1, y.f1, y.f2.f0, y.f2.f1, y.f3, y.f4.f0, y.f4.f1, y.f4.f2, y.f4.f3, y.f4.f4, y.f4.f5, y.f4.f6, ok)
theorem Y2v (l : List S30) (hl : l.length ≤ 1000000) (p c d : Int) : ∀ (m i k : Nat) (o : Option S30), l.length - i = m → i ≤ l.length → m + 1 ≤ k → lasF l i p c d = o →
    Yr.l0 k l p o.isSome (i : Int) c d (o.getD z30).f0.f0 (o.getD z30).f0.f1 (o.getD z30).f1 (o.getD z30).f2.f0 (o.getD z30).f2.f1 (o.getD z30).f3 (o.getD z30).f4.f0 (o.getD z30).f4.f1 (o.getD z30).f4.f2 (o.getD z30).f4.f3 (o.getD z30).f4.f4 (o.getD z30).f4.f5 (o.getD z30).f4.f6 = some (tup ((lasF l l.length p c d).getD z30) (lasF l l.length p c d).isSome)
  | 0, i, k, o, hm, hi, hk, ho => by
    obtain ⟨k, rfl⟩ : ∃ j, k = j + 1 := ⟨k - 1, by omega⟩
    unfold Yr.l0
    rw [if_neg (by omega)]
    have : i = l.length := by omega
    subst this
    rw [ho]; rfl
  | m + 1, i, k, o, hm, hi, hk, ho => by
    obtain ⟨k, rfl⟩ : ∃ j, k = j + 1 := ⟨k - 1, by omega⟩
    have hil : i < l.length := by omega
    unfold Yr.l0
    rw [if_pos (by omega), if_pos (by omega), Y1D hil, show wrap64 ((i : Int) + 1) = ((i + 1 : Nat) : Int) by unfold wrap64; omega]
    have hstep : lasF l (i + 1) p c d = if p = l[i].f1 ∧ c = l[i].f2.f0 ∧ d = l[i].f2.f1 then some l[i] else o := by
      rw [lasF, dif_pos hil, ho]
    by_cases h1 : l[i].f1 = p
    · rw [if_pos h1]
      by_cases h2 : l[i].f2.f0 = c ∧ l[i].f2.f1 = d
      · rw [if_pos (by simp [h2.1, h2.2])]
        rw [if_pos ⟨h1.symm, h2.1.symm, h2.2.symm⟩] at hstep
        exact Y2v l hl p c d m (i + 1) k (some l[i]) (by omega) (by omega) (by omega) hstep
      · rw [if_neg (by simp; intro a b; exact h2 ⟨a, b⟩)]
        rw [if_neg (fun q => h2 ⟨q.2.1.symm, q.2.2.symm⟩)] at hstep
        exact Y2v l hl p c d m (i + 1) k o (by omega) (by omega) (by omega) hstep
    · rw [if_neg h1]
      rw [if_neg (fun q => h1 q.1.symm)] at hstep
      exact Y2v l hl p c d m (i + 1) k o (by omega) (by omega) (by omega) hstep
theorem Y5s (k : Nat) (l : List S30) (hl : l.length ≤ 1000000) (p c d : Int) (hk : l.length + 1 ≤ k) : Yr.f k l p c d = some (tup ((lasF l l.length p c d).getD z30) (lasF l l.length p c d).isSome) :=
  Y2v l hl p c d l.length 0 k none (by omega) (by omega) hk rfl
def bubR (x : S28) : List S28 → List S28 → List S28
  | [], B => x :: B
  | a :: A, B => if ltY x a = true then bubR x A (a :: B) else A.reverse ++ (a :: x :: B)
theorem Y5w (x y : S28) : Y11.f x.f0 x.f1 x.f2 x.f3 x.f4 x.f5 x.f6 y.f0 y.f1 y.f2 y.f3 y.f4 y.f5 y.f6 = some (ltY x y) := by
  unfold Y11.f ltY lessB
  by_cases h1 : x.f2 < y.f2
  · simp [h1]
  · by_cases h2 : x.f2 = y.f2 <;> simp [h1, h2]
theorem Y4V {xs : List S26} {i : Nat} (h : i < xs.length) : Yx xs (i : Int) = xs[i] := by
  unfold Yx
  rw [Int.toNat_natCast, List.getD_eq_getElem?_getD, List.getElem?_eq_getElem h]; rfl
theorem Y55 (x0 : List S28) (i : Nat) (x : S28) (r : List S28) (k : Nat) : ∀ (A B : List S28), A.length + B.length < 1000000 → Yd.l0 k x0 (bubR x A B) (wrap64 ((i : Int) + 1)) = some r → Yd.l1 (k + A.length + 1) x0 (A.reverse ++ x :: B) (i : Int) (A.length : Int) = some r
  | [], B, hl, h => by
    show Yd.l1 (k + 1) x0 (x :: B) (i : Int) 0 = some r
    unfold Yd.l1
    rw [if_neg (by omega)]
    exact h
  | a :: A, B, hl, h => by
    have hlen : (a :: A).length = A.length + 1 := rfl
    have e1 : ((a :: A).reverse ++ x :: B)[A.length + 1]? = some x := by
      rw [List.getElem?_append_right (by simp)]; simp
    have e0 : ((a :: A).reverse ++ x :: B)[A.length]? = some a := by
      rw [List.getElem?_append_left (by simp)]; simp
    have hL : ((a :: A).reverse ++ x :: B).length = A.length + 1 + (B.length + 1) := by simp; omega
    have hw : wrap64 (((a :: A).length : Int) - 1) = (A.length : Int) := by
      rw [hlen]
      have : A.length + 1 ≤ 1000000 := by rw [hlen] at hl; omega
      unfold wrap64; omega
    have r1 : Yg ((a :: A).reverse ++ x :: B) ((a :: A).length : Int) = x := by
      rw [hlen, Y3g (by rw [hL]; omega)]
      rw [List.getElem?_eq_getElem (by rw [hL]; omega)] at e1
      exact Option.some.inj e1
    have r0 : Yg ((a :: A).reverse ++ x :: B) (A.length : Int) = a := by
      rw [Y3g (by rw [hL]; omega)]
      rw [List.getElem?_eq_getElem (by rw [hL]; omega)] at e0
      exact Option.some.inj e0
    unfold Yd.l1
    rw [if_pos (by rw [hlen]; omega), if_pos (by omega), if_pos (by rw [hL, hlen]; omega), hw, if_pos (by omega), if_pos (by rw [hL]; omega), r1, r0, Y5w, Option.bind_some]
    unfold bubR at h
    by_cases hx : ltY x a = true
    · rw [if_pos hx] at h ⊢
      have hset : ((((a :: A).reverse ++ x :: B).set ((a :: A).length : Int).toNat a).set (A.length : Int).toNat x) = A.reverse ++ x :: (a :: B) := by
        rw [Int.toNat_natCast, Int.toNat_natCast]
        simp [List.reverse_cons, List.append_assoc, List.set_append]
      have := Y55 x0 i x r k A (a :: B) (by simp at hl ⊢; omega) h
      rw [← hset] at this
      exact this
    · rw [if_neg hx] at h ⊢
      have hq : (a :: A).reverse ++ x :: B = A.reverse ++ (a :: x :: B) := by simp
      rw [hq]
      exact Y1E (fun k => (Yd.mono_l k).1 _ _ _) (by omega) h
def srtR : List S28 → List S28 → List S28
  | acc, [] => acc
  | acc, x :: t => srtR (bubR x acc.reverse []) t
theorem Y3W (x : S28) : ∀ A B, (bubR x A B).length = A.length + B.length + 1
  | [], B => by simp [bubR]
  | a :: A, B => by
    unfold bubR
    split
    · rw [Y3W x A (a :: B)]; simp; omega
    · simp; omega
theorem Y54 (x0 : List S28) (hl : x0.length ≤ 1000) : ∀ (m i : Nat) (acc : List S28), x0.length - i = m → i ≤ x0.length → acc.length = i → Yd.l0 (m * 1003 + 1) x0 acc (i : Int) = some (srtR acc (x0.drop i))
  | 0, i, acc, hm, hi, ha => by
    unfold Yd.l0
    rw [if_neg (by omega), List.drop_eq_nil_of_le (by omega)]; rfl
  | m + 1, i, acc, hm, hi, ha => by
    have hil : i < x0.length := by omega
    rw [show (m + 1) * 1003 + 1 = (m * 1003 + 1003) + 1 by omega]
    unfold Yd.l0
    rw [if_pos (by omega), if_pos (by omega), if_pos (by omega), Option.bind_some, Y3g hil, List.drop_eq_getElem_cons hil]
    have hw : wrap64 (((acc ++ [x0[i]]).length : Int) - 1) = (acc.reverse.length : Int) := by
      rw [List.length_append, List.length_reverse, List.length_singleton]; unfold wrap64; omega
    show Yd.l1 (m * 1003 + 1003) x0 (acc ++ [x0[i]]) (i : Int) (wrap64 (((acc ++ [x0[i]]).length : Int) - 1)) = some (srtR (bubR x0[i] acc.reverse []) (x0.drop (i + 1)))
    rw [hw]
    have ih := Y54 x0 hl m (i + 1) (bubR x0[i] acc.reverse []) (by omega) (by omega) (by rw [Y3W]; simp; omega)
    have hw2 : wrap64 ((i : Int) + 1) = ((i + 1 : Nat) : Int) := by unfold wrap64; omega
    rw [← hw2] at ih
    have := Y55 x0 i x0[i] _ (m * 1003 + 1) acc.reverse [] (by simp; omega) ih
    rw [List.reverse_reverse] at this
    exact Y1E (fun k => (Yd.mono_l k).2 _ _ _ _) (by rw [List.length_reverse]; omega) this
theorem Y3p (x : S28) : ∀ A B, (bubR x A B).Perm (x :: (A.reverse ++ B))
  | [], B => List.Perm.refl _
  | a :: A, B => by
    unfold bubR
    split
    · refine (Y3p x A (a :: B)).trans ?_
      simp
    · have : A.reverse ++ (a :: x :: B) = (a :: A).reverse ++ x :: B := by simp
      rw [this]
      exact List.perm_middle
theorem Y2x (x : S28) : ∀ A B, (A.reverse ++ B).Pairwise (fun a b => ltY b a = false) → (∀ b ∈ B, ltY x b = true) → (bubR x A B).Pairwise (fun a b => ltY b a = false)
  | [], B, h, hb => by
    refine List.pairwise_cons.2 ⟨fun b hq => ?_, by simpa using h⟩
    cases e : ltY b x
    · rfl
    · have := swoY.trans _ _ _ (hb b hq) e
      rw [swoY.irrefl] at this; cases this
  | a :: A, B, h, hb => by
    have he : (a :: A).reverse ++ B = A.reverse ++ (a :: B) := by simp
    rw [he] at h
    unfold bubR
    split
    · rename_i hx
      refine Y2x x A (a :: B) h (fun b hq => ?_)
      rcases List.mem_cons.1 hq with rfl | hq
      · exact hx
      · exact hb b hq
    · rename_i hx
      have hx : ltY x a = false := by simpa using hx
      have hp := List.pairwise_append.1 h
      have hc := List.pairwise_cons.1 hp.2.1
      refine List.pairwise_append.2 ⟨hp.1, List.pairwise_cons.2 ⟨fun b hq => ?_, List.pairwise_cons.2 ⟨fun b hq => ?_, hc.2⟩⟩, fun y hy b hq => ?_⟩
      · rcases List.mem_cons.1 hq with rfl | hq
        · exact hx
        · exact hc.1 b hq
      · cases e : ltY b x
        · rfl
        · have := swoY.trans _ _ _ (hb b hq) e
          rw [swoY.irrefl] at this; cases this
      · rcases List.mem_cons.1 hq with rfl | hq
        · exact hp.2.2 y hy _ List.mem_cons_self
        · rcases List.mem_cons.1 hq with rfl | hq
          · exact swoY.ntrans _ _ _ hx (hp.2.2 y hy a List.mem_cons_self)
          · exact hp.2.2 y hy b (List.mem_cons_of_mem _ hq)
theorem Y56 : ∀ (t acc : List S28), acc.Pairwise (fun a b => ltY b a = false) → (srtR acc t).Perm (acc ++ t) ∧ (srtR acc t).Pairwise (fun a b => ltY b a = false)
  | [], acc, h => ⟨by simp [srtR], h⟩
  | x :: t, acc, h => by
    have h1 := Y2x x acc.reverse [] (by simpa using h) (by simp)
    have h2 := Y3p x acc.reverse []
    have ih := Y56 t (bubR x acc.reverse []) h1
    refine ⟨ih.1.trans ?_, ih.2⟩
    refine (h2.append_right t).trans ?_
    simp only [List.reverse_reverse, List.append_nil, List.cons_append]
    exact (List.perm_middle).symm
theorem Y5u (k : Nat) (l : List S28) (hl : l.length ≤ 300) (hk : 310000 ≤ k) (h1 : OneEq ltY l) : Yd.f k l = some (isrt ltY l) := by
  unfold Yd.f
  have h := Y54 l (by omega) l.length 0 [] (by omega) (by omega) rfl
  rw [List.drop_zero] at h
  have hs := Y56 l [] List.Pairwise.nil
  have he : srtR [] l = isrt ltY l := Y2q ((by simpa using hs.1 : (srtR [] l).Perm l).trans (Y1y ltY l).symm) (Y2o (by simpa using hs.1) h1) hs.2 (Y22 swoY l) swoY.irrefl
  rw [he] at h
  exact Y1E (fun k => (Yd.mono_l k).1 _ _ _) (by omega) h
theorem Y4C (tk : List S28) (hl : tk.length ≤ 1000000) (s : S28) : ∀ (m i k : Nat), tk.length - i = m → i ≤ tk.length → m + 1 ≤ k → Yq.l0 k tk (i : Int) s.f0 s.f1 s.f2 s.f3 s.f4 s.f5 s.f6 = some (!((tk.drop i).any (meet1 s)))
  | 0, i, k, hm, hi, hk => by
    obtain ⟨k, rfl⟩ : ∃ j, k = j + 1 := ⟨k - 1, by omega⟩
    unfold Yq.l0
    rw [if_neg (by omega), List.drop_eq_nil_of_le (by omega)]; rfl
  | m + 1, i, k, hm, hi, hk => by
    obtain ⟨k, rfl⟩ : ∃ j, k = j + 1 := ⟨k - 1, by omega⟩
    have hil : i < tk.length := by omega
    have ih := Y4C tk hl s m (i + 1) k (by omega) (by omega) (by omega)
    unfold Yq.l0
    rw [if_pos (by omega), if_pos (by omega), Y3g hil, List.drop_eq_getElem_cons hil, List.any_cons, show wrap64 ((i : Int) + 1) = ((i + 1 : Nat) : Int) by unfold wrap64; omega, ih]
    unfold meet1
    by_cases h1 : tk[i].f1 = s.f1
    · by_cases h2 : tk[i].f2 < wrap64 (s.f2 + s.f3)
      · by_cases h3 : s.f2 < wrap64 (tk[i].f2 + tk[i].f3)
        · simp [h1, h2, h3]
        · simp [h1, h2, h3]
      · simp [h1, h2]
    · simp [h1]
theorem Y4B (k : Nat) (tk : List S28) (hl : tk.length ≤ 1000000) (s : S28) (hk : tk.length + 1 ≤ k) : Yq.f k tk s.f0 s.f1 s.f2 s.f3 s.f4 s.f5 s.f6 = some (!(meetP tk s)) := Y4C tk hl s tk.length 0 k (by omega) (by omega) hk
end Go.Proofs.Yteopkkoblbmggaa.P
end
