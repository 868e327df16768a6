/- Texts of this claim in one: VPAdd; no condition. -/
import Derived.Test.YteopkkoblbmggaaQBAD
import Derived.Test.YteopkkoblbmggaaQBAG
import Derived.Test.YteopkkoblbmggaaQBAH
import Derived.Test.YteopkkoblbmggaaQBAI
import Derived.Deep.Light
import Derived.WalkSpells
section
set_option linter.unusedVariables false
set_option linter.unusedSimpArgs false
namespace Go.Proofs.Yteopkkoblbmggaa.P
open Go.RowKit Go.Maps Go.Proofs.YteopkkoblbmggaaW.PrintWords Go.Proofs.YteopkkoblbmggaaW.PrintLast Go.Proofs.YteopkkoblbmggaaW.PrintMore
attribute [local go_sem high] eqA26 eqA30
def plcP (c d : Int) : List S30 → Nat
  | [] => 0
  | x :: t => if lessP x.f0.f0 x.f0.f1 c d = true then plcP c d t + 1 else 0
def thrP (c d : Int) (l : List S30) : Bool := match l[plcP c d l]? with
  | some x => x.f0.f0 == c && x.f0.f1 == d
  | none => false
theorem Y4T (c d : Int) : ∀ l, plcP c d l ≤ l.length
  | [] => Nat.le_refl _
  | x :: t => by
    have := Y4T c d t
    unfold plcP
    split <;> simp <;> omega
theorem Y3g {c d : Int} {l : List S30} (h : thrP c d l = true) : plcP c d l < l.length := by
  unfold thrP at h
  rcases Nat.lt_or_ge (plcP c d l) l.length with hl | hl
  · exact hl
  · rw [List.getElem?_eq_none hl] at h; cases h
theorem Y3Y (c d : Int) (l : List S30) : ∀ (n i : Nat), i ≤ l.length → l.length < i + n → l.length ≤ 1000000 → Yi.l0 n l i c d = some (((i + plcP c d (l.drop i) : Nat) : Int), thrP c d (l.drop i)) := by
  intro n
  induction n with
  | zero => intro i h1 h2 _; omega
  | succ n ih =>
    intro i h1 h2 h3
    unfold Yi.l0
    rcases Nat.lt_or_ge i l.length with hl | hl
    · rw [if_pos (by omega), if_pos (by omega), Y1a hl, Y1t, Option.bind_some, List.drop_eq_getElem_cons hl]
      have hw : wrap64 ((i : Int) + 1) = ((i + 1 : Nat) : Int) := by unfold wrap64; omega
      by_cases hq : lessP l[i].f0.f0 l[i].f0.f1 c d = true
      · rw [if_pos hq, hw, ih (i + 1) (by omega) (by omega) h3]
        have e1 : plcP c d (l[i] :: l.drop (i + 1)) = plcP c d (l.drop (i + 1)) + 1 := by rw [plcP, if_pos hq]
        unfold thrP
        rw [e1, List.getElem?_cons_succ]
        congr 2
        omega
      · rw [if_neg hq]
        have e1 : plcP c d (l[i] :: l.drop (i + 1)) = 0 := by rw [plcP, if_neg hq]
        unfold thrP
        rw [e1, List.getElem?_cons_zero]
        rfl
    · obtain rfl : i = l.length := by omega
      rw [if_neg (by omega), List.drop_length]
      rfl
theorem Y4y (c d : Int) (l : List S30) (h : l.length ≤ 1000000) : Yi.f (l.length + 1) l c d = some ((plcP c d l : Int), thrP c d l) := by
  have := Y3Y c d l (l.length + 1) 0 (by omega) (by omega) h
  rw [List.drop_zero, Nat.zero_add] at this
  exact this
def eqE (x y : S30) : Bool := (x.f0.f0 == y.f0.f0 && (x.f0.f1 == y.f0.f1)) && (x.f1 == y.f1 && ((x.f2.f0 == y.f2.f0 && (x.f2.f1 == y.f2.f1)) && (x.f3 == y.f3 && ((x.f4.f0 == y.f4.f0 && (x.f4.f1 == y.f4.f1 && (x.f4.f2 == y.f4.f2 && (x.f4.f3 == y.f4.f3 && (x.f4.f4 == y.f4.f4 && (x.f4.f5 == y.f4.f5 && (x.f4.f6 == y.f4.f6)))))))))))
def addP (d : Int) (l : List S30) (y : S30) : Int × List S30 × Int :=
  if rchkP d l = 0 then
    (if chk30 y = 0 then
      (if thrP y.f0.f0 y.f0.f1 l = true then (if eqE (Y1 l (plcP y.f0.f0 y.f0.f1 l)) y = true then (d, l, 0) else (0, [], 7))
       else if fndsE y = false ∧ kno30 l y = false then (0, [], 6)
       else if 512 ≤ l.length then (0, [], 3)
       else (d, l.take (plcP y.f0.f0 y.f0.f1 l) ++ y :: l.drop (plcP y.f0.f0 y.f0.f1 l), 0))
     else (0, [], chk30 y))
  else (0, [], rchkP d l)
theorem Y3d {d : Int} {l : List S30} (h : rchkP d l = 0) : l.length ≤ 512 := by
  unfold rchkP at h
  split at h
  · cases h
  · split at h
    · cases h
    · omega
def mk30 (b0 b1 b2 b3 b4 : Int) (b5 : Bool) (b6 b7 b8 b9 b10 b11 b12 : Int) : S30 := ⟨⟨b0, b1⟩, b2, ⟨b3, b4⟩, b5, ⟨b6, b7, b8, b9, b10, b11, b12⟩⟩
def YJ.f (a0 : Int) (l1 : List S30) (b0 b1 b2 b3 b4 : Int) (b5 : Bool) (b6 b7 b8 b9 b10 b11 b12 : Int) : Option (Int × List S30 × Int) :=
  if (∀ e ∈ l1, okE30 e) ∧ okE30 (mk30 b0 b1 b2 b3 b4 b5 b6 b7 b8 b9 b10 b11 b12) then some (addP a0 l1 (mk30 b0 b1 b2 b3 b4 b5 b6 b7 b8 b9 b10 b11 b12)) else none
theorem Y1V {H : Type} {P : Program} (w : World) {o : Oper} {a : Act} (m x : Operand) (t : TypeId) (hop : o.op = Op.lookup t m x false)
    (k e : TypeId) (K : Keyed P k) (ht : P.underlying t = some (.map k e)) (he : P.underlying e = some .bool) (hz : (zeroValue e).run P w = .ok (.bool false) w) (b n : Nat) (D : DataW H)
    (hm : a.eval m = .map (some b)) (hown : w.ownsMap P k (plainElem P e) b n D) (key : Value) (kl : Lit) (hx : a.eval x = key) (hkey : keyOf P k key = some kl) (r : Bool) (hr : D.atKey kl (.lit (.bool false)) = .lit (.bool r)) :
    (execOp a.eval o).run P w = .ok (.value (.bool r)) w := by
  obtain ⟨v, ps, hrun, hv⟩ := hown.lookup K ht hz (plainElem_bool he false) hkey
  obtain ⟨c, rfl, hc⟩ := Y1C he hv
  simp only [Prod.mk.injEq] at hc
  have hcr : c = r := by
    have := hc.1.symm.trans hr
    simpa using this
  subst hcr
  simp [execOp, hop, hm, hx, hrun, Result.andThen]
set_option maxHeartbeats 16000000 in
set_option maxRecDepth 100000 in
theorem Y4o (a0 : Int) (A1 : Option Addr) (c1 : Nat) (l1 : List S30) (y : S30) (r0 : Int) (r1 : List S30) (r2 : Int) (w : World) (hr1 : Kd.C k30 w A1 l1.length l1) (hc1 : l1.length ≤ c1) (hv : ∀ e ∈ l1, okE30 e) (hy : okE30 y) (h : addP a0 l1 y = (r0, r1, r2)) :
    Calls Try.prog 19 #[.agg #[.int .i64 a0, .slice A1 l1.length c1], .agg #[.int .i64 y.f0.f0, .int .i64 y.f0.f1, .int .i64 y.f1, .int .i64 y.f2.f0, .int .i64 y.f2.f1, .bool y.f3, .int .i64 y.f4.f0, .int .i64 y.f4.f1, .int .i64 y.f4.f2, .int .i64 y.f4.f3, .int .i64 y.f4.f4, .int .i64 y.f4.f5, .int .i64 y.f4.f6]] w fun e w' => ∃ v1_ : Value, e = .returned (.tuple #[.agg #[.int .i64 r0, v1_], .int .i64 r2]) ∧ Kd.R k30 30 w' w.heap.size (fun _ => True) v1_ r1 ∧ Below w.heap.size w w' := by
  have HR := Y0.mk hr1
  have HC := Y0.mk hc1
  have HV := Y0.mk hv
  have HY := Y0.mk hy
  have HB := Y0.mk (Below.refl w.heap.size w)
  have hu24 := Try.underlying24
  have hu30 := Try.underlying30
  obtain ⟨cv, hcv⟩ : ∃ c, rchkP a0 l1 = c := ⟨_, rfl⟩
  have HQ : Y0 (Ym.f a0 l1 = some cv) := ⟨by unfold Ym.f; rw [if_pos hv, hcv]⟩
  unfold addP at h
  rw [hcv] at h
  by_cases hz : cv = 0
  rotate_left
  · rw [if_neg hz] at h
    simp only [Prod.mk.injEq] at h
    obtain ⟨rfl, rfl, rfl⟩ := h
    have hz2 : (cv != 0) = true := by simp; exact hz
    clear hr1 hc1 hv hy hcv hz
    go_enter Try.func19, Try.ntmps19
    go_wp2_with (first | ((with_reducible refine Ye (N := 2) rfl ?_); refine Yf ?hg (N := 2) ?hd (cs := #[.int .i64 a0, .slice A1 l1.length c1]) (t := 24) ?hr ?_; (case hd => rfl); (case hg => rfl); (case hr => first | (go_simp; done) | (go_simp; rfl)); intro g2 hg W2 hbox hb; have hge_ := Yh (hU HB.out); rw [← hg] at hge_; have G2 := Y0.mk hge_; clear hge_; replace HB := Y0.mk (Y5 (hU HB.out) hb); have B2 := Y0.mk hbox; clear hb hbox hg) | ((with_reducible refine Ye (N := 3) rfl ?_); refine Yf ?hg (N := 3) ?hd (cs := #[.int .i64 y.f0.f0, .int .i64 y.f0.f1, .int .i64 y.f1, .int .i64 y.f2.f0, .int .i64 y.f2.f1, .bool y.f3, .int .i64 y.f4.f0, .int .i64 y.f4.f1, .int .i64 y.f4.f2, .int .i64 y.f4.f3, .int .i64 y.f4.f4, .int .i64 y.f4.f5, .int .i64 y.f4.f6]) (t := 30) ?hr ?_; (case hd => rfl); (case hg => rfl); (case hr => first | (go_simp; done) | (go_simp; rfl)); intro g3 hg W3 hbox hb; have hne_ := Nat.ne_of_lt (YP (bU B2.out)); rw [← hg] at hne_; have N2_3 := Y0.mk hne_; clear hne_; have N3_2 := Y0.mk (Ne.symm N2_3.out); replace B2 := Y0.mk (Y3 (bU B2.out) hb); have hge_ := Yh (hU HB.out); rw [← hg] at hge_; have G3 := Y0.mk hge_; clear hge_; replace HB := Y0.mk (Y5 (hU HB.out) hb); have B3 := Y0.mk hbox; clear hb hbox hg) | ((with_reducible refine Ye (N := 4) rfl ?_); refine Yf ?hg (N := 4) ?hd (cs := #[.int .i64 0, .slice none 0 0]) (t := 24) ?hr ?_; (case hd => rfl); (case hg => rfl); (case hr => first | (go_simp; done) | (go_simp; rfl)); intro g4 hg W4 hbox hb; have hne_ := Nat.ne_of_lt (YP (bU B2.out)); rw [← hg] at hne_; have N2_4 := Y0.mk hne_; clear hne_; have N4_2 := Y0.mk (Ne.symm N2_4.out); replace B2 := Y0.mk (Y3 (bU B2.out) hb); have hne_ := Nat.ne_of_lt (YP (bU B3.out)); rw [← hg] at hne_; have N3_4 := Y0.mk hne_; clear hne_; have N4_3 := Y0.mk (Ne.symm N3_4.out); replace B3 := Y0.mk (Y3 (bU B3.out) hb); have hge_ := Yh (hU HB.out); rw [← hg] at hge_; have G4 := Y0.mk hge_; clear hge_; replace HB := Y0.mk (Y5 (hU HB.out) hb); have B4 := Y0.mk hbox; clear hb hbox hg; have hc2 := Y2 B2.out; have hf2 := Y4 B2.out; have hc3 := Y2 B3.out; have hf3 := Y4 B3.out; have hc4 := Y2 B4.out; have hf4 := Y4 B4.out; have n24 := N2_4.out; have n42 := N4_2.out; have n34 := N3_4.out; have n43 := N4_3.out) | ((with_reducible refine Yd (f := 29) rfl ?_); refine YG (some 13) rfl rfl Try.func29 (by kernel_rfl) rfl #[.agg #[.int .i64 a0, .slice A1 l1.length c1]] rfl (by (try simp only [List.map_toArray, List.map_cons, List.map_nil]); first | done | (go_simp; done) | rfl) ?_; refine (Ym.calls a0 A1 c1 l1 _ _ (Kd.C_below HR.out (hU HB.out)) HC.out HQ.out).mono ?_; rintro e w2 ⟨rfl, hb⟩; refine ⟨_, rfl, ?_⟩; replace B2 := Y0.mk (Y3 (bU B2.out) hb); replace B3 := Y0.mk (Y3 (bU B3.out) hb); replace B4 := Y0.mk (Y3 (bU B4.out) hb); replace HB := Y0.mk (Y5 (hU HB.out) hb); clear hb; clear hc2 hf2; have hc2 := Y2 B2.out; have hf2 := Y4 B2.out; clear hc3 hf3; have hc3 := Y2 B3.out; have hf3 := Y4 B3.out; clear hc4 hf4; have hc4 := Y2 B4.out; have hf4 := Y4 B4.out))
    refine bodyPost_ret (YZ rfl _ _ g4 24 #[.int .i64 0, .slice none 0 0] (0, 0) _ rfl (by refine Yn (cs := #[.int .i64 0, .slice none 0 0]) ?_ 1 _ rfl; refine Yn (cs := #[.int .i64 0, .slice none 0 0]) ?_ 0 _ rfl; exact B4.out) Try.underlying24 rfl (by kernel_rfl)) rfl ?_
    exact ⟨_, rfl, Kd.R_nil _ _ _ _ _, (((hU HB.out).setCell (p := ⟨g4, 0, none⟩) G4.out _).setCell (p := ⟨g4, 1, none⟩) G4.out _)⟩
  subst hz
  rw [if_pos rfl] at h
  have HL := Y0.mk (Y3d hcv)
  obtain ⟨fv, hfv⟩ : ∃ c, chk30 y = c := ⟨_, rfl⟩
  have HQ2 := Y0.mk (Y3Q 0 y.f0.f0 y.f0.f1 y.f1 y.f2.f0 y.f2.f1 y.f3 y.f4.f0 y.f4.f1 y.f4.f2 y.f4.f3 y.f4.f4 y.f4.f5 y.f4.f6)
  rw [show chkE y.f0.f0 y.f0.f1 y.f1 y.f2.f0 y.f2.f1 y.f3 y.f4.f0 y.f4.f1 y.f4.f2 y.f4.f3 y.f4.f4 y.f4.f5 y.f4.f6 = fv from hfv] at HQ2
  rw [hfv] at h
  clear hcv hfv
  by_cases hz : fv = 0
  rotate_left
  · rw [if_neg hz] at h
    simp only [Prod.mk.injEq] at h
    obtain ⟨rfl, rfl, rfl⟩ := h
    have hz2 : (fv != 0) = true := by simp; exact hz
    clear hr1 hc1 hv hy hz
    go_enter Try.func19, Try.ntmps19
    go_wp2_with (first | ((with_reducible refine Ye (N := 2) rfl ?_); refine Yf ?hg (N := 2) ?hd (cs := #[.int .i64 a0, .slice A1 l1.length c1]) (t := 24) ?hr ?_; (case hd => rfl); (case hg => rfl); (case hr => first | (go_simp; done) | (go_simp; rfl)); intro g2 hg W2 hbox hb; have hge_ := Yh (hU HB.out); rw [← hg] at hge_; have G2 := Y0.mk hge_; clear hge_; replace HB := Y0.mk (Y5 (hU HB.out) hb); have B2 := Y0.mk hbox; clear hb hbox hg) | ((with_reducible refine Ye (N := 3) rfl ?_); refine Yf ?hg (N := 3) ?hd (cs := #[.int .i64 y.f0.f0, .int .i64 y.f0.f1, .int .i64 y.f1, .int .i64 y.f2.f0, .int .i64 y.f2.f1, .bool y.f3, .int .i64 y.f4.f0, .int .i64 y.f4.f1, .int .i64 y.f4.f2, .int .i64 y.f4.f3, .int .i64 y.f4.f4, .int .i64 y.f4.f5, .int .i64 y.f4.f6]) (t := 30) ?hr ?_; (case hd => rfl); (case hg => rfl); (case hr => first | (go_simp; done) | (go_simp; rfl)); intro g3 hg W3 hbox hb; have hne_ := Nat.ne_of_lt (YP (bU B2.out)); rw [← hg] at hne_; have N2_3 := Y0.mk hne_; clear hne_; have N3_2 := Y0.mk (Ne.symm N2_3.out); replace B2 := Y0.mk (Y3 (bU B2.out) hb); have hge_ := Yh (hU HB.out); rw [← hg] at hge_; have G3 := Y0.mk hge_; clear hge_; replace HB := Y0.mk (Y5 (hU HB.out) hb); have B3 := Y0.mk hbox; clear hb hbox hg) | ((with_reducible refine Ye (N := 4) rfl ?_); refine Yf ?hg (N := 4) ?hd (cs := #[.int .i64 0, .slice none 0 0]) (t := 24) ?hr ?_; (case hd => rfl); (case hg => rfl); (case hr => first | (go_simp; done) | (go_simp; rfl)); intro g4 hg W4 hbox hb; have hne_ := Nat.ne_of_lt (YP (bU B2.out)); rw [← hg] at hne_; have N2_4 := Y0.mk hne_; clear hne_; have N4_2 := Y0.mk (Ne.symm N2_4.out); replace B2 := Y0.mk (Y3 (bU B2.out) hb); have hne_ := Nat.ne_of_lt (YP (bU B3.out)); rw [← hg] at hne_; have N3_4 := Y0.mk hne_; clear hne_; have N4_3 := Y0.mk (Ne.symm N3_4.out); replace B3 := Y0.mk (Y3 (bU B3.out) hb); have hge_ := Yh (hU HB.out); rw [← hg] at hge_; have G4 := Y0.mk hge_; clear hge_; replace HB := Y0.mk (Y5 (hU HB.out) hb); have B4 := Y0.mk hbox; clear hb hbox hg; have hc2 := Y2 B2.out; have hf2 := Y4 B2.out; have hc3 := Y2 B3.out; have hf3 := Y4 B3.out; have hc4 := Y2 B4.out; have hf4 := Y4 B4.out; have n24 := N2_4.out; have n42 := N4_2.out; have n34 := N3_4.out; have n43 := N4_3.out) | ((with_reducible refine Yd (f := 29) rfl ?_); refine YG (some 13) rfl rfl Try.func29 (by kernel_rfl) rfl #[.agg #[.int .i64 a0, .slice A1 l1.length c1]] rfl (by (try simp only [List.map_toArray, List.map_cons, List.map_nil]); first | done | (go_simp; done) | rfl) ?_; refine (Ym.calls a0 A1 c1 l1 _ _ (Kd.C_below HR.out (hU HB.out)) HC.out HQ.out).mono ?_; rintro e w2 ⟨rfl, hb⟩; refine ⟨_, rfl, ?_⟩; replace B2 := Y0.mk (Y3 (bU B2.out) hb); replace B3 := Y0.mk (Y3 (bU B3.out) hb); replace B4 := Y0.mk (Y3 (bU B4.out) hb); replace HB := Y0.mk (Y5 (hU HB.out) hb); clear hb; clear hc2 hf2; have hc2 := Y2 B2.out; have hf2 := Y4 B2.out; clear hc3 hf3; have hc3 := Y2 B3.out; have hf3 := Y4 B3.out; clear hc4 hf4; have hc4 := Y2 B4.out; have hf4 := Y4 B4.out) | ((with_reducible refine Yd (f := 54) rfl ?_); refine YG (some 19) rfl rfl Try.func54 (by kernel_rfl) rfl #[.agg #[.int .i64 y.f0.f0, .int .i64 y.f0.f1, .int .i64 y.f1, .int .i64 y.f2.f0, .int .i64 y.f2.f1, .bool y.f3, .int .i64 y.f4.f0, .int .i64 y.f4.f1, .int .i64 y.f4.f2, .int .i64 y.f4.f3, .int .i64 y.f4.f4, .int .i64 y.f4.f5, .int .i64 y.f4.f6]] rfl (by (try simp only [List.map_toArray, List.map_cons, List.map_nil]); first | done | (go_simp; done) | rfl) ?_; refine (Yq.calls _ _ _ _ _ _ _ _ _ _ _ _ _ _ _ _ HQ2.out).mono ?_; rintro e w3 ⟨rfl, hb⟩; refine ⟨_, rfl, ?_⟩; replace B2 := Y0.mk (Y3 (bU B2.out) hb); replace B3 := Y0.mk (Y3 (bU B3.out) hb); replace B4 := Y0.mk (Y3 (bU B4.out) hb); replace HB := Y0.mk (Y5 (hU HB.out) hb); clear hb; clear hc2 hf2; have hc2 := Y2 B2.out; have hf2 := Y4 B2.out; clear hc3 hf3; have hc3 := Y2 B3.out; have hf3 := Y4 B3.out; clear hc4 hf4; have hc4 := Y2 B4.out; have hf4 := Y4 B4.out))
    refine bodyPost_ret (YZ rfl _ _ g4 24 #[.int .i64 0, .slice none 0 0] (0, 0) _ rfl (by refine Yn (cs := #[.int .i64 0, .slice none 0 0]) ?_ 1 _ rfl; refine Yn (cs := #[.int .i64 0, .slice none 0 0]) ?_ 0 _ rfl; exact B4.out) Try.underlying24 rfl (by kernel_rfl)) rfl ?_
    exact ⟨_, rfl, Kd.R_nil _ _ _ _ _, (((hU HB.out).setCell (p := ⟨g4, 0, none⟩) G4.out _).setCell (p := ⟨g4, 1, none⟩) G4.out _)⟩
  subst hz
  rw [if_pos rfl] at h
  have HX := Y0.mk h
  clear hr1 hc1 hv hy h
  go_enter Try.func19, Try.ntmps19
  go_upto_region 7 with (first | ((with_reducible refine Ye (N := 2) rfl ?_); refine Yf ?hg (N := 2) ?hd (cs := #[.int .i64 a0, .slice A1 l1.length c1]) (t := 24) ?hr ?_; (case hd => rfl); (case hg => rfl); (case hr => first | (go_simp; done) | (go_simp; rfl)); intro g2 hg W2 hbox hb; have hge_ := Yh (hU HB.out); rw [← hg] at hge_; have G2 := Y0.mk hge_; clear hge_; replace HB := Y0.mk (Y5 (hU HB.out) hb); have B2 := Y0.mk hbox; clear hb hbox hg) | ((with_reducible refine Ye (N := 3) rfl ?_); refine Yf ?hg (N := 3) ?hd (cs := #[.int .i64 y.f0.f0, .int .i64 y.f0.f1, .int .i64 y.f1, .int .i64 y.f2.f0, .int .i64 y.f2.f1, .bool y.f3, .int .i64 y.f4.f0, .int .i64 y.f4.f1, .int .i64 y.f4.f2, .int .i64 y.f4.f3, .int .i64 y.f4.f4, .int .i64 y.f4.f5, .int .i64 y.f4.f6]) (t := 30) ?hr ?_; (case hd => rfl); (case hg => rfl); (case hr => first | (go_simp; done) | (go_simp; rfl)); intro g3 hg W3 hbox hb; have hne_ := Nat.ne_of_lt (YP (bU B2.out)); rw [← hg] at hne_; have N2_3 := Y0.mk hne_; clear hne_; have N3_2 := Y0.mk (Ne.symm N2_3.out); replace B2 := Y0.mk (Y3 (bU B2.out) hb); have hge_ := Yh (hU HB.out); rw [← hg] at hge_; have G3 := Y0.mk hge_; clear hge_; replace HB := Y0.mk (Y5 (hU HB.out) hb); have B3 := Y0.mk hbox; clear hb hbox hg) | ((with_reducible refine Ye (N := 4) rfl ?_); refine Yf ?hg (N := 4) ?hd (cs := #[.int .i64 0, .slice none 0 0]) (t := 24) ?hr ?_; (case hd => rfl); (case hg => rfl); (case hr => first | (go_simp; done) | (go_simp; rfl)); intro g4 hg W4 hbox hb; have hne_ := Nat.ne_of_lt (YP (bU B2.out)); rw [← hg] at hne_; have N2_4 := Y0.mk hne_; clear hne_; have N4_2 := Y0.mk (Ne.symm N2_4.out); replace B2 := Y0.mk (Y3 (bU B2.out) hb); have hne_ := Nat.ne_of_lt (YP (bU B3.out)); rw [← hg] at hne_; have N3_4 := Y0.mk hne_; clear hne_; have N4_3 := Y0.mk (Ne.symm N3_4.out); replace B3 := Y0.mk (Y3 (bU B3.out) hb); have hge_ := Yh (hU HB.out); rw [← hg] at hge_; have G4 := Y0.mk hge_; clear hge_; replace HB := Y0.mk (Y5 (hU HB.out) hb); have B4 := Y0.mk hbox; clear hb hbox hg; have hc2 := Y2 B2.out; have hf2 := Y4 B2.out; have hc3 := Y2 B3.out; have hf3 := Y4 B3.out; have hc4 := Y2 B4.out; have hf4 := Y4 B4.out; have n24 := N2_4.out; have n42 := N4_2.out; have n34 := N3_4.out; have n43 := N4_3.out) | ((with_reducible refine Yd (f := 29) rfl ?_); refine YG (some 13) rfl rfl Try.func29 (by kernel_rfl) rfl #[.agg #[.int .i64 a0, .slice A1 l1.length c1]] rfl (by (try simp only [List.map_toArray, List.map_cons, List.map_nil]); first | done | (go_simp; done) | rfl) ?_; refine (Ym.calls a0 A1 c1 l1 _ _ (Kd.C_below HR.out (hU HB.out)) HC.out HQ.out).mono ?_; rintro e w2 ⟨rfl, hb⟩; refine ⟨_, rfl, ?_⟩; replace B2 := Y0.mk (Y3 (bU B2.out) hb); replace B3 := Y0.mk (Y3 (bU B3.out) hb); replace B4 := Y0.mk (Y3 (bU B4.out) hb); replace HB := Y0.mk (Y5 (hU HB.out) hb); clear hb; clear hc2 hf2; have hc2 := Y2 B2.out; have hf2 := Y4 B2.out; clear hc3 hf3; have hc3 := Y2 B3.out; have hf3 := Y4 B3.out; clear hc4 hf4; have hc4 := Y2 B4.out; have hf4 := Y4 B4.out) | ((with_reducible refine Yd (f := 54) rfl ?_); refine YG (some 19) rfl rfl Try.func54 (by kernel_rfl) rfl #[.agg #[.int .i64 y.f0.f0, .int .i64 y.f0.f1, .int .i64 y.f1, .int .i64 y.f2.f0, .int .i64 y.f2.f1, .bool y.f3, .int .i64 y.f4.f0, .int .i64 y.f4.f1, .int .i64 y.f4.f2, .int .i64 y.f4.f3, .int .i64 y.f4.f4, .int .i64 y.f4.f5, .int .i64 y.f4.f6]] rfl (by (try simp only [List.map_toArray, List.map_cons, List.map_nil]); first | done | (go_simp; done) | rfl) ?_; refine (Yq.calls _ _ _ _ _ _ _ _ _ _ _ _ _ _ _ _ HQ2.out).mono ?_; rintro e w3 ⟨rfl, hb⟩; refine ⟨_, rfl, ?_⟩; replace B2 := Y0.mk (Y3 (bU B2.out) hb); replace B3 := Y0.mk (Y3 (bU B3.out) hb); replace B4 := Y0.mk (Y3 (bU B4.out) hb); replace HB := Y0.mk (Y5 (hU HB.out) hb); clear hb; clear hc2 hf2; have hc2 := Y2 B2.out; have hf2 := Y4 B2.out; clear hc3 hf3; have hc3 := Y2 B3.out; have hf3 := Y4 B3.out; clear hc4 hf4; have hc4 := Y2 B4.out; have hf4 := Y4 B4.out))
  have HQ4 : Y0 (slices_Clone_edits.f l1 = some l1) := ⟨by unfold slices_Clone_edits.f; rw [if_pos (by have := HL.out; omega)]⟩
  replace B2 := Y0.mk (Y7 B2.out)
  replace B3 := Y0.mk (Y7 B3.out)
  replace B4 := Y0.mk (Y7 B4.out)
  replace HB := Y0.mk (Yv HB.out)
  refine Y19 (n := 8) (S := fun w' => w'.heap[g2]? = some (.cells #[.int .i64 a0, .slice A1 l1.length c1] 24 (0, 0))) (ds := []) (bs 8 0) rfl rfl (by kernel_rfl) B2.out (fun hHeld => ?_)
  clear hHeld
  generalize w3.drew = W4 at B2 B3 B4 HB ⊢
  clear hc2 hf2 hc3 hf3 hc4 hf4
  refine puA 0 24 (bs 8 1) ?_
  refine puA 2 26 (bs 8 5) ?_
  refine tkA 1 25 (bs 8 7) B2.out ?_ (hy := Or.inl ⟨by rfl, by intro w' hs; have hc2 := Y2 hs; go_simp; with_reducible rfl⟩)
  refine tkA 3 27 (bs 8 15) B2.out ?_ (hy := Or.inl ⟨by rfl, by intro w' hs; have hc2 := Y2 hs; go_simp; with_reducible rfl⟩)
  refine join_ (σ := (Option Addr × Nat) × Nat) 1 (bs 8 127) (fun s => [(28, .slice s.1.1 l1.length s.1.2), (29, .agg #[.int .i64 a0, .slice s.1.1 l1.length s.1.2]), (8, .pointer (some ⟨s.2, 0, none⟩))])
    (fun s W' => W'.heap[g2]? = some (.cells #[.int .i64 a0, .slice A1 l1.length c1] 24 (0, 0)) ∧ W'.heap[g3]? = some (.cells #[.int .i64 y.f0.f0, .int .i64 y.f0.f1, .int .i64 y.f1, .int .i64 y.f2.f0, .int .i64 y.f2.f1, .bool y.f3, .int .i64 y.f4.f0, .int .i64 y.f4.f1, .int .i64 y.f4.f2, .int .i64 y.f4.f3, .int .i64 y.f4.f4, .int .i64 y.f4.f5, .int .i64 y.f4.f6] 30 (0, 0)) ∧ W'.heap[g4]? = some (.cells #[.int .i64 0, .slice none 0 0] 24 (0, 0)) ∧ W'.heap[s.2]? = some (.cells #[.int .i64 0, .slice none 0 0] 24 (0, 0)) ∧ w.heap.size ≤ s.2 ∧ g4 ≠ s.2 ∧ g3 ≠ s.2 ∧ g2 ≠ s.2 ∧ Kd.R k30 30 W' w.heap.size (fun _ => True) (.slice s.1.1 l1.length s.1.2) l1 ∧ Below w.heap.size w W') ?_ ?_
  rotate_left
  · intro hCont
    refine two_ (i := 4) (j := 6) (Ni := some 28) (Nj := some 8) (bs 8 31) (bs 8 79) rfl rfl rfl rfl (by kernel_rfl) (by decide) (by decide) (fun K hK => ?_) (fun K hK => ?_)
    · refine goes_ Try.func55 (by kernel_rfl) rfl #[.slice A1 l1.length c1] (by rfl) rfl rfl (by (try simp only [List.map_toArray, List.map_cons, List.map_nil]); first | done | (go_simp; done) | rfl) ?_
      refine (slices_Clone_edits.calls A1 c1 l1 _ _ (Kd.C_below HR.out (hU HB.out)) HC.out HQ4.out).mono ?_
      rintro e W5 ⟨v, rfl, ho, hb⟩
      refine ⟨_, rfl, ?_⟩
      have HO := Y0.mk (Kd.R_lower ho (Yh (hU HB.out)))
      obtain ⟨Ao, co, rfl⟩ := Kd.R_slice HO.out
      replace B2 := Y0.mk (Y3 (bU B2.out) hb)
      replace B3 := Y0.mk (Y3 (bU B3.out) hb)
      replace B4 := Y0.mk (Y3 (bU B4.out) hb)
      replace HB := Y0.mk (Y5 (hU HB.out) hb)
      clear hb ho
      refine hK.out _ _ B2.out (fun _ => ?_)
      clear hK K
      refine nmA 28 ?_
      refine puA 5 29 (bs 8 63) ?_
      refine one_ (i := 6) (N := some 8) (bs 8 127) rfl rfl (by kernel_rfl) (by decide) (fun K hK => ?_)
      refine YY ?hg (N := 8) ?hd (cs := #[.int .i64 0, .slice none 0 0]) (t := 24) ?hr ?_; (case hd => rfl); (case hg => rfl); (case hr => first | (go_simp; done) | (go_simp; rfl))
      intro g8 hg W6 hbox hb
      have hcont := hCont ((Ao, co), g8) W6 ⟨Y3 (bU B2.out) hb, Y3 (bU B3.out) hb, Y3 (bU B4.out) hb, hbox, by rw [hg]; exact Yh (hU HB.out), by rw [hg]; exact Nat.ne_of_lt (YP (bU B4.out)), by rw [hg]; exact Nat.ne_of_lt (YP (bU B3.out)), by rw [hg]; exact Nat.ne_of_lt (YP (bU B2.out)), Kd.R_below (Kd.rU HO.out) hb, Y5 (hU HB.out) hb⟩
      refine hK.out _ _ (Y3 (bU B2.out) hb) (fun _ => ?_)
      refine nmA 8 ?_
      refine norm_ ?_ hcont
      simp only [YB, Act.put, List.setIfInBounds_toArray, List.set_cons_zero, List.set_cons_succ]
    · refine YY ?hg (N := 8) ?hd (cs := #[.int .i64 0, .slice none 0 0]) (t := 24) ?hr ?_; (case hd => rfl); (case hg => rfl); (case hr => first | (go_simp; done) | (go_simp; rfl))
      intro g8 hg W6 hbox hb
      have hn4 := Nat.ne_of_lt (YP (bU B4.out))
      have hn3 := Nat.ne_of_lt (YP (bU B3.out))
      have hn2 := Nat.ne_of_lt (YP (bU B2.out))
      rw [← hg] at hn4 hn3 hn2
      have hge := Yh (hU HB.out)
      rw [← hg] at hge
      replace B2 := Y0.mk (Y3 (bU B2.out) hb)
      replace B3 := Y0.mk (Y3 (bU B3.out) hb)
      replace B4 := Y0.mk (Y3 (bU B4.out) hb)
      replace HB := Y0.mk (Y5 (hU HB.out) hb)
      have N4 := Y0.mk hn4
      have N3 := Y0.mk hn3
      have N2 := Y0.mk hn2
      have GE := Y0.mk hge
      have B8 := Y0.mk hbox
      clear hb hbox hg hn4 hn3 hn2 hge
      refine hK.out _ _ B2.out (fun _ => ?_)
      clear hK K
      refine nmA 8 ?_
      refine one_ (i := 4) (N := some 28) (bs 8 95) rfl rfl (by kernel_rfl) (by decide) (fun K hK => ?_)
      refine goes_ Try.func55 (by kernel_rfl) rfl #[.slice A1 l1.length c1] (by rfl) rfl rfl (by (try simp only [List.map_toArray, List.map_cons, List.map_nil]); first | done | (go_simp; done) | rfl) ?_
      refine (slices_Clone_edits.calls A1 c1 l1 _ _ (Kd.C_below HR.out (hU HB.out)) HC.out HQ4.out).mono ?_
      rintro e W5 ⟨v, rfl, ho, hb⟩
      refine ⟨_, rfl, ?_⟩
      have HO := Y0.mk (Kd.R_lower ho (Yh (hU HB.out)))
      obtain ⟨Ao, co, rfl⟩ := Kd.R_slice HO.out
      have hcont := hCont ((Ao, co), g8) W5 ⟨Y3 (bU B2.out) hb, Y3 (bU B3.out) hb, Y3 (bU B4.out) hb, Y3 (bU B8.out) hb, GE.out, N4.out, N3.out, N2.out, HO.out, Y5 (hU HB.out) hb⟩
      refine hK.out _ _ (Y3 (bU B2.out) hb) (fun _ => ?_)
      refine nmA 28 ?_
      refine puA 5 29 (bs 8 127) ?_
      refine norm_ ?_ hcont
      simp only [YB, Act.put, List.setIfInBounds_toArray, List.set_cons_zero, List.set_cons_succ]
  rintro ⟨⟨Ao, co⟩, g8⟩ W5 ⟨hb2, hb3, hb4, hb8, hge, hn4, hn3, hn2, ho, hB⟩
  dsimp only at hb8 hge hn4 hn3 hn2 ho
  clear B2 B3 B4 HB
  have B2 := Y0.mk hb2
  have B3 := Y0.mk hb3
  have B4 := Y0.mk hb4
  have B8 := Y0.mk hb8
  have G8 := Y0.mk hge
  have N4_8 := Y0.mk hn4
  have N8_4 := Y0.mk hn4.symm
  have N3_8 := Y0.mk hn3
  have N2_8 := Y0.mk hn2
  have HO := Y0.mk ho
  have HB := Y0.mk hB
  clear hb2 hb3 hb4 hb8 hge hn4 hn3 hn2 ho hB
  refine norm_ (a' := ?_) ?_ ?_
  rotate_left
  · simp only [YB, Act.put, List.setIfInBounds_toArray, List.set_cons_zero, List.set_cons_succ]; rfl
  refine one_ (i := 7) (N := none) (bs 8 255) rfl rfl (by kernel_rfl) (by decide) (fun K hK => ?_)
  have hc8 := Y2 B8.out
  have hf8 := Y4 B8.out
  refine skip_ (w1 := ?_) (by rfl) rfl ?_ ?_
  rotate_left
  · go_simp
    rfl
  refine hK.out _ _ (Y1g (Y1g B2.out N2_8.out _) N2_8.out _) (fun _ => ?_)
  clear hK K
  refine done_ (by kernel_rfl) ?_
  clear hc8 hf8
  replace B2 := Y0.mk (Y1g (p := ⟨g8, 1, none⟩) (Y1g (p := ⟨g8, 0, none⟩) B2.out N2_8.out (.int .i64 a0)) N2_8.out (.slice Ao l1.length co))
  replace B3 := Y0.mk (Y1g (p := ⟨g8, 1, none⟩) (Y1g (p := ⟨g8, 0, none⟩) B3.out N3_8.out (.int .i64 a0)) N3_8.out (.slice Ao l1.length co))
  replace B4 := Y0.mk (Y1g (p := ⟨g8, 1, none⟩) (Y1g (p := ⟨g8, 0, none⟩) B4.out N4_8.out (.int .i64 a0)) N4_8.out (.slice Ao l1.length co))
  have b80 := Yn (cs := #[.int .i64 0, .slice none 0 0]) (cs' := #[.int .i64 a0, .slice none 0 0]) B8.out 0 (.int .i64 a0) rfl
  replace HO := Y0.mk (Kd.R_set (Kd.R_set HO.out B8.out (by decide) 0 (.int .i64 a0)) b80 (by decide) 1 (.slice Ao l1.length co))
  replace B8 := Y0.mk (Yn (cs' := #[.int .i64 a0, .slice Ao l1.length co]) b80 1 (.slice Ao l1.length co) rfl)
  replace HB := Y0.mk ((HB.out.setCell (p := ⟨g8, 0, none⟩) G8.out (.int .i64 a0)).setCell (p := ⟨g8, 1, none⟩) G8.out (.slice Ao l1.length co))
  clear b80
  generalize ((W5.setCell ⟨g8, 0, none⟩ (.int .i64 a0)).setCell ⟨g8, 1, none⟩ (.slice Ao l1.length co)) = W6 at B2 B3 B4 B8 HO HB ⊢
  have n48 := N4_8.out
  have n84 := N8_4.out
  have hpe := Y4y y.f0.f0 y.f0.f1 l1 (by have := HL.out; omega)
  have hplt := @Y3g y.f0.f0 y.f0.f1 l1
  have hple := Y4T y.f0.f0 y.f0.f1 l1
  have hx := HX.out
  clear HX
  generalize plcP y.f0.f0 y.f0.f1 l1 = pl at hpe hplt hple hx
  generalize thrP y.f0.f0 y.f0.f1 l1 = th at hpe hplt hx
  have HQ3 := Y0.mk hpe
  have HPT := Y0.mk hplt
  have HPL := Y0.mk hple
  have HX := Y0.mk hx
  clear hpe hplt hple hx
  have hc2 := Y2 B2.out; have hf2 := Y4 B2.out; have hc3 := Y2 B3.out; have hf3 := Y4 B3.out; have hc4 := Y2 B4.out; have hf4 := Y4 B4.out; have hc8 := Y2 B8.out; have hf8 := Y4 B8.out
  go_upto_region 9 with (first | ((with_reducible refine Yd (f := 56) rfl ?_); refine YG (some 35) rfl rfl Try.func56 (by kernel_rfl) rfl #[.slice Ao l1.length co, .agg #[.int .i64 y.f0.f0, .int .i64 y.f0.f1]] rfl (by (try simp only [List.map_toArray, List.map_cons, List.map_nil]); first | done | (go_simp; done) | rfl) ?_; refine (Yi.calls _ Ao co l1 _ _ _ _ _ (Kd.R_reads' HO.out).2.2 (Kd.R_reads' HO.out).2.1 HQ3.out).mono ?_; rintro e w5 ⟨rfl, hb⟩; refine ⟨_, rfl, ?_⟩; replace B2 := Y0.mk (Y3 (bU B2.out) hb); replace B3 := Y0.mk (Y3 (bU B3.out) hb); replace B4 := Y0.mk (Y3 (bU B4.out) hb); replace B8 := Y0.mk (Y3 (bU B8.out) hb); replace HO := Y0.mk (Kd.R_below (Kd.rU HO.out) hb); replace HB := Y0.mk (Y5 (hU HB.out) hb); clear hb; clear hc2 hf2; have hc2 := Y2 B2.out; have hf2 := Y4 B2.out; clear hc3 hf3; have hc3 := Y2 B3.out; have hf3 := Y4 B3.out; clear hc4 hf4; have hc4 := Y2 B4.out; have hf4 := Y4 B4.out; clear hc8 hf8; have hc8 := Y2 B8.out; have hf8 := Y4 B8.out))
  replace B2 := Y0.mk (Y7 B2.out)
  replace B3 := Y0.mk (Y7 B3.out)
  replace B4 := Y0.mk (Y7 B4.out)
  replace B8 := Y0.mk (Y7 B8.out)
  replace HO := Y0.mk (Kd.R_drew HO.out)
  replace HB := Y0.mk (Yv HB.out)
  clear hc2 hf2 hc3 hf3 hc4 hf4 hc8 hf8
  by_cases hth : th = true
  · subst hth
    have hpl := HPT.out rfl
    obtain ⟨ad, e0, hx0, hx1, hx2, hx3, hx4, hx5, hx6, hx7, hx8, hx9, hx10, hx11, hx12⟩ := Y14 (Kd.R_reads' HO.out).2.2 (pl : Int) (by omega) (by omega)
    cases e0
    rw [Int.toNat_natCast] at hx0 hx1 hx2 hx3 hx4 hx5 hx6 hx7 hx8 hx9 hx10 hx11 hx12
    have q0 : (0 ≤ ((pl : Nat) : Int)) = True := by simp
    have q1 : (((pl : Nat) : Int) < (l1.length : Int)) = True := by simp; exact hpl
    have hx := HX.out
    rw [if_pos rfl] at hx
    clear HX hpl
    generalize Y1 l1 (pl : Int) = x at hx hx0 hx1 hx2 hx3 hx4 hx5 hx6 hx7 hx8 hx9 hx10 hx11 hx12
    have HX := Y0.mk hx
    clear hx
    refine Y19 (n := 10) (S := fun w' => w'.cell? (ad.add (pl * 13)) = some (.int .i64 x.f0.f0) ∧ w'.cell? ⟨(ad.add (pl * 13)).block, (ad.add (pl * 13)).off + 1, none⟩ = some (.int .i64 x.f0.f1) ∧ w'.cell? ⟨(ad.add (pl * 13)).block, (ad.add (pl * 13)).off + 2, none⟩ = some (.int .i64 x.f1) ∧ w'.cell? ⟨(ad.add (pl * 13)).block, (ad.add (pl * 13)).off + 3, none⟩ = some (.int .i64 x.f2.f0) ∧ w'.cell? ⟨(ad.add (pl * 13)).block, (ad.add (pl * 13)).off + 4, none⟩ = some (.int .i64 x.f2.f1) ∧ w'.cell? ⟨(ad.add (pl * 13)).block, (ad.add (pl * 13)).off + 5, none⟩ = some (.bool x.f3) ∧ w'.cell? ⟨(ad.add (pl * 13)).block, (ad.add (pl * 13)).off + 6, none⟩ = some (.int .i64 x.f4.f0) ∧ w'.cell? ⟨(ad.add (pl * 13)).block, (ad.add (pl * 13)).off + 7, none⟩ = some (.int .i64 x.f4.f1) ∧ w'.cell? ⟨(ad.add (pl * 13)).block, (ad.add (pl * 13)).off + 8, none⟩ = some (.int .i64 x.f4.f2) ∧ w'.cell? ⟨(ad.add (pl * 13)).block, (ad.add (pl * 13)).off + 9, none⟩ = some (.int .i64 x.f4.f3) ∧ w'.cell? ⟨(ad.add (pl * 13)).block, (ad.add (pl * 13)).off + 10, none⟩ = some (.int .i64 x.f4.f4) ∧ w'.cell? ⟨(ad.add (pl * 13)).block, (ad.add (pl * 13)).off + 11, none⟩ = some (.int .i64 x.f4.f5) ∧ w'.cell? ⟨(ad.add (pl * 13)).block, (ad.add (pl * 13)).off + 12, none⟩ = some (.int .i64 x.f4.f6) ∧ w'.heap[g8]? = some (.cells #[.int .i64 a0, .slice (some ad) l1.length co] 24 (0, 0)) ∧ w'.heap[g3]? = some (.cells #[.int .i64 y.f0.f0, .int .i64 y.f0.f1, .int .i64 y.f1, .int .i64 y.f2.f0, .int .i64 y.f2.f1, .bool y.f3, .int .i64 y.f4.f0, .int .i64 y.f4.f1, .int .i64 y.f4.f2, .int .i64 y.f4.f3, .int .i64 y.f4.f4, .int .i64 y.f4.f5, .int .i64 y.f4.f6] 30 (0, 0))) (ds := []) (bs 10 0) rfl rfl (by kernel_rfl) ⟨hx0, hx1, hx2, hx3, hx4, hx5, hx6, hx7, hx8, hx9, hx10, hx11, hx12, B8.out, B3.out⟩ (fun hHeld => ?_)
    clear hx0 hx1 hx2 hx3 hx4 hx5 hx6 hx7 hx8 hx9 hx10 hx11 hx12
    refine puA 0 38 (bs 10 1) ?_
    refine puA 1 39 (bs 10 3) ?_
    refine puA 2 40 (bs 10 7) ?_
    refine tkA 3 41 (bs 10 15) hHeld ?_ (hy := Or.inl ⟨by rfl, by rintro w' ⟨s0, s1, s2, s3, s4, s5, s6, s7, s8, s9, s10, s11, s12, t8, t3⟩; have hc8 := Y2 t8; go_simp; with_reducible rfl⟩)
    refine puA 4 42 (bs 10 31) ?_
    refine puA 5 43 (bs 10 63) ?_
    refine tkA 6 44 (bs 10 127) hHeld ?_ (hy := Or.inl ⟨by rfl, by rintro w' ⟨s0, s1, s2, s3, s4, s5, s6, s7, s8, s9, s10, s11, s12, t8, t3⟩; go_simp; with_reducible rfl⟩)
    refine tkA 7 45 (bs 10 255) hHeld ?_ (hy := Or.inl ⟨by rfl, by rintro w' ⟨s0, s1, s2, s3, s4, s5, s6, s7, s8, s9, s10, s11, s12, t8, t3⟩; have hc3 := Y2 t3; go_simp; with_reducible rfl⟩)
    refine puA 8 46 (v := .bool (eqE x y)) (bs 10 511) ?_ (hy := Or.inl ⟨by rfl, by intro w'; go_simp; rfl⟩)
    refine puA 9 47 (bs 10 1023) ?_
    refine done_ (by kernel_rfl) ?_
    have hx := HX.out
    clear HX hHeld
    generalize eqE x y = eb at hx ⊢
    generalize w5.drew = W7 at B2 B3 B4 B8 HO HB ⊢
    have hc4 := Y2 B4.out; have hf4 := Y4 B4.out; have hc8 := Y2 B8.out; have hf8 := Y4 B8.out
    cases eb
    · rw [if_neg (by decide)] at hx
      simp only [Prod.mk.injEq] at hx
      obtain ⟨rfl, rfl, rfl⟩ := hx
      go_wp2
      refine bodyPost_ret (YZ rfl _ _ g4 24 #[.int .i64 0, .slice none 0 0] (0, 0) _ rfl (by refine Yn (cs := #[.int .i64 0, .slice none 0 0]) ?_ 1 _ rfl; refine Yn (cs := #[.int .i64 0, .slice none 0 0]) ?_ 0 _ rfl; exact B4.out) Try.underlying24 rfl (by kernel_rfl)) rfl ?_
      exact ⟨_, rfl, Kd.R_nil _ _ _ _ _, (((hU HB.out).setCell (p := ⟨g4, 0, none⟩) G4.out _).setCell (p := ⟨g4, 1, none⟩) G4.out _)⟩
    · rw [if_pos rfl] at hx
      simp only [Prod.mk.injEq] at hx
      obtain ⟨rfl, rfl, rfl⟩ := hx
      go_wp2
      refine bodyPost_ret (YZ rfl _ _ g4 24 #[.int .i64 a0, .slice (some ad) l1.length co] (0, 0) _ rfl (by refine Yn (cs := #[.int .i64 a0, .slice none 0 0]) ?_ 1 _ rfl; refine Yn (cs := #[.int .i64 0, .slice none 0 0]) ?_ 0 _ rfl; exact B4.out) Try.underlying24 rfl (by kernel_rfl)) rfl ?_
      exact ⟨_, rfl, Kd.R_mono (Kd.R_far (p := ⟨g4, 1, none⟩) (Kd.R_far (p := ⟨g4, 0, none⟩) (Kd.R_types HO.out B4.out (by decide)) (fun _ hk => hk.2) (.int .i64 a0)) (fun _ hk => hk.2) (.slice (some ad) l1.length co)) (fun _ _ => trivial), (((hU HB.out).setCell (p := ⟨g4, 0, none⟩) G4.out _).setCell (p := ⟨g4, 1, none⟩) G4.out _)⟩
  · have hth0 : th = false := by cases th; rfl; exact absurd rfl hth
    subst hth0
    have hx := HX.out
    rw [if_neg (by decide)] at hx
    clear HX hth
    refine Y19 (n := 10) (S := fun w' => True) (ds := []) (bs 10 0) rfl rfl (by kernel_rfl) trivial (fun hHeld => ?_)
    clear hHeld
    refine puA 0 38 (bs 10 1) ?_
    refine puA 1 39 (bs 10 3) ?_
    refine skA 2 40 (bs 10 7) ?_
    refine skA 3 41 (bs 10 15) ?_
    refine skA 4 42 (bs 10 31) ?_
    refine skA 5 43 (bs 10 63) ?_
    refine skA 6 44 (bs 10 127) ?_
    refine skA 7 45 (bs 10 255) ?_
    refine skA 8 46 (bs 10 511) ?_
    refine puA 9 47 (bs 10 1023) ?_
    refine done_ (by kernel_rfl) ?_
    generalize w5.drew = W7 at B2 B3 B4 B8 HO HB ⊢
    have hc3 := Y2 B3.out; have hf3 := Y4 B3.out; have hc4 := Y2 B4.out; have hf4 := Y4 B4.out; have hc8 := Y2 B8.out; have hf8 := Y4 B8.out
    obtain ⟨b3, hb3⟩ : ∃ b, y.f3 = b := ⟨_, rfl⟩
    cases b3
    · obtain ⟨fb, hfb⟩ : ∃ b, (y.f0.f0 == y.f2.f0 && (y.f0.f1 == y.f2.f1)) = b := ⟨_, rfl⟩
      have hfe : fndsE y = fb := by unfold fndsE; rw [hb3, hfb]; rfl
      rw [hfe] at hx
      clear hfe
      cases fb
      · have HX := Y0.mk hx
        clear hx
        go_upto_region 14 with (fail)
        have hx := HX.out
        clear HX hb3 hfb
        refine Y19 (n := 14) (S := fun w' => w'.heap[g8]? = some (.cells #[.int .i64 a0, .slice Ao l1.length co] 24 (0, 0)) ∧ w'.heap[g3]? = some (.cells #[.int .i64 y.f0.f0, .int .i64 y.f0.f1, .int .i64 y.f1, .int .i64 y.f2.f0, .int .i64 y.f2.f1, .bool y.f3, .int .i64 y.f4.f0, .int .i64 y.f4.f1, .int .i64 y.f4.f2, .int .i64 y.f4.f3, .int .i64 y.f4.f4, .int .i64 y.f4.f5, .int .i64 y.f4.f6] 30 (0, 0))) (ds := []) (bs 14 0) rfl rfl (by kernel_rfl) ⟨Y7 B8.out, Y7 B3.out⟩ (fun hHeld => ?_)
        replace B3 := Y0.mk (Y7 B3.out)
        replace B4 := Y0.mk (Y7 B4.out)
        replace B8 := Y0.mk (Y7 B8.out)
        replace HO := Y0.mk (Kd.R_drew HO.out)
        replace HB := Y0.mk (Yv HB.out)
        clear hc3 hf3 hc4 hf4 hc8 hf8
        generalize W7.drew = W8 at B3 B4 B8 HO HB hHeld ⊢
        refine puA 0 61 (bs 14 1) ?_
        refine puA 1 62 (bs 14 3) ?_
        refine puA 2 63 (bs 14 7) ?_
        refine puA 3 64 (bs 14 15) ?_
        refine tkA 4 65 (bs 14 31) hHeld ?_ (hy := Or.inl ⟨by rfl, by rintro w' ⟨t8, t3⟩; have hc8 := Y2 t8; go_simp; with_reducible rfl⟩)
        refine puA 6 67 (bs 14 95) ?_
        refine tkA 7 68 (bs 14 223) hHeld ?_ (hy := Or.inl ⟨by rfl, by rintro w' ⟨t8, t3⟩; have hc3 := Y2 t3; go_simp; with_reducible rfl⟩)
        refine puA 8 69 (bs 14 479) ?_
        refine tkA 9 70 (bs 14 991) hHeld ?_ (hy := Or.inl ⟨by rfl, by rintro w' ⟨t8, t3⟩; have hc3 := Y2 t3; go_simp; with_reducible rfl⟩)
        refine puA 10 71 (bs 14 2015) ?_
        refine one_ (i := 5) (N := some 66) (bs 14 2047) rfl rfl (by kernel_rfl) (by decide) (fun K hK => ?_)
        refine goes_ Try.func57 (by kernel_rfl) rfl #[.slice Ao l1.length co] (by rfl) rfl rfl (by (try simp only [List.map_toArray, List.map_cons, List.map_nil]); first | done | (go_simp; done) | rfl) ?_
        refine (Y1G Ao co l1 _ (Kd.R_reads' HO.out).2.2 (Kd.R_reads' HO.out).2.1 (by have := HL.out; omega) HV.out).mono ?_
        rintro e W9 ⟨B, D, rfl, hom, hs, hBB, hb⟩
        refine ⟨_, rfl, ?_⟩
        replace B3 := Y0.mk (Y3 (bU B3.out) hb)
        replace B4 := Y0.mk (Y3 (bU B4.out) hb)
        replace B8 := Y0.mk (Y3 (bU B8.out) hb)
        replace HO := Y0.mk (Kd.R_below (Kd.rU HO.out) hb)
        replace HB := Y0.mk (Y5 (hU HB.out) hb)
        have HOM := Y0.mk hom
        have HS := Y0.mk hs
        clear hom hs hBB hb hHeld
        refine hK.out _ _ ⟨B8.out, B3.out⟩ (fun hHeld => ?_)
        clear hK K
        refine nmA 66 ?_
        obtain ⟨kb, hkb⟩ : ∃ kb, kno30 l1 y = kb := ⟨_, rfl⟩
        have HAT : Y0 (D.atKey (kS y.f1 y.f2.f0 y.f2.f1) (.lit (.bool false)) = .lit (.bool kb)) := ⟨by rw [HS.out y.f1 y.f2.f0 y.f2.f1 HY.out.1 HY.out.2.1 HY.out.2.2, ← hkb]; rfl⟩
        rw [hkb] at hx
        clear hkb
        refine one_ (i := 11) (N := some 72) (bs 14 4095) rfl rfl (by kernel_rfl) (by decide) (fun K hK => ?_)
        refine Y3v (by rfl) rfl (Y1V _ (.tmp 66) (.tmp 71) 79 rfl 82 4 lawS Try.underlying79 Try.underlying4 (zeroB _) B l1.length D rfl HOM.out (.agg #[.int .i64 y.f1, .int .i64 y.f2.f0, .int .i64 y.f2.f1]) _ rfl (Y1n HY.out.1 HY.out.2.1 HY.out.2.2) kb HAT.out) ?_
        refine hK.out _ _ ⟨B8.out, B3.out⟩ (fun hHeld => ?_)
        clear hK K hHeld
        refine nmA 72 ?_
        refine puA 12 73 (bs 14 8191) ?_
        refine puA 13 74 (bs 14 16383) ?_
        refine done_ (by kernel_rfl) ?_
        have hc3 := Y2 B3.out
        have hf3 := Y4 B3.out
        have hc4 := Y2 B4.out
        have hf4 := Y4 B4.out
        have hc8 := Y2 B8.out
        have hf8 := Y4 B8.out
        cases kb
        · rw [if_pos ⟨rfl, rfl⟩] at hx
          simp only [Prod.mk.injEq] at hx
          obtain ⟨rfl, rfl, rfl⟩ := hx
          go_wp2
          refine bodyPost_ret (YZ rfl _ _ g4 24 #[.int .i64 0, .slice none 0 0] (0, 0) _ rfl (by refine Yn (cs := #[.int .i64 0, .slice none 0 0]) ?_ 1 _ rfl; refine Yn (cs := #[.int .i64 0, .slice none 0 0]) ?_ 0 _ rfl; exact B4.out) Try.underlying24 rfl (by kernel_rfl)) rfl ?_
          exact ⟨_, rfl, Kd.R_nil _ _ _ _ _, (((hU HB.out).setCell (p := ⟨g4, 0, none⟩) G4.out _).setCell (p := ⟨g4, 1, none⟩) G4.out _)⟩
        · rw [if_neg (fun h => by cases h.2)] at hx
          by_cases hn : 512 ≤ l1.length
          · rw [if_pos hn] at hx
            simp only [Prod.mk.injEq] at hx
            obtain ⟨rfl, rfl, rfl⟩ := hx
            have d0 : decide ((512 : Int) ≤ (l1.length : Int)) = true := decide_eq_true (by omega)
            have d1 := decide_eq_true hn
            clear hn
            go_wp2
            refine bodyPost_ret (YZ rfl _ _ g4 24 #[.int .i64 0, .slice none 0 0] (0, 0) _ rfl (by refine Yn (cs := #[.int .i64 0, .slice none 0 0]) ?_ 1 _ rfl; refine Yn (cs := #[.int .i64 0, .slice none 0 0]) ?_ 0 _ rfl; exact B4.out) Try.underlying24 rfl (by kernel_rfl)) rfl ?_
            exact ⟨_, rfl, Kd.R_nil _ _ _ _ _, (((hU HB.out).setCell (p := ⟨g4, 0, none⟩) G4.out _).setCell (p := ⟨g4, 1, none⟩) G4.out _)⟩
          · rw [if_neg hn] at hx
            generalize hll : (l1.take pl ++ y :: l1.drop pl) = ll at hx
            simp only [Prod.mk.injEq] at hx
            obtain ⟨rfl, rfl, rfl⟩ := hx
            have d0 : decide ((512 : Int) ≤ (l1.length : Int)) = false := decide_eq_false (by omega)
            have d1 := decide_eq_false hn
            clear hn
            have hle9 := Yh (hU HB.out)
            have hne9 : some W9.heap.size ≠ (Value.slice Ao l1.length co).ownBlock := fun e => by obtain ⟨_, ho⟩ := Kd.R_own HO.out; have := Y2U ho _ e.symm; omega
            have hbs9 : ∀ k, (Value.slice Ao l1.length co).ownBlock = some k → w.heap.size ≤ k := fun k hk => by obtain ⟨_, ho⟩ := Kd.R_own HO.out; exact Y1u ho k hk
            have hle9' : w.heap.size ≤ (W9.alloc (.cells (cE y).toArray 30)).heap.size := by rw [World.size_alloc]; omega
            have hins := (Y2v w.heap.size pl l1 y (.slice Ao l1.length co) W9.heap.size (W9.alloc (.cells (cE y).toArray 30)) (by have := HL.out; omega) HPL.out (Kd.R_alloc HO.out _) hle9' (Y1c _ _) hne9)
            rw [hll] at hins
            have HINS := Y0.mk hins
            have HLE9 := Y0.mk hle9'
            have HBS9 := Y0.mk hbs9
            have hne94 := Kd.R_ne (Kd.R_alloc HO.out (.cells (cE y).toArray 30)) (Y6 B4.out (.cells (cE y).toArray 30)) (by decide)
            have hne98 := Kd.R_ne (Kd.R_alloc HO.out (.cells (cE y).toArray 30)) (Y6 B8.out (.cells (cE y).toArray 30)) (by decide)
            have HNE94 := Y0.mk hne94
            have HNE98 := Y0.mk hne98
            clear hle9 hne9 hbs9 hle9' hne94 hne98 hins hll
            go_wp2_with (first | ((with_reducible refine Yd (f := 58) rfl ?_); refine YG (some 86) rfl rfl Try.func58 (by kernel_rfl) rfl #[.slice Ao l1.length co, .int .i64 pl, .slice (some ⟨W9.heap.size, 0, none⟩) 1 1] rfl (by (try simp only [List.map_toArray, List.map_cons, List.map_nil]); first | done | (go_simp; done) | rfl) ?_; refine HINS.out.mono ?_; rintro e W10 ⟨v', rfl, ho', hg⟩; refine ⟨_, rfl, ?_⟩; have b4 := (hg.block g4 (YP (Y6 B4.out _)) HNE94.out).trans (Y6 B4.out _); have b8 := (hg.block g8 (YP (Y6 B8.out _)) HNE98.out).trans (Y6 B8.out _); have hb := Y22 (Yr HB.out _) hg HLE9.out HBS9.out; clear hg HO HB B4 B8 hc4 hf4 hc8 hf8; have HB := Y0.mk hb; have B4 := Y0.mk b4; have B8 := Y0.mk b8; have HO := Y0.mk ho'; clear hb b4 b8 ho'; obtain ⟨A', c', rfl⟩ := Kd.R_slice HO.out; have hc4 := Y2 B4.out; have hf4 := Y4 B4.out; have hc8 := Y2 B8.out; have hf8 := Y4 B8.out))
            refine bodyPost_ret (YZ rfl _ _ g4 24 #[.int .i64 a0, .slice A' ll.length c'] (0, 0) _ rfl (by refine Yn (cs := #[.int .i64 a0, .slice none 0 0]) ?_ 1 _ rfl; refine Yn (cs := #[.int .i64 0, .slice none 0 0]) ?_ 0 _ rfl; exact Y1g B4.out N4_8.out _) Try.underlying24 rfl (by kernel_rfl)) rfl ?_
            exact ⟨_, rfl, Kd.R_set (Kd.R_set (Kd.R_set HO.out B8.out (by decide) 1 _) (Y1g B4.out N4_8.out _) (by decide) 0 _) (Yn (cs := #[.int .i64 0, .slice none 0 0]) (cs' := #[.int .i64 a0, .slice none 0 0]) (Y1g B4.out N4_8.out _) 0 _ rfl) (by decide) 1 _, ((HB.out.setCell (p := ⟨g8, 1, none⟩) G8.out _).setCell (p := ⟨g4, 0, none⟩) G4.out _).setCell (p := ⟨g4, 1, none⟩) G4.out _⟩
      · have HX := Y0.mk hx
        clear hx
        go_upto_region 14 with (fail)
        have hx := HX.out
        clear HX hb3 hfb
        rw [if_neg (fun h => by cases h.1)] at hx
        refine Y19 (n := 14) (S := fun w' => True) (ds := []) (bs 14 0) rfl rfl (by kernel_rfl) trivial (fun hHeld => ?_)
        replace B3 := Y0.mk (Y7 B3.out)
        replace B4 := Y0.mk (Y7 B4.out)
        replace B8 := Y0.mk (Y7 B8.out)
        replace HO := Y0.mk (Kd.R_drew HO.out)
        replace HB := Y0.mk (Yv HB.out)
        clear hc3 hf3 hc4 hf4 hc8 hf8 hHeld
        generalize W7.drew = W9 at B3 B4 B8 HO HB ⊢
        refine puA 0 61 (bs 14 1) ?_
        refine puA 1 62 (bs 14 3) ?_
        refine puA 2 63 (bs 14 7) ?_
        refine skA 3 64 (bs 14 15) ?_
        refine skA 4 65 (bs 14 31) ?_
        refine skA 5 66 (bs 14 63) ?_
        refine skA 6 67 (bs 14 127) ?_
        refine skA 7 68 (bs 14 255) ?_
        refine skA 8 69 (bs 14 511) ?_
        refine skA 9 70 (bs 14 1023) ?_
        refine skA 10 71 (bs 14 2047) ?_
        refine skA 11 72 (bs 14 4095) ?_
        refine skA 12 73 (bs 14 8191) ?_
        refine puA 13 74 (bs 14 16383) ?_
        refine done_ (by kernel_rfl) ?_
        have hc3 := Y2 B3.out
        have hf3 := Y4 B3.out
        have hc4 := Y2 B4.out
        have hf4 := Y4 B4.out
        have hc8 := Y2 B8.out
        have hf8 := Y4 B8.out
        by_cases hn : 512 ≤ l1.length
        · rw [if_pos hn] at hx
          simp only [Prod.mk.injEq] at hx
          obtain ⟨rfl, rfl, rfl⟩ := hx
          have d0 : decide ((512 : Int) ≤ (l1.length : Int)) = true := decide_eq_true (by omega)
          have d1 := decide_eq_true hn
          clear hn
          go_wp2
          refine bodyPost_ret (YZ rfl _ _ g4 24 #[.int .i64 0, .slice none 0 0] (0, 0) _ rfl (by refine Yn (cs := #[.int .i64 0, .slice none 0 0]) ?_ 1 _ rfl; refine Yn (cs := #[.int .i64 0, .slice none 0 0]) ?_ 0 _ rfl; exact B4.out) Try.underlying24 rfl (by kernel_rfl)) rfl ?_
          exact ⟨_, rfl, Kd.R_nil _ _ _ _ _, (((hU HB.out).setCell (p := ⟨g4, 0, none⟩) G4.out _).setCell (p := ⟨g4, 1, none⟩) G4.out _)⟩
        · rw [if_neg hn] at hx
          generalize hll : (l1.take pl ++ y :: l1.drop pl) = ll at hx
          simp only [Prod.mk.injEq] at hx
          obtain ⟨rfl, rfl, rfl⟩ := hx
          have d0 : decide ((512 : Int) ≤ (l1.length : Int)) = false := decide_eq_false (by omega)
          have d1 := decide_eq_false hn
          clear hn
          have hle9 := Yh (hU HB.out)
          have hne9 : some W9.heap.size ≠ (Value.slice Ao l1.length co).ownBlock := fun e => by obtain ⟨_, ho⟩ := Kd.R_own HO.out; have := Y2U ho _ e.symm; omega
          have hbs9 : ∀ k, (Value.slice Ao l1.length co).ownBlock = some k → w.heap.size ≤ k := fun k hk => by obtain ⟨_, ho⟩ := Kd.R_own HO.out; exact Y1u ho k hk
          have hle9' : w.heap.size ≤ (W9.alloc (.cells (cE y).toArray 30)).heap.size := by rw [World.size_alloc]; omega
          have hins := (Y2v w.heap.size pl l1 y (.slice Ao l1.length co) W9.heap.size (W9.alloc (.cells (cE y).toArray 30)) (by have := HL.out; omega) HPL.out (Kd.R_alloc HO.out _) hle9' (Y1c _ _) hne9)
          rw [hll] at hins
          have HINS := Y0.mk hins
          have HLE9 := Y0.mk hle9'
          have HBS9 := Y0.mk hbs9
          have hne94 := Kd.R_ne (Kd.R_alloc HO.out (.cells (cE y).toArray 30)) (Y6 B4.out (.cells (cE y).toArray 30)) (by decide)
          have hne98 := Kd.R_ne (Kd.R_alloc HO.out (.cells (cE y).toArray 30)) (Y6 B8.out (.cells (cE y).toArray 30)) (by decide)
          have HNE94 := Y0.mk hne94
          have HNE98 := Y0.mk hne98
          clear hle9 hne9 hbs9 hle9' hne94 hne98 hins hll
          go_wp2_with (first | ((with_reducible refine Yd (f := 58) rfl ?_); refine YG (some 86) rfl rfl Try.func58 (by kernel_rfl) rfl #[.slice Ao l1.length co, .int .i64 pl, .slice (some ⟨W9.heap.size, 0, none⟩) 1 1] rfl (by (try simp only [List.map_toArray, List.map_cons, List.map_nil]); first | done | (go_simp; done) | rfl) ?_; refine HINS.out.mono ?_; rintro e W10 ⟨v', rfl, ho', hg⟩; refine ⟨_, rfl, ?_⟩; have b4 := (hg.block g4 (YP (Y6 B4.out _)) HNE94.out).trans (Y6 B4.out _); have b8 := (hg.block g8 (YP (Y6 B8.out _)) HNE98.out).trans (Y6 B8.out _); have hb := Y22 (Yr HB.out _) hg HLE9.out HBS9.out; clear hg HO HB B4 B8 hc4 hf4 hc8 hf8; have HB := Y0.mk hb; have B4 := Y0.mk b4; have B8 := Y0.mk b8; have HO := Y0.mk ho'; clear hb b4 b8 ho'; obtain ⟨A', c', rfl⟩ := Kd.R_slice HO.out; have hc4 := Y2 B4.out; have hf4 := Y4 B4.out; have hc8 := Y2 B8.out; have hf8 := Y4 B8.out))
          refine bodyPost_ret (YZ rfl _ _ g4 24 #[.int .i64 a0, .slice A' ll.length c'] (0, 0) _ rfl (by refine Yn (cs := #[.int .i64 a0, .slice none 0 0]) ?_ 1 _ rfl; refine Yn (cs := #[.int .i64 0, .slice none 0 0]) ?_ 0 _ rfl; exact Y1g B4.out N4_8.out _) Try.underlying24 rfl (by kernel_rfl)) rfl ?_
          exact ⟨_, rfl, Kd.R_set (Kd.R_set (Kd.R_set HO.out B8.out (by decide) 1 _) (Y1g B4.out N4_8.out _) (by decide) 0 _) (Yn (cs := #[.int .i64 0, .slice none 0 0]) (cs' := #[.int .i64 a0, .slice none 0 0]) (Y1g B4.out N4_8.out _) 0 _ rfl) (by decide) 1 _, ((HB.out.setCell (p := ⟨g8, 1, none⟩) G8.out _).setCell (p := ⟨g4, 0, none⟩) G4.out _).setCell (p := ⟨g4, 1, none⟩) G4.out _⟩
    · have hfe : fndsE y = false := by unfold fndsE; rw [hb3]; rfl
      rw [hfe] at hx
      have HX := Y0.mk hx
      clear hfe hx
      go_upto_region 14 with (fail)
      have hx := HX.out
      clear HX hb3
      refine Y19 (n := 14) (S := fun w' => w'.heap[g8]? = some (.cells #[.int .i64 a0, .slice Ao l1.length co] 24 (0, 0)) ∧ w'.heap[g3]? = some (.cells #[.int .i64 y.f0.f0, .int .i64 y.f0.f1, .int .i64 y.f1, .int .i64 y.f2.f0, .int .i64 y.f2.f1, .bool y.f3, .int .i64 y.f4.f0, .int .i64 y.f4.f1, .int .i64 y.f4.f2, .int .i64 y.f4.f3, .int .i64 y.f4.f4, .int .i64 y.f4.f5, .int .i64 y.f4.f6] 30 (0, 0))) (ds := []) (bs 14 0) rfl rfl (by kernel_rfl) ⟨Y7 B8.out, Y7 B3.out⟩ (fun hHeld => ?_)
      replace B3 := Y0.mk (Y7 B3.out)
      replace B4 := Y0.mk (Y7 B4.out)
      replace B8 := Y0.mk (Y7 B8.out)
      replace HO := Y0.mk (Kd.R_drew HO.out)
      replace HB := Y0.mk (Yv HB.out)
      clear hc3 hf3 hc4 hf4 hc8 hf8
      generalize W7.drew = W8 at B3 B4 B8 HO HB hHeld ⊢
      refine puA 0 61 (bs 14 1) ?_
      refine puA 1 62 (bs 14 3) ?_
      refine puA 2 63 (bs 14 7) ?_
      refine puA 3 64 (bs 14 15) ?_
      refine tkA 4 65 (bs 14 31) hHeld ?_ (hy := Or.inl ⟨by rfl, by rintro w' ⟨t8, t3⟩; have hc8 := Y2 t8; go_simp; with_reducible rfl⟩)
      refine puA 6 67 (bs 14 95) ?_
      refine tkA 7 68 (bs 14 223) hHeld ?_ (hy := Or.inl ⟨by rfl, by rintro w' ⟨t8, t3⟩; have hc3 := Y2 t3; go_simp; with_reducible rfl⟩)
      refine puA 8 69 (bs 14 479) ?_
      refine tkA 9 70 (bs 14 991) hHeld ?_ (hy := Or.inl ⟨by rfl, by rintro w' ⟨t8, t3⟩; have hc3 := Y2 t3; go_simp; with_reducible rfl⟩)
      refine puA 10 71 (bs 14 2015) ?_
      refine one_ (i := 5) (N := some 66) (bs 14 2047) rfl rfl (by kernel_rfl) (by decide) (fun K hK => ?_)
      refine goes_ Try.func57 (by kernel_rfl) rfl #[.slice Ao l1.length co] (by rfl) rfl rfl (by (try simp only [List.map_toArray, List.map_cons, List.map_nil]); first | done | (go_simp; done) | rfl) ?_
      refine (Y1G Ao co l1 _ (Kd.R_reads' HO.out).2.2 (Kd.R_reads' HO.out).2.1 (by have := HL.out; omega) HV.out).mono ?_
      rintro e W9 ⟨B, D, rfl, hom, hs, hBB, hb⟩
      refine ⟨_, rfl, ?_⟩
      replace B3 := Y0.mk (Y3 (bU B3.out) hb)
      replace B4 := Y0.mk (Y3 (bU B4.out) hb)
      replace B8 := Y0.mk (Y3 (bU B8.out) hb)
      replace HO := Y0.mk (Kd.R_below (Kd.rU HO.out) hb)
      replace HB := Y0.mk (Y5 (hU HB.out) hb)
      have HOM := Y0.mk hom
      have HS := Y0.mk hs
      clear hom hs hBB hb hHeld
      refine hK.out _ _ ⟨B8.out, B3.out⟩ (fun hHeld => ?_)
      clear hK K
      refine nmA 66 ?_
      obtain ⟨kb, hkb⟩ : ∃ kb, kno30 l1 y = kb := ⟨_, rfl⟩
      have HAT : Y0 (D.atKey (kS y.f1 y.f2.f0 y.f2.f1) (.lit (.bool false)) = .lit (.bool kb)) := ⟨by rw [HS.out y.f1 y.f2.f0 y.f2.f1 HY.out.1 HY.out.2.1 HY.out.2.2, ← hkb]; rfl⟩
      rw [hkb] at hx
      clear hkb
      refine one_ (i := 11) (N := some 72) (bs 14 4095) rfl rfl (by kernel_rfl) (by decide) (fun K hK => ?_)
      refine Y3v (by rfl) rfl (Y1V _ (.tmp 66) (.tmp 71) 79 rfl 82 4 lawS Try.underlying79 Try.underlying4 (zeroB _) B l1.length D rfl HOM.out (.agg #[.int .i64 y.f1, .int .i64 y.f2.f0, .int .i64 y.f2.f1]) _ rfl (Y1n HY.out.1 HY.out.2.1 HY.out.2.2) kb HAT.out) ?_
      refine hK.out _ _ ⟨B8.out, B3.out⟩ (fun hHeld => ?_)
      clear hK K hHeld
      refine nmA 72 ?_
      refine puA 12 73 (bs 14 8191) ?_
      refine puA 13 74 (bs 14 16383) ?_
      refine done_ (by kernel_rfl) ?_
      have hc3 := Y2 B3.out
      have hf3 := Y4 B3.out
      have hc4 := Y2 B4.out
      have hf4 := Y4 B4.out
      have hc8 := Y2 B8.out
      have hf8 := Y4 B8.out
      cases kb
      · rw [if_pos ⟨rfl, rfl⟩] at hx
        simp only [Prod.mk.injEq] at hx
        obtain ⟨rfl, rfl, rfl⟩ := hx
        go_wp2
        refine bodyPost_ret (YZ rfl _ _ g4 24 #[.int .i64 0, .slice none 0 0] (0, 0) _ rfl (by refine Yn (cs := #[.int .i64 0, .slice none 0 0]) ?_ 1 _ rfl; refine Yn (cs := #[.int .i64 0, .slice none 0 0]) ?_ 0 _ rfl; exact B4.out) Try.underlying24 rfl (by kernel_rfl)) rfl ?_
        exact ⟨_, rfl, Kd.R_nil _ _ _ _ _, (((hU HB.out).setCell (p := ⟨g4, 0, none⟩) G4.out _).setCell (p := ⟨g4, 1, none⟩) G4.out _)⟩
      · rw [if_neg (fun h => by cases h.2)] at hx
        by_cases hn : 512 ≤ l1.length
        · rw [if_pos hn] at hx
          simp only [Prod.mk.injEq] at hx
          obtain ⟨rfl, rfl, rfl⟩ := hx
          have d0 : decide ((512 : Int) ≤ (l1.length : Int)) = true := decide_eq_true (by omega)
          have d1 := decide_eq_true hn
          clear hn
          go_wp2
          refine bodyPost_ret (YZ rfl _ _ g4 24 #[.int .i64 0, .slice none 0 0] (0, 0) _ rfl (by refine Yn (cs := #[.int .i64 0, .slice none 0 0]) ?_ 1 _ rfl; refine Yn (cs := #[.int .i64 0, .slice none 0 0]) ?_ 0 _ rfl; exact B4.out) Try.underlying24 rfl (by kernel_rfl)) rfl ?_
          exact ⟨_, rfl, Kd.R_nil _ _ _ _ _, (((hU HB.out).setCell (p := ⟨g4, 0, none⟩) G4.out _).setCell (p := ⟨g4, 1, none⟩) G4.out _)⟩
        · rw [if_neg hn] at hx
          generalize hll : (l1.take pl ++ y :: l1.drop pl) = ll at hx
          simp only [Prod.mk.injEq] at hx
          obtain ⟨rfl, rfl, rfl⟩ := hx
          have d0 : decide ((512 : Int) ≤ (l1.length : Int)) = false := decide_eq_false (by omega)
          have d1 := decide_eq_false hn
          clear hn
          have hle9 := Yh (hU HB.out)
          have hne9 : some W9.heap.size ≠ (Value.slice Ao l1.length co).ownBlock := fun e => by obtain ⟨_, ho⟩ := Kd.R_own HO.out; have := Y2U ho _ e.symm; omega
          have hbs9 : ∀ k, (Value.slice Ao l1.length co).ownBlock = some k → w.heap.size ≤ k := fun k hk => by obtain ⟨_, ho⟩ := Kd.R_own HO.out; exact Y1u ho k hk
          have hle9' : w.heap.size ≤ (W9.alloc (.cells (cE y).toArray 30)).heap.size := by rw [World.size_alloc]; omega
          have hins := (Y2v w.heap.size pl l1 y (.slice Ao l1.length co) W9.heap.size (W9.alloc (.cells (cE y).toArray 30)) (by have := HL.out; omega) HPL.out (Kd.R_alloc HO.out _) hle9' (Y1c _ _) hne9)
          rw [hll] at hins
          have HINS := Y0.mk hins
          have HLE9 := Y0.mk hle9'
          have HBS9 := Y0.mk hbs9
          have hne94 := Kd.R_ne (Kd.R_alloc HO.out (.cells (cE y).toArray 30)) (Y6 B4.out (.cells (cE y).toArray 30)) (by decide)
          have hne98 := Kd.R_ne (Kd.R_alloc HO.out (.cells (cE y).toArray 30)) (Y6 B8.out (.cells (cE y).toArray 30)) (by decide)
          have HNE94 := Y0.mk hne94
          have HNE98 := Y0.mk hne98
          clear hle9 hne9 hbs9 hle9' hne94 hne98 hins hll
          go_wp2_with (first | ((with_reducible refine Yd (f := 58) rfl ?_); refine YG (some 86) rfl rfl Try.func58 (by kernel_rfl) rfl #[.slice Ao l1.length co, .int .i64 pl, .slice (some ⟨W9.heap.size, 0, none⟩) 1 1] rfl (by (try simp only [List.map_toArray, List.map_cons, List.map_nil]); first | done | (go_simp; done) | rfl) ?_; refine HINS.out.mono ?_; rintro e W10 ⟨v', rfl, ho', hg⟩; refine ⟨_, rfl, ?_⟩; have b4 := (hg.block g4 (YP (Y6 B4.out _)) HNE94.out).trans (Y6 B4.out _); have b8 := (hg.block g8 (YP (Y6 B8.out _)) HNE98.out).trans (Y6 B8.out _); have hb := Y22 (Yr HB.out _) hg HLE9.out HBS9.out; clear hg HO HB B4 B8 hc4 hf4 hc8 hf8; have HB := Y0.mk hb; have B4 := Y0.mk b4; have B8 := Y0.mk b8; have HO := Y0.mk ho'; clear hb b4 b8 ho'; obtain ⟨A', c', rfl⟩ := Kd.R_slice HO.out; have hc4 := Y2 B4.out; have hf4 := Y4 B4.out; have hc8 := Y2 B8.out; have hf8 := Y4 B8.out))
          refine bodyPost_ret (YZ rfl _ _ g4 24 #[.int .i64 a0, .slice A' ll.length c'] (0, 0) _ rfl (by refine Yn (cs := #[.int .i64 a0, .slice none 0 0]) ?_ 1 _ rfl; refine Yn (cs := #[.int .i64 0, .slice none 0 0]) ?_ 0 _ rfl; exact Y1g B4.out N4_8.out _) Try.underlying24 rfl (by kernel_rfl)) rfl ?_
          exact ⟨_, rfl, Kd.R_set (Kd.R_set (Kd.R_set HO.out B8.out (by decide) 1 _) (Y1g B4.out N4_8.out _) (by decide) 0 _) (Yn (cs := #[.int .i64 0, .slice none 0 0]) (cs' := #[.int .i64 a0, .slice none 0 0]) (Y1g B4.out N4_8.out _) 0 _ rfl) (by decide) 1 _, ((HB.out.setCell (p := ⟨g8, 1, none⟩) G8.out _).setCell (p := ⟨g4, 0, none⟩) G4.out _).setCell (p := ⟨g4, 1, none⟩) G4.out _⟩
theorem YJ.calls (a0 : Int) (A1 : Option Addr) (c1 : Nat) (l1 : List S30) (b0 b1 b2 b3 b4 : Int) (b5 : Bool) (b6 b7 b8 b9 b10 b11 b12 : Int) (r0 : Int) (r1 : List S30) (r2 : Int) (w : World) (hr1 : Kd.C k30 w A1 l1.length l1) (hc1 : l1.length ≤ c1) (h : YJ.f a0 l1 b0 b1 b2 b3 b4 b5 b6 b7 b8 b9 b10 b11 b12 = some (r0, r1, r2)) :
    Calls Try.prog 19 #[.agg #[.int .i64 a0, .slice A1 l1.length c1], .agg #[.int .i64 b0, .int .i64 b1, .int .i64 b2, .int .i64 b3, .int .i64 b4, .bool b5, .int .i64 b6, .int .i64 b7, .int .i64 b8, .int .i64 b9, .int .i64 b10, .int .i64 b11, .int .i64 b12]] w fun e w' => ∃ v1_ : Value, e = .returned (.tuple #[.agg #[.int .i64 r0, v1_], .int .i64 r2]) ∧ Kd.R k30 30 w' w.heap.size (fun _ => True) v1_ r1 ∧ Below w.heap.size w w' := by
  unfold YJ.f at h
  by_cases hv : (∀ e ∈ l1, okE30 e) ∧ okE30 (mk30 b0 b1 b2 b3 b4 b5 b6 b7 b8 b9 b10 b11 b12)
  · rw [if_pos hv] at h
    exact Y4o a0 A1 c1 l1 (mk30 b0 b1 b2 b3 b4 b5 b6 b7 b8 b9 b10 b11 b12) r0 r1 r2 w hr1 hc1 hv.1 hv.2 (Option.some.inj h)
  · rw [if_neg hv] at h; cases h
end Go.Proofs.Yteopkkoblbmggaa.P
end
