/- staff.Column: what its call returns; no condition. -/
import Derived.Deep.Light
import Derived.Maps.AppendAt
import Derived.RangeFuncBox
import Derived.Test.YtdilndbanhianaaUIter
import Derived.Test.YtdilndbanhianaaUMC
import Derived.Test.YtdilndbanhianaaUAt
set_option linter.unusedVariables false
set_option linter.unusedSimpArgs false
namespace Go.Proofs.Ytdilndbanhianaa.P
open Go.RowKit Go.Shelf Go.Proofs.YtdilndbanhianaaW.PrintWords Go.Proofs.YtdilndbanhianaaW.PrintLast Go.Proofs.YtdilndbanhianaaW.PrintMore
attribute [local go_sem] Oper.semAt_some
/-- What Column says. -/
def columnP (l : List S29) (n c : Int) : List S29 × Int :=
 if ¬ chkS l n = 0 then ([], chkS l n)
 else if c < 0 ∨ 9 ≤ c then ([], 16)
 else ((selP l c l.length).map (·.2), 0)
def staff_Column.f (l0 : List S29) (a1 a2 : Int) : Option (List S29 × Int) := some (columnP l0 a1 a2)
def cellsP (pre : List (Int × S29)) : List Value := pre.flatMap (fun x => (arrS x.2).toList)
theorem cellsP_snoc (pre : List (Int × S29)) (x : Int × S29) : cellsP (pre ++ [x]) = cellsP pre ++ (arrS x.2).toList := by simp [cellsP]
/-- A row of symbols, out of its cells. -/
theorem row_cellsP (W : World) (base : Nat) (v : Value) (pre : List (Int × S29)) (h : W.ownsRow base 29 7 v pre.length (cellsP pre)) : Kd.R k29 29 W base (fun _ => True) v (pre.map (·.2)) := by
 refine ⟨fun _ _ => trivial, cellsP pre, by rw [List.length_map]; exact h, ?_⟩
 clear h
 have key : ∀ (n : Nat) (ys : List (Int × S29)), ys.length = n → Reps (k29.M W base (fun k => True ∧ some k ≠ v.ownBlock)) 7 (ys.map (·.2)) (cellsP ys) := by
  intro n
  induction n with
  | zero =>
   intro ys h
   obtain rfl := List.length_eq_zero_iff.mp h
   exact Reps.none _ _
  | succ n ih =>
   intro ys h
   rcases List.eq_nil_or_concat ys with rfl | ⟨zs, x, rfl⟩
   ·simp at h
   ·rw [List.concat_eq_append] at h ⊢
    rw [cellsP_snoc, List.map_append]
    exact Reps.snoc (ih zs (by simpa using h)) (k29_mkM _ _ _ x.2) rfl
 exact key _ pre rfl
theorem cells_new29 (W : World) (s : S29) : ∀ j u, (arrS s).toList[j]? = some u → (W.alloc (.cells (arrS s) 29)).cell? ((⟨W.heap.size, 0, none⟩ : Addr).add j) = some u := by
 intro j u h
 have := blk_cell (blk_new W (.cells (arrS s) 29)) j
 have e : ((⟨W.heap.size, 0, none⟩ : Addr).add j) = ⟨W.heap.size, j, none⟩ := by
  simp only [Addr.add, Nat.zero_add]
  split
  ·subst j; rfl
  ·rfl
 rw [e, this]
 simpa using h
theorem kpO_appended {n₁ Bc g9 : Nat} {W w1 : World} {v v' : Value} {k : Nat} {xs : List Value} {tmp : Obj} (hrow : W.ownsRow n₁ 29 7 v k xs) (hg : (W.alloc tmp).grownBy w1 v.ownBlock) (hv1 : w1.heap[g9]? = some (.cells #[v] 22 (0, 0)))
  (hb : Below n₁ W (w1.setCell ⟨g9, 0, none⟩ v')) : KpO n₁ Bc W (w1.setCell ⟨g9, 0, none⟩ v') := by
 refine ⟨hb, fun cs h => ?_⟩
 have h1 := blk_alloc h tmp
 have h2 : w1.heap[Bc]? = some (.cells cs 3 (0, 0)) := by
  refine (hg.block Bc (blk_lt h1) (fun e => ?_)).trans h1
  rcases hrow.2 with ⟨rfl, _⟩ | ⟨g, cap, cur, rfl, _, hgb, _⟩
  ·simp [Value.ownBlock] at e
  ·obtain rfl : Bc = g := by simpa [Value.ownBlock] using e
   rw [h] at hgb; cases hgb
 refine blk_far h2 (fun e => ?_) _
 subst e
 rw [h2] at hv1; cases hv1
/-- Between two rounds. -/
def CoI (w : World) (Z g9 : Nat) (pre : List (Int × S29)) (W : World) : Prop :=
 (∃ v, Boxed W g9 22 v ∧ W.ownsRow w.heap.size 29 7 v pre.length (cellsP pre) ∧ True) ∧ Below w.heap.size w W ∧ Z ≤ W.heap.size
set_option maxHeartbeats 4000000 in
set_option maxRecDepth 100000 in
theorem staff_Column.calls (A0 : Option Addr) (c0 : Nat) (l0 : List S29) (a1 a2 : Int) (r1 : List S29) (r2 : Int) (w : World) (hr0 : Kd.C k29 w A0 l0.length l0) (hc0 : l0.length ≤ c0) (h : staff_Column.f l0 a1 a2 = some (r1, r2)) :
  Calls Try.prog 28 #[.slice A0 l0.length c0, .int .i64 a1, .int .i64 a2] w fun e w' => ∃ v0_ : Value, e = .returned (.tuple #[v0_, .int .i64 r2]) ∧ Kd.R k29 29 w' w.heap.size (fun _ => True) v0_ r1 ∧ Below w.heap.size w w' := by
 have hu29 := Try.underlying29
 have H := Aside0.mk (Option.some.inj h)
 have HR := Aside0.mk hr0
 have HC := Aside0.mk hc0
 have HB := Aside0.mk (Below.refl w.heap.size w)
 clear h hr0 hc0
 refine callsIn_wide.1 (callsIn_of_wp_marks (n := 6) Try.func28 rfl trivial ?_)
 refine wpIn_wide.2 ?_
 simp only [Try.ntmps28, List.size_toArray, List.length_cons, List.length_nil, Nat.reduceAdd, Nat.reduceSub, Array.replicate_succ, Array.replicate_zero, List.push_toArray, List.append_toArray, List.nil_append, List.cons_append]
 obtain ⟨ce, hce⟩ : ∃ ce, chkS l0 a1 = ce := ⟨_, rfl⟩
 have HQ : Aside0 (staff_Check.f l0 a1 = some ce) := ⟨congrArg some hce⟩
 have H1 := H.out
 unfold columnP at H1
 rw [hce] at H1
 by_cases h1 : ce = 0
 ·subst h1
  rw [if_neg (by decide)] at H1
  have HL := Aside0.mk (chkS_len _ _ hce)
  clear hce H
  by_cases h2 : a2 < 0 ∨ 9 ≤ a2
  ·rw [if_pos h2] at H1
   obtain ⟨rfl, rfl⟩ := Prod.mk.inj H1
   by_cases h3 : a2 < 0
   ·have e1 : decide (a2 < 0) = true := decide_eq_true h3
    clear H1 h2 h3
    go_wp2_with (first | (go_at_call 20; refine (staff_Check.calls A0 c0 l0 a1 _ _ (Kd.C_below HR.out HB.out) HC.out HQ.out).mono ?_; rintro e W1 ⟨rfl, hb⟩; have HB1 := Aside0.mk (below_step HB.out hb); clear hb))
    exact ⟨_, results_tmp2 rfl _ _ _, _, rfl, Kd.R_nil _ _ _ _ _, HB1.out⟩
   ·have e1 : decide (a2 < 0) = false := decide_eq_false h3
    have e2 : decide (9 ≤ a2) = true := decide_eq_true (by omega)
    clear H1 h2 h3
    go_wp2_with (first | (go_at_call 20; refine (staff_Check.calls A0 c0 l0 a1 _ _ (Kd.C_below HR.out HB.out) HC.out HQ.out).mono ?_; rintro e W1 ⟨rfl, hb⟩; have HB1 := Aside0.mk (below_step HB.out hb); clear hb))
    exact ⟨_, results_tmp2 rfl _ _ _, _, rfl, Kd.R_nil _ _ _ _ _, HB1.out⟩
  ·rw [if_neg h2] at H1
   have e1 : decide (a2 < 0) = false := by simp; omega
   have e2 : decide (9 ≤ a2) = false := by simp; omega
   have H2 := Aside0.mk H1
   clear H1 h2
   go_upto_region 7 with (first | (go_at_call 20; refine (staff_Check.calls A0 c0 l0 a1 _ _ (Kd.C_below HR.out HB.out) HC.out HQ.out).mono ?_; rintro e W1 ⟨rfl, hb⟩; have HB1 := Aside0.mk (below_step HB.out hb); clear hb))
   have HB3 : Aside0 (Below w.heap.size w (W1.alloc (.cells #[.slice none 0 0] 22))) := ⟨below_alloc HB1.out _⟩
   have B91 : Aside0 ((W1.alloc (.cells #[.slice none 0 0] 22)).heap[W1.heap.size]? = some (.cells #[.slice none 0 0] 22 (0, 0))) := ⟨blk_new _ _⟩
   have GE9 : Aside0 (w.heap.size ≤ W1.heap.size) := ⟨below_size HB1.out⟩
   generalize (W1.alloc (.cells #[.slice none 0 0] 22)) = W3 at HB3 B91 ⊢
   generalize W1.heap.size = g9 at B91 GE9 ⊢
   clear HB1
   go_wp2_with (first | (go_at_call 61; refine (of_call A0 c0 l0.length a2 _).mono ?_; rintro e W2 ⟨rfl, hb, hsz, hBl, hBc⟩; have HB2 := Aside0.mk (below_step HB3.out hb); have B92 := Aside0.mk (blk_below B91.out hb)))
   clear hsz
   have l9 : g9 < W3.heap.size := blk_lt B91.out
   have hle : w.heap.size ≤ W2.heap.size := below_size HB2.out
   refine (wpIn_wide (n := 6)).1 ?_
   refine wpIn_rangeFunc_ownH (F := Fence.wide) rfl (by decide) (gf := 88) (lb := #[.pointer (some ⟨W3.heap.size, 0, none⟩), .pointer (some ⟨W3.heap.size + 1, 0, none⟩)]) rfl trivial (enters_of Try.func88 (by kernel_rfl) rfl)
    (of_stops Fence.wide 5 trivial rfl (by decide) W3.heap.size (W3.heap.size + 1) A0 c0 l0 a2 w W2 HR.out HL.out HB2.out hBl hBc) kpO_t (kpO_b hle) (Below.refl _ _) (fun _ => rfl)
    (CoI w W2.heap.size g9) (fun _ _ _ => False)
    (fun s A B row hs hg hr => ⟨holdsRow_own w.heap.size g9 22 29 7 (fun pre : List (Int × S29) => pre.length) cellsP (fun _ _ => True) s A B row hs.1 hg (fun r e => (hr r e).2), ownFrom_below (β := Unit) (w₀ := w) (Nat.le_refl _) hle () A B row hs.2.1 hg hr, Nat.le_trans hs.2.2 hg.size⟩)
    (fun _ _ _ _ _ hs _ _ => hs)
    ⟨⟨_, B92.out, World.ownsRow_nil _ _ _ _, trivial⟩, HB2.out, Nat.le_refl _⟩
    (fun x a' W => ∃ Bx, W2.heap.size ≤ Bx ∧ W.heap[Bx]? = some (.cells (arrS x.2) 29 (0, 0)) ∧ a' = { tmps := #[.slice A0 l0.length c0, .int .i64 a1, .int .i64 a2, undef, undef, undef, .slice none 0 0, .int .i64 0, .int .i64 0, .pointer (some ⟨g9, 0, none⟩), undef, .pointer (some ⟨Bx, 0, none⟩), .slice A0 l0.length c0, .int .i64 a1, .int .i64 0, .int .i64 0, .bool false, undef, .int .i64 a2, .bool false, .bool false, .int .i64 a2, .bool false, .bool false, .slice A0 l0.length c0, .int .i64 a2, .func (.func 88) #[] #[.pointer (some ⟨W3.heap.size, 0, none⟩), .pointer (some ⟨W3.heap.size + 1, 0, none⟩)], .int .i64 x.1, .agg (arrS x.2), undef, undef, undef, undef, undef], defers := [] })
    (fun x a' u A B row hs hg hr => by
     obtain ⟨Bx, hBx, hbx, e⟩ := hs
     exact ⟨Bx, hBx, cells_kept hbx hg (fun r e => (hr r e).2), e⟩) ?assign ?body ?done ?stop
   case assign =>
    rintro l pre x W K ⟨⟨v, hv, hrow, _⟩, hB, hZ⟩ hK
    obtain ⟨i, s⟩ := x
    dsimp only [arrS]
    gi_wp2
    exact hK _ _ ((KeepsOthers.alloc _ _).from _) ⟨(Below.refl _ W).alloc hB.size _, fun cs hb => blk_alloc hb _⟩ ⟨⟨v, hv.alloc _, hrow.alloc _, trivial⟩, hB.alloc hB.size _, by rw [World.size_alloc]; omega⟩ ⟨W.heap.size, hZ, blk_new _ _, rfl⟩
   case body =>
    rintro l pre x a' W hl ⟨r, hr⟩ ⟨⟨v, hv, hrow, _⟩, hB, hZ⟩ ⟨Bx, hBx, hbx, rfl⟩ hlt
    obtain ⟨i, s⟩ := x
    obtain ⟨i0, hi, hz0, hz1, hz2⟩ := info_parts info29
    have hc := hv.cell
    have hlen := HL.out
    have hx0 : W.cell? ⟨Bx, 0, none⟩ = some (.int .i64 s.f0) := (blk_cell hbx 0).trans rfl
    have hx1 : W.cell? ⟨Bx, 1, none⟩ = some (.int .i64 s.f1) := (blk_cell hbx 1).trans rfl
    have hx2 : W.cell? ⟨Bx, 2, none⟩ = some (.int .i64 s.f2) := (blk_cell hbx 2).trans rfl
    have hx3 : W.cell? ⟨Bx, 3, none⟩ = some (.int .i64 s.f3) := (blk_cell hbx 3).trans rfl
    have hx4 : W.cell? ⟨Bx, 4, none⟩ = some (.int .i64 s.f4) := (blk_cell hbx 4).trans rfl
    have hx5 : W.cell? ⟨Bx, 5, none⟩ = some (.int .i64 s.f5) := (blk_cell hbx 5).trans rfl
    have hx6 : W.cell? ⟨Bx, 6, none⟩ = some (.int .i64 s.f6) := (blk_cell hbx 6).trans rfl
    gi_wp2_with (gi_at_builtin; refine wpListIn_append_own _ rfl _ _ 22 rfl w.heap.size 29 i0 (.agg #[(.int .i64 0), (.int .i64 0), (.int .i64 0), (.int .i64 0), (.int .i64 0), (.int .i64 0), (.int .i64 0)]) 7 56 Try.underlying22 hi hz0 hz1 hz2 rfl (by decide) _ _ _ rfl (hrow.alloc _) ⟨W.heap.size, 0, none⟩ 1 1 (arrS s).toList rfl rfl (cells_new29 W s) (by simp [arrS, Value.oneCell']) (by unfold maxLen; omega) (by omega) (by have := hB.size; rw [World.size_alloc]; omega) ?_; intro v' w1 hown' hgrow _; obtain ⟨g', cap', rfl⟩ := ownsRow_succ hown'; obtain ⟨hv1, hv2, hr2, hk2, hb2⟩ := hv.appended (by decide) hrow hB.size GE9.out hown' hgrow; have hc1 := hv1.cell; have hf1 := hv1.frozen)
    exact ⟨hk2.from _, kpO_appended hrow hgrow hv1 hb2, ⟨⟨_, hv2, by rw [cellsP_snoc, List.length_append]; exact hr2, trivial⟩, hB.trans hb2, Nat.le_trans hZ hk2.size⟩⟩
   case done =>
    rintro D xs W hD rfl ⟨⟨v, hv, hrow, _⟩, hB, hZ⟩ hK
    have hc := hv.cell
    have h2 := H2.out
    obtain ⟨rfl, rfl⟩ := Prod.mk.inj h2
    have hfin := row_cellsP (W.putObj D (.deferred none)) w.heap.size v _ (ownsRow_putObj hrow _ hK rfl)
    go_wp2
    refine ⟨by simp, .inl ⟨_, _, rfl, run_takeDeferred hK, ?_⟩⟩
    exact ⟨_, results_tmp2 rfl _ _ _, v, rfl, hfin, hB.trans (belowK_b (w := w) (Nat.le_refl _) W D _ _ (Nat.le_trans hle hD) hK rfl rfl)⟩
   case stop =>
    rintro D c pre W hD _ h _
    exact h.elim
 ·rw [if_pos h1] at H1
  obtain ⟨rfl, rfl⟩ := Prod.mk.inj H1
  have hne0 : (ce != 0) = true := bne_iff_ne.mpr h1
  clear H H1 hce h1
  go_wp2_with (first | (go_at_call 20; refine (staff_Check.calls A0 c0 l0 a1 _ _ (Kd.C_below HR.out HB.out) HC.out HQ.out).mono ?_; rintro e W1 ⟨rfl, hb⟩; have HB1 := Aside0.mk (below_step HB.out hb); clear hb))
  exact ⟨_, results_tmp2 rfl _ _ _, _, rfl, Kd.R_nil _ _ _ _ _, HB1.out⟩
end Go.Proofs.Ytdilndbanhianaa.P
