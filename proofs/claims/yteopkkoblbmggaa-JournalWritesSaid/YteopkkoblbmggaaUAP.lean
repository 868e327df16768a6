/- Texts of this claim in one: VJRec; no condition. -/
import Derived.Test.YteopkkoblbmggaaUAD
import Derived.Test.YteopkkoblbmggaaUAM
import Derived.Test.YteopkkoblbmggaaUAL
import Derived.Test.YteopkkoblbmggaaUAN
import Derived.Test.YteopkkoblbmggaaUAO
import Derived.Deep.Light
section
set_option linter.unusedVariables false
set_option linter.unusedSimpArgs false
namespace Go.Proofs.Yteopkkoblbmggaa.P
open Go.RowKit Go.Shelf Go.Proofs.YteopkkoblbmggaaW.PrintWords Go.Proofs.YteopkkoblbmggaaW.PrintLast Go.Proofs.YteopkkoblbmggaaW.PrintMore
attribute [local go_sem] Oper.semAt_some
/-- One step of Recover: nothing more is read, or the next edit is added. -/
def rcv (k : Nat) (b : List Int) : Nat → Int → Int → List S30 → Option (Int × List S30 × Int)
  | 0, _, _, _ => none
  | j + 1, at_, d, l => (crc_Open.f k (b.drop at_.toNat)).bind fun o =>
      if o.2.2 = 0 then (edits_Take.f k o.1).bind fun t =>
        if t.2.2.2.2.2.2.2.2.2.2.2.2.2 = 0 then (replica_Add.f d l t.1 t.2.1 t.2.2.1 t.2.2.2.1 t.2.2.2.2.1 t.2.2.2.2.2.1 t.2.2.2.2.2.2.1 t.2.2.2.2.2.2.2.1 t.2.2.2.2.2.2.2.2.1 t.2.2.2.2.2.2.2.2.2.1 t.2.2.2.2.2.2.2.2.2.2.1 t.2.2.2.2.2.2.2.2.2.2.2.1 t.2.2.2.2.2.2.2.2.2.2.2.2.1).bind fun a =>
          if a.2.2 = 0 then rcv k b j (at_ + o.2.1) a.1 a.2.1 else some (d, l, at_)
        else some (d, l, at_)
      else some (d, l, at_)
theorem rcv_mono (k : Nat) (b : List Int) : ∀ (j : Nat) (at_ d : Int) (l : List S30), LeO (rcv k b j at_ d l) (rcv (k + 1) b j at_ d l)
  | 0, at_, d, l => fun r h => h
  | j + 1, at_, d, l => fun r h => by
    unfold rcv at h ⊢
    obtain ⟨o, ho, h2⟩ := Option.bind_eq_some_iff.mp h
    rw [crc_Open.mono _ k o ho, Option.bind_some]
    by_cases hz : o.2.2 = 0
    · rw [if_pos hz] at h2 ⊢
      obtain ⟨t, ht, h3⟩ := Option.bind_eq_some_iff.mp h2
      rw [edits_Take.mono k _ t ht, Option.bind_some]
      by_cases hq : t.2.2.2.2.2.2.2.2.2.2.2.2.2 = 0
      · rw [if_pos hq] at h3 ⊢
        obtain ⟨a, ha, h4⟩ := Option.bind_eq_some_iff.mp h3
        rw [ha, Option.bind_some]
        by_cases hr : a.2.2 = 0
        · rw [if_pos hr] at h4 ⊢
          exact rcv_mono k b j _ _ _ r h4
        · rw [if_neg hr] at h4 ⊢
          exact h4
      · rw [if_neg hq] at h3 ⊢
        exact h3
    · rw [if_neg hz] at h2 ⊢
      exact h2
theorem openOK_mono {k : Nat} {l : List Int} (h : openOK k l = true) : openOK (k + 1) l = true := by
  obtain ⟨c, n, e, ho, hn⟩ := openOK_some h
  unfold openOK
  rw [crc_Open.mono _ k _ ho]
  dsimp only
  split
  · rename_i he
    exact decide_eq_true (hn he)
  · rfl
def opens (k : Nat) (b : List Int) : Bool := (List.range (b.length + 1)).all fun i => openOK k (b.drop i)
def journal_Recover.f (k : Nat) (a0 : Int) (l1 : List Int) : Option (Int × List S30 × Int × Int) :=
  if a0 < 1 ∨ 64 < a0 then some (0, [], 0, 43) else if opens k l1 = true ∧ l1.length ≤ 1000000 then (rcv k l1 (l1.length + 1) 0 a0 []).bind fun r => some (r.1, r.2.1, r.2.2, 0) else none
theorem journal_Recover.mono : ∀ a0 a1 k, LeO (journal_Recover.f k a0 a1) (journal_Recover.f (k + 1) a0 a1) := fun a0 a1 k r h => by
  unfold journal_Recover.f at h ⊢
  by_cases h1 : a0 < 1 ∨ 64 < a0
  · rw [if_pos h1] at h ⊢
    exact h
  · rw [if_neg h1] at h ⊢
    by_cases h2 : opens k a1 = true ∧ a1.length ≤ 1000000
    · have h3 : opens (k + 1) a1 = true ∧ a1.length ≤ 1000000 := ⟨by
        have := h2.1
        unfold opens at this ⊢
        rw [List.all_eq_true] at this ⊢
        exact fun i hi => openOK_mono (this i hi), h2.2⟩
      rw [if_pos h2] at h
      rw [if_pos h3]
      obtain ⟨q, hq, h4⟩ := Option.bind_eq_some_iff.mp h
      rw [rcv_mono k a1 _ _ _ _ q hq, Option.bind_some]
      exact h4
    · rw [if_neg h2] at h; cases h
theorem R_keeps {α : Type} {d : Kd α} {e base : Nat} {ok : Nat → Prop} {W W' : World} {v : Value} {xs : List α} {row : Option Nat} (h : d.R e W base ok v xs) (hg : W.grownBy W' row) (hr : ∀ r, row = some r → ∃ o : Obj, W.heap[r]? = some o ∧ o.isCells = false) : d.R e W' base ok v xs :=
  Kd.R_mono (Kd.R_move (Kd.R_bound h) (fun k hk => hg.block k hk.2.2.1 (fun e => by
    obtain ⟨o, ho, hc⟩ := hr k e.symm
    obtain ⟨_, _, _, q, _, cells, hcc⟩ := hk
    rw [hcc] at ho; cases ho; cases hc))) (fun _ hk => hk.1)
theorem C_keeps8 {W W' : World} {A : Option Addr} {n : Nat} {xs : List Int} {row : Option Nat} (h : Kd.C (Kd.int .u8) W A n xs) (hg : W.grownBy W' row) (hr : ∀ r, row = some r → ∃ o : Obj, W.heap[r]? = some o ∧ o.isCells = false) : Kd.C (Kd.int .u8) W' A n xs :=
  ⟨h.1, h.2.1, fun hn => by
    obtain ⟨ad, e, hc⟩ := h.2.2 hn
    refine ⟨ad, e, fun j p hj => ?_⟩
    obtain ⟨c, hs, hk, hcell⟩ := hc j p hj
    refine ⟨c, hs, hk, fun i u hu => ?_⟩
    have hq := hcell i u hu
    refine hg.cell hq (fun e2 => ?_)
    obtain ⟨o, ho, hoc⟩ := cells_of_cell hq
    obtain ⟨o', ho', hoc'⟩ := hr _ e2.symm
    rw [ho] at ho'; cases ho'
    rw [hoc] at hoc'; cases hoc'⟩
theorem keepsFrom_of {B : Nat} {W W' : World} (hb : Below W.heap.size W W') : KeepsFrom B W W' := ⟨hb.size, fun k o _ h0 _ => (hb.block k (Array.getElem?_eq_some_iff.1 h0).1).trans h0⟩
/-- What lies between two rounds, and where the loop is left. -/
def RcI (k : Nat) (b : List Int) (N : Nat) (res : Int × List S30 × Int) (w : World) (Z g4 g7 g8 : Nat) (pre : List FX) (W : World) : Prop :=
  ∃ (d : Int) (l : List S30) (A : Option Addr) (c : Nat), rcv k b (N - pre.length) (endF 0 pre) d l = some res ∧ W.heap[g7]? = some (.cells #[.int .i64 d, .slice A l.length c] 24 (0, 0)) ∧ W.heap[g8]? = some (.cells #[.int .i64 (endF 0 pre)] 3 (0, 0)) ∧ W.heap[g4]? = some (.cells #[.int .i64 0, .slice none 0 0] 24 (0, 0)) ∧
    Kd.R k30 30 W w.heap.size (fun _ => True) (.slice A l.length c) l ∧ Below w.heap.size w W ∧ Z ≤ W.heap.size
def RcX (res : Int × List S30 × Int) (w : World) (g4 g7 g8 : Nat) (W : World) : Prop :=
  ∃ (A : Option Addr) (c : Nat), W.heap[g7]? = some (.cells #[.int .i64 res.1, .slice A res.2.1.length c] 24 (0, 0)) ∧ W.heap[g8]? = some (.cells #[.int .i64 res.2.2] 3 (0, 0)) ∧ W.heap[g4]? = some (.cells #[.int .i64 0, .slice none 0 0] 24 (0, 0)) ∧ Kd.R k30 30 W w.heap.size (fun _ => True) (.slice A res.2.1.length c) res.2.1 ∧ Below w.heap.size w W
set_option maxHeartbeats 16000000 in
set_option maxRecDepth 100000 in
theorem journal_Recover.calls (k : Nat) (a0 : Int) (A1 : Option Addr) (c1 : Nat) (l1 : List Int) (r0 : Int) (r1 : List S30) (r2 r3 : Int) (w : World) (hr1 : Kd.C (Kd.int .u8) w A1 l1.length l1) (hc1 : l1.length ≤ c1) (h : journal_Recover.f k a0 l1 = some (r0, r1, r2, r3)) :
    Calls Try.prog 41 #[.int .i64 a0, .slice A1 l1.length c1] w fun e w' => ∃ v1_ : Value, e = .returned (.tuple #[.agg #[.int .i64 r0, v1_], .int .i64 r2, .int .i64 r3]) ∧ Kd.R k30 30 w' w.heap.size (fun _ => True) v1_ r1 ∧ Below w.heap.size w w' := by
  have hu24 := Try.underlying24
  have hu30 := Try.underlying30
  have HR := Aside0.mk hr1
  have HC := Aside0.mk hc1
  have HB := Aside0.mk (Below.refl w.heap.size w)
  clear hr1 hc1
  unfold journal_Recover.f at h
  by_cases h1 : a0 < 1 ∨ 64 < a0
  · rw [if_pos h1] at h
    simp only [Option.some.injEq, Prod.mk.injEq] at h
    obtain ⟨rfl, rfl, rfl, rfl⟩ := h
    by_cases h2 : a0 < 1
    · have e1 : decide (a0 < 1) = true := decide_eq_true h2
      clear h1 h2
      go_enter Try.func41, Try.ntmps41
      go_wp2_with (first | ((with_reducible refine gate_dst (N := 4) rfl ?_); refine box_event ?hg (N := 4) ?hd (cs := #[.int .i64 0, .slice none 0 0]) (t := 24) ?hr ?_; (case hd => rfl); (case hg => rfl); (case hr => first | (go_simp; done) | (go_simp; rfl)); intro g4 hg W4 hbox hb; have hge_ : w.heap.size ≤ g4 := (by rw [hg]; exact below_size (hU HB.out)); have G4 := Aside0.mk hge_; clear hge_; replace HB := Aside0.mk (below_step (hU HB.out) hb); have B4 := Aside0.mk hbox; clear hb hbox hg; have hc4 := blk_cell B4.out; have hf4 := blk_frozen B4.out))
      refine bodyPost_ret (results_ctt rfl _ _ g4 24 #[.int .i64 0, .slice none 0 0] (0, 0) _ rfl (by refine blk_put (cs := #[.int .i64 0, .slice none 0 0]) ?_ 1 _ rfl; refine blk_put (cs := #[.int .i64 0, .slice none 0 0]) ?_ 0 _ rfl; exact B4.out) Try.underlying24 rfl (by kernel_rfl)) rfl ?_
      exact ⟨_, rfl, Kd.R_nil _ _ _ _ _, (((hU HB.out).setCell (p := ⟨g4, 0, none⟩) G4.out _).setCell (p := ⟨g4, 1, none⟩) G4.out _)⟩
    · have e1 : decide (a0 < 1) = false := decide_eq_false h2
      have e2 : decide (64 < a0) = true := decide_eq_true (by omega)
      clear h1 h2
      go_enter Try.func41, Try.ntmps41
      go_wp2_with (first | ((with_reducible refine gate_dst (N := 4) rfl ?_); refine box_event ?hg (N := 4) ?hd (cs := #[.int .i64 0, .slice none 0 0]) (t := 24) ?hr ?_; (case hd => rfl); (case hg => rfl); (case hr => first | (go_simp; done) | (go_simp; rfl)); intro g4 hg W4 hbox hb; have hge_ : w.heap.size ≤ g4 := (by rw [hg]; exact below_size (hU HB.out)); have G4 := Aside0.mk hge_; clear hge_; replace HB := Aside0.mk (below_step (hU HB.out) hb); have B4 := Aside0.mk hbox; clear hb hbox hg; have hc4 := blk_cell B4.out; have hf4 := blk_frozen B4.out))
      refine bodyPost_ret (results_ctt rfl _ _ g4 24 #[.int .i64 0, .slice none 0 0] (0, 0) _ rfl (by refine blk_put (cs := #[.int .i64 0, .slice none 0 0]) ?_ 1 _ rfl; refine blk_put (cs := #[.int .i64 0, .slice none 0 0]) ?_ 0 _ rfl; exact B4.out) Try.underlying24 rfl (by kernel_rfl)) rfl ?_
      exact ⟨_, rfl, Kd.R_nil _ _ _ _ _, (((hU HB.out).setCell (p := ⟨g4, 0, none⟩) G4.out _).setCell (p := ⟨g4, 1, none⟩) G4.out _)⟩
  rw [if_neg h1] at h
  by_cases h2 : opens k l1 = true ∧ l1.length ≤ 1000000
  rotate_left
  · rw [if_neg h2] at h; cases h
  rw [if_pos h2] at h
  obtain ⟨⟨q0, q1, q2⟩, hq, h4⟩ := Option.bind_eq_some_iff.mp h
  simp only [Option.some.injEq, Prod.mk.injEq] at h4
  obtain ⟨rfl, rfl, rfl, rfl⟩ := h4
  have e1 : decide (a0 < 1) = false := by simp; omega
  have e2 : decide (64 < a0) = false := by simp; omega
  have HQ := Aside0.mk hq
  have HLEN := Aside0.mk h2.2
  have HOK : Aside0 (∀ i, i ≤ l1.length → openOK k (l1.drop i) = true) := ⟨fun i hi => by
    have := h2.1
    unfold opens at this
    rw [List.all_eq_true] at this
    exact this i (by rw [List.mem_range]; omega)⟩
  clear h h1 h2 hq
  refine callsIn_wide.1 (callsIn_of_wp_marks (n := 6) Try.func41 rfl trivial ?_)
  refine wpIn_wide.2 ?_
  simp only [Try.ntmps41, List.size_toArray, List.length_cons, List.length_nil, Nat.reduceAdd, Nat.reduceSub, Array.replicate_succ, Array.replicate_zero, List.push_toArray, List.append_toArray, List.nil_append, List.cons_append]
  go_upto_region 4 with (first | ((with_reducible refine gate_dst (N := 4) rfl ?_); refine box_event ?hg (N := 4) ?hd (cs := #[.int .i64 0, .slice none 0 0]) (t := 24) ?hr ?_; (case hd => rfl); (case hg => rfl); (case hr => first | (go_simp; done) | (go_simp; rfl)); intro g4 hg W4 hbox hb; have hge_ : w.heap.size ≤ g4 := (by rw [hg]; exact below_size (hU HB.out)); have G4 := Aside0.mk hge_; clear hge_; replace HB := Aside0.mk (below_step (hU HB.out) hb); have B4 := Aside0.mk hbox; clear hb hbox hg; have hc4 := blk_cell B4.out; have hf4 := blk_frozen B4.out) | ((with_reducible refine gate_dst (N := 7) rfl ?_); refine box_event ?hg (N := 7) ?hd (cs := #[.int .i64 0, .slice none 0 0]) (t := 24) ?hr ?_; (case hd => rfl); (case hg => rfl); (case hr => first | (go_simp; done) | (go_simp; rfl)); intro g7 hg W7 hbox hb; have hne_ := Nat.ne_of_lt (blk_lt (bU B4.out)); rw [← hg] at hne_; have N4_7 := Aside0.mk hne_; clear hne_; replace B4 := Aside0.mk (blk_below (bU B4.out) hb); have hge_ : w.heap.size ≤ g7 := (by rw [hg]; exact below_size (hU HB.out)); have G7 := Aside0.mk hge_; clear hge_; replace HB := Aside0.mk (below_step (hU HB.out) hb); have B7 := Aside0.mk hbox; clear hb hbox hg; have hc7 := blk_cell B7.out; have hf7 := blk_frozen B7.out; clear hc4 hf4; have hc4 := blk_cell B4.out; have hf4 := blk_frozen B4.out; have n47 := N4_7.out; have n74 := Ne.symm N4_7.out) | ((with_reducible refine gate_dst (N := 8) rfl ?_); refine box_event ?hg (N := 8) ?hd (cs := #[.int .i64 0]) (t := 3) ?hr ?_; (case hd => rfl); (case hg => rfl); (case hr => first | (go_simp; done) | (go_simp; rfl)); intro g8 hg W8 hbox hb; have hne_ := Nat.ne_of_lt (blk_lt (bU B4.out)); rw [← hg] at hne_; have N4_8 := Aside0.mk hne_; clear hne_; replace B4 := Aside0.mk (blk_below (bU B4.out) hb); have hne_ := Nat.ne_of_lt (blk_lt (bU B7.out)); rw [← hg] at hne_; have N7_8 := Aside0.mk hne_; clear hne_; replace B7 := Aside0.mk (blk_below (bU B7.out) hb); have hge_ : w.heap.size ≤ g8 := (by rw [hg]; exact below_size (hU HB.out)); have G8 := Aside0.mk hge_; clear hge_; replace HB := Aside0.mk (below_step (hU HB.out) hb); have B8 := Aside0.mk hbox; clear hb hbox hg; have hc8 := blk_cell B8.out; have hf8 := blk_frozen B8.out; clear hc4 hf4; have hc4 := blk_cell B4.out; have hf4 := blk_frozen B4.out; have n48 := N4_8.out; have n84 := Ne.symm N4_8.out; clear hc7 hf7; have hc7 := blk_cell B7.out; have hf7 := blk_frozen B7.out; have n78 := N7_8.out; have n87 := Ne.symm N7_8.out))
  clear hc4 hf4 hc7 hf7 hc8 hf8
  have b70 := blk_put (cs' := #[.int .i64 a0, .slice none 0 0]) B7.out 0 (.int .i64 a0) rfl
  have b71 := blk_put (cs' := #[.int .i64 a0, .slice none 0 0]) b70 1 (.slice none 0 0) rfl
  have b7 := blk_far (p := ⟨g8, 0, none⟩) b71 N7_8.out (.int .i64 0)
  have b8 := blk_put (cs' := #[.int .i64 0]) (blk_far (p := ⟨g7, 1, none⟩) (blk_far (p := ⟨g7, 0, none⟩) B8.out N7_8.out.symm (.int .i64 a0)) N7_8.out.symm (.slice none 0 0)) 0 (.int .i64 0) rfl
  have b4 := blk_far (p := ⟨g8, 0, none⟩) (blk_far (p := ⟨g7, 1, none⟩) (blk_far (p := ⟨g7, 0, none⟩) B4.out N4_7.out (.int .i64 a0)) N4_7.out (.slice none 0 0)) N4_8.out (.int .i64 0)
  have hbb := ((HB.out.setCell (p := ⟨g7, 0, none⟩) G7.out (.int .i64 a0)).setCell (p := ⟨g7, 1, none⟩) G7.out (.slice none 0 0)).setCell (p := ⟨g8, 0, none⟩) G8.out (.int .i64 0)
  generalize (((W8.setCell ⟨g7, 0, none⟩ (.int .i64 a0)).setCell ⟨g7, 1, none⟩ (.slice none 0 0)).setCell ⟨g8, 0, none⟩ (.int .i64 0)) = W9 at b7 b8 b4 hbb ⊢
  clear b70 b71 B4 B7 B8 HB
  have B4 := Aside0.mk b4
  have B7 := Aside0.mk b7
  have B8 := Aside0.mk b8
  have HB := Aside0.mk hbb
  clear b4 b7 b8 hbb
  go_wp2_with (first | (go_at_call 86; refine (frames_call A1 c1 l1.length _).mono ?_; rintro e W10 ⟨rfl, hb, hsz, hBl⟩; have HBL := Aside0.mk hBl; replace B4 := Aside0.mk (blk_below B4.out hb); replace B7 := Aside0.mk (blk_below B7.out hb); replace B8 := Aside0.mk (blk_below B8.out hb); have HB1 := Aside0.mk (below_step HB.out hb); clear hb hsz hBl))
  have hle : w.heap.size ≤ W10.heap.size := below_size HB1.out
  have N78 := N7_8
  have N47 := N4_7
  have N48 := N4_8
  clear n47 n74 n48 n84 n78 n87
  refine (wpIn_wide (n := 6)).1 ?_
  refine rangeFunc_told (F := Fence.wide) rfl (by decide) (gf := 115) (lb := #[.pointer (some ⟨W9.heap.size, 0, none⟩)]) rfl trivial (enters_of Try.func115 (by kernel_rfl) rfl)
    (frames_told 5 (by decide) k W9.heap.size A1 c1 l1 w W10 HR.out HC.out HLEN.out HOK.out HB1.out HBL.out) kpT_t (kpT_b hle) (Below.refl _ _) (fun _ => rfl)
    (RcI k l1 (l1.length + 1) (q0, q1, q2) w W10.heap.size g4 g7 g8) (fun c pre W => c = .exit 0 ∧ RcX (q0, q1, q2) w g4 g7 g8 W)
    (fun s A B row hs hg hr => by
      obtain ⟨d, l, Al, cl, h1, h7, h8, h4, ho, hb, hz⟩ := hs
      have hr2 := fun r e => (hr r e).2
      exact ⟨d, l, Al, cl, h1, cells_kept h7 hg hr2, cells_kept h8 hg hr2, cells_kept h4 hg hr2, R_keeps ho hg hr2, ownFrom_below (β := Unit) (w₀ := w) (Nat.le_refl _) hle () A B row hb hg hr, Nat.le_trans hz hg.size⟩)
    (fun c s A B row hs hg hr => by
      obtain ⟨hc, Al, cl, h7, h8, h4, ho, hb⟩ := hs
      have hr2 := fun r e => (hr r e).2
      exact ⟨hc, Al, cl, cells_kept h7 hg hr2, cells_kept h8 hg hr2, cells_kept h4 hg hr2, R_keeps ho hg hr2, ownFrom_below (β := Unit) (w₀ := w) (Nat.le_refl _) hle () A B row hb hg hr⟩)
    ⟨a0, [], none, 0, HQ.out, B7.out, B8.out, B4.out, Kd.R_nil _ _ _ _ _, HB1.out, Nat.le_refl _⟩
    (fun pre x a' W => goodF k l1 0 (pre ++ [x]) ∧ Kd.C (Kd.int .u8) W x.1.1 x.2.1.length x.2.1 ∧ x.2.1.length ≤ x.1.2 ∧ a' = { tmps := #[.int .i64 a0, .slice A1 l1.length c1, undef, undef, .pointer (some ⟨g4, 0, none⟩), .int .i64 0, .int .i64 0, .pointer (some ⟨g7, 0, none⟩), .pointer (some ⟨g8, 0, none⟩), .slice x.1.1 x.2.1.length x.1.2, .int .i64 x.2.2, undef, undef, undef, .int .i64 a0, .bool false, .bool false, .int .i64 a0, .bool false, .bool false, undef, .int .i64 a0, .agg #[.int .i64 a0, .slice none 0 0], .slice A1 l1.length c1, .func (.func 115) #[] #[.pointer (some ⟨W9.heap.size, 0, none⟩)], .slice x.1.1 x.2.1.length x.1.2, .int .i64 x.2.2, undef, undef, undef, undef, undef, undef, undef, undef, undef, undef, undef, undef, undef, undef, undef, undef, undef, undef, undef], defers := [] })
    (fun pre x a' u A B row hs hg hr => ⟨hs.1, C_keeps8 hs.2.1 hg (fun r e => (hr r e).2), hs.2.2⟩) ?assign ?body ?done ?stop
  case assign =>
    rintro l pre ⟨⟨xA, xc⟩, ⟨ct, en⟩⟩ W K hI hCx hK
    dsimp only [encF]
    gi_wp2
    exact hK _ _ (KeepsFrom.refl _ _) ⟨Below.refl _ _, fun cs h => h⟩ hI ⟨hCx.1, hCx.2.1, hCx.2.2, rfl⟩
  case body =>
    rintro l pre ⟨⟨xA, xc⟩, ⟨ct, en⟩⟩ a' W hl ⟨r, hr⟩ ⟨d, l2, Al, cl, hq, h7, h8, h4, ho, hB, hZ⟩ ⟨hg, hC, hxc, rfl⟩ hlt
    obtain ⟨m, hopen, hen⟩ := goodF_last hg
    dsimp only at hC hxc hopen hen ⊢
    rw [show l1.length + 1 - pre.length = (l1.length - pre.length) + 1 by omega] at hq
    unfold rcv at hq
    rw [hopen, Option.bind_some] at hq
    dsimp only at hq
    rw [if_pos rfl] at hq
    obtain ⟨⟨t1, t2, t3, t4, t5, t6, t7, t8, t9, t10, t11, t12, t13, t14⟩, ht, hq⟩ := Option.bind_eq_some_iff.mp hq
    dsimp only at hq
    have HC1 := Aside0.mk hC
    have HXC := Aside0.mk hxc
    have HT := Aside0.mk ht
    have HEN := Aside0.mk hen
    have HW := Aside0.mk (Below.refl W.heap.size W)
    have BW7 := Aside0.mk h7
    have BW8 := Aside0.mk h8
    have BW4 := Aside0.mk h4
    have HO := Aside0.mk ho
    have HBW := Aside0.mk hB
    have HZ := Aside0.mk hZ
    clear hC hxc ht hen hopen hg h7 h8 h4 ho hB hr hZ
    by_cases hz : t14 = 0
    · subst hz
      rw [if_pos rfl] at hq
      obtain ⟨⟨d3, l3, e3⟩, ha, hq⟩ := Option.bind_eq_some_iff.mp hq
      dsimp only at hq
      have HA := Aside0.mk ha
      have HQ2 := Aside0.mk hq
      clear ha hq
      gi_wp2_with (fail)
      refine ⟨trivial, (callsIn_wide.2 (edits_Take.calls k xA xc ct _ _ _ _ _ _ _ _ _ _ _ _ _ _ W HC1.out HXC.out HT.out)).mono ?_⟩
      rintro e W1 ⟨rfl, hb⟩
      have hb2 := below_alloc hb (.cells #[.int .i64 t1, .int .i64 t2, .int .i64 t3, .int .i64 t4, .int .i64 t5, .bool t6, .int .i64 t7, .int .i64 t8, .int .i64 t9, .int .i64 t10, .int .i64 t11, .int .i64 t12, .int .i64 t13] 30)
      have BZ7 := Aside0.mk (blk_below BW7.out hb2)
      have BZ8 := Aside0.mk (blk_below BW8.out hb2)
      have BZ4 := Aside0.mk (blk_below BW4.out hb2)
      have HOX := Aside0.mk (Kd.R_below HO.out hb2)
      have HBX := Aside0.mk hb2
      clear hb hb2
      have hc7 := blk_cell BZ7.out
      gi_wp2_with (fail)
      refine ⟨trivial, (callsIn_wide.2 (replica_Add.calls d Al cl l2 t1 t2 t3 t4 t5 t6 t7 t8 t9 t10 t11 t12 t13 d3 l3 e3 _ (Kd.R_reads' HOX.out).2.2 (Kd.R_reads' HOX.out).2.1 HA.out)).mono ?_⟩
      rintro e W3 ⟨v3, rfl, hown, hb⟩
      have hle1 : w.heap.size ≤ (W1.alloc (.cells #[.int .i64 t1, .int .i64 t2, .int .i64 t3, .int .i64 t4, .int .i64 t5, .bool t6, .int .i64 t7, .int .i64 t8, .int .i64 t9, .int .i64 t10, .int .i64 t11, .int .i64 t12, .int .i64 t13] 30)).heap.size := Nat.le_trans (below_size HBW.out) HBX.out.size
      have hown2 := Kd.R_lower hown hle1
      obtain ⟨A3, c3, rfl⟩ := Kd.R_slice hown2
      have hb3 := below_alloc (below_step HBX.out hb) (.cells #[.int .i64 d3, .slice A3 l3.length c3] 24)
      have BY7 := Aside0.mk (blk_below BW7.out hb3)
      have BY8 := Aside0.mk (blk_below BW8.out hb3)
      have BY4 := Aside0.mk (blk_below BW4.out hb3)
      have HOL := Aside0.mk (Kd.R_below HO.out hb3)
      have HOY := Aside0.mk (Kd.R_alloc hown2 (.cells #[.int .i64 d3, .slice A3 l3.length c3] 24))
      have HBY := Aside0.mk hb3
      clear hb hb3 hown hown2 hc7 hle1
      have hc7 := blk_cell BY7.out
      have hf7 := blk_frozen BY7.out
      have hc8 := blk_cell BY8.out
      have hf8 := blk_frozen BY8.out
      have n78 := N78.out
      have n87 := Ne.symm N78.out
      by_cases hz : e3 = 0
      · subst hz
        have hq2 := HQ2.out
        rw [if_pos rfl, ← HEN.out] at hq2
        have HQ3 := Aside0.mk hq2
        clear hq2
        gi_wp2
        have hbw := HBY.out
        have hlw := below_size HBW.out
        generalize (W3.alloc (.cells #[.int .i64 d3, .slice A3 l3.length c3] 24)) = W4 at BY7 BY8 BY4 HOL HOY HBY hbw ⊢
        refine ⟨(((keepsFrom_of hbw).trans ((KeepsOthers.setCell _ _ _).from _)).trans ((KeepsOthers.setCell _ _ _).from _)).trans ((KeepsOthers.setCell _ _ _).from _), ⟨(((hbw.mono hlw).setCell (p := ⟨g7, 0, none⟩) G7.out _).setCell (p := ⟨g7, 1, none⟩) G7.out _).setCell (p := ⟨g8, 0, none⟩) G8.out _, fun cs hcs => ?_⟩, d3, l3, A3, c3, ?_, ?_, ?_, ?_, ?_, ?_, ?_⟩
        · have h60 := blk_below hcs hbw
          have n7 : W9.heap.size ≠ g7 := fun e => by rw [e, BY7.out] at h60; cases h60
          have n8 : W9.heap.size ≠ g8 := fun e => by rw [e, BY8.out] at h60; cases h60
          exact blk_far (blk_far (blk_far h60 n7 _) n7 _) n8 _
        · rw [endF_snoc, List.length_append, List.length_singleton, show l1.length + 1 - (pre.length + 1) = l1.length - pre.length by omega]
          exact HQ3.out
        · exact blk_far (blk_put (cs' := #[.int .i64 d3, .slice A3 l3.length c3]) (blk_put (cs' := #[.int .i64 d3, .slice Al l2.length cl]) BY7.out 0 _ rfl) 1 _ rfl) N78.out _
        · rw [endF_snoc]
          exact blk_put (blk_far (blk_far BY8.out N78.out.symm _) N78.out.symm _) 0 _ rfl
        · exact blk_far (blk_far (blk_far BY4.out N47.out _) N47.out _) N48.out _
        · exact Kd.R_set (Kd.R_set (Kd.R_set HOY.out BY7.out (by decide) 0 _) (blk_put (cs' := #[.int .i64 d3, .slice Al l2.length cl]) BY7.out 0 _ rfl) (by decide) 1 _) (blk_far (blk_far BY8.out N78.out.symm _) N78.out.symm _) (by decide) 0 _
        · exact ((HBW.out.trans (hbw.mono hlw)).setCell (p := ⟨g7, 0, none⟩) G7.out _ |>.setCell (p := ⟨g7, 1, none⟩) G7.out _).setCell (p := ⟨g8, 0, none⟩) G8.out _
        · exact Nat.le_trans HZ.out (Nat.le_trans hbw.size (Nat.le_trans (KeepsOthers.setCell W4 _ _).size (Nat.le_trans (KeepsOthers.setCell _ _ _).size (KeepsOthers.setCell _ _ _).size)))
      · have hq2 := HQ2.out
        rw [if_neg hz] at hq2
        have hz2 : (e3 != 0) = true := by simp; exact hz
        have HQ3 := Aside0.mk hq2
        clear hz hq2
        gi_wp2
        have hq3 := HQ3.out
        simp only [Option.some.injEq, Prod.mk.injEq] at hq3
        obtain ⟨rfl, rfl, rfl⟩ := hq3
        exact ⟨keepsFrom_of HBY.out, rfl, Al, cl, BY7.out, BY8.out, BY4.out, HOL.out, below_step HBW.out HBY.out⟩
    · rw [if_neg hz] at hq
      have hz2 : (t14 != 0) = true := by simp; exact hz
      have HQ3 := Aside0.mk hq
      clear hz hq
      gi_wp2_with (fail)
      refine ⟨trivial, (callsIn_wide.2 (edits_Take.calls k xA xc ct _ _ _ _ _ _ _ _ _ _ _ _ _ _ W HC1.out HXC.out HT.out)).mono ?_⟩
      rintro e W1 ⟨rfl, hb⟩
      have hb2 := below_alloc hb (.cells #[.int .i64 t1, .int .i64 t2, .int .i64 t3, .int .i64 t4, .int .i64 t5, .bool t6, .int .i64 t7, .int .i64 t8, .int .i64 t9, .int .i64 t10, .int .i64 t11, .int .i64 t12, .int .i64 t13] 30)
      have HBY := Aside0.mk hb2
      clear hb hb2
      gi_wp2
      have hq3 := HQ3.out
      simp only [Option.some.injEq, Prod.mk.injEq] at hq3
      obtain ⟨rfl, rfl, rfl⟩ := hq3
      exact ⟨keepsFrom_of HBY.out, rfl, Al, cl, blk_below BW7.out HBY.out, blk_below BW8.out HBY.out, blk_below BW4.out HBY.out, Kd.R_below HO.out HBY.out, below_step HBW.out HBY.out⟩
  case done =>
    rintro D xs W hD ⟨hg, oc, on, oe, hopen, hoe⟩ ⟨d, l2, Al, cl, hq, h7, h8, h4, ho, hB, hZ⟩ hK
    obtain ⟨j, hj⟩ : ∃ j, l1.length + 1 - xs.length = j := ⟨_, rfl⟩
    rw [hj] at hq
    cases j with
    | zero => cases hq
    | succ j =>
      unfold rcv at hq
      rw [hopen, Option.bind_some] at hq
      dsimp only at hq
      rw [if_neg hoe] at hq
      simp only [Option.some.injEq, Prod.mk.injEq] at hq
      obtain ⟨rfl, rfl, rfl⟩ := hq
      clear hj hg hopen hoe hZ
      go_wp2
      have HD := Aside0.mk (Nat.le_trans hle hD)
      have ND : Aside0 (D ≠ g4) := ⟨fun e => by rw [e, h4] at hK; cases hK⟩
      have B7 := Aside0.mk (blk_drew h7)
      have B8 := Aside0.mk (blk_drew h8)
      have B4 := Aside0.mk (blk_drew h4)
      have HO := Aside0.mk (Kd.R_drew ho)
      have HK : Aside0 (W.drew.heap[D]? = some (.deferred (some []))) := ⟨hK⟩
      have HB := Aside0.mk (below_drew1 hB)
      clear hD h7 h8 h4 ho hB hK
      refine start_ (n := 5) (S := fun _ => True) (ds := []) (bs 5 0) rfl rfl (by kernel_rfl) trivial (fun hHeld => ?_)
      clear hHeld
      generalize W.drew = W5 at B7 B8 B4 HO HB HK ⊢
      refine two_ (i := 0) (j := 1) (Ni := some 44) (Nj := some 45) (bs 5 1) (bs 5 2) rfl rfl rfl rfl (by kernel_rfl) (by decide) (by decide) (fun K hK => ?_) (fun K hK => ?_)
      · refine value_ (v := .agg #[.int .i64 d, .slice Al l2.length cl]) (by rfl) rfl (by have hc7 := blk_cell B7.out; first | (go_simp; done) | (go_simp; rfl)) ?_
        refine hK.out _ _ trivial (fun _ => ?_)
        clear hK K
        refine nmA 44 ?_
        refine two_ (i := 1) (j := 2) (Ni := some 45) (Nj := none) (bs 5 3) (bs 5 5) rfl rfl rfl rfl (by kernel_rfl) (by decide) (by decide) (fun K hK => ?_) (fun K hK => ?_)
        · refine value_ (v := .int .i64 (endF 0 xs)) (by rfl) rfl (by have hc8 := blk_cell B8.out; first | (go_simp; done) | (go_simp; rfl)) ?_
          refine hK.out _ _ trivial (fun _ => ?_)
          clear hK K
          refine nmA 45 ?_
          refine one_ (i := 2) (N := none) (bs 5 7) rfl rfl (by kernel_rfl) (by decide) (fun K hK => ?_)
          have hc4 := blk_cell B4.out
          have hf4 := blk_frozen B4.out
          refine skip_ (w1 := ?_) (by rfl) rfl ?_ ?_
          rotate_left
          · go_simp
            rfl
          refine hK.out _ _ trivial (fun _ => ?_)
          clear hK K hc4 hf4
          have e4 := blk_put (cs' := #[.int .i64 d, .slice Al l2.length cl]) (blk_put (cs' := #[.int .i64 d, .slice none 0 0]) B4.out 0 (.int .i64 d) rfl) 1 (.slice Al l2.length cl) rfl
          have e8 := blk_far (p := ⟨g4, 1, none⟩) (blk_far (p := ⟨g4, 0, none⟩) B8.out N48.out.symm (.int .i64 d)) N48.out.symm (.slice Al l2.length cl)
          have eo := Kd.R_set (Kd.R_set HO.out B4.out (by decide) 0 (.int .i64 d)) (blk_put (cs' := #[.int .i64 d, .slice none 0 0]) B4.out 0 (.int .i64 d) rfl) (by decide) 1 (.slice Al l2.length cl)
          have eb := (HB.out.setCell (p := ⟨g4, 0, none⟩) G4.out (.int .i64 d)).setCell (p := ⟨g4, 1, none⟩) G4.out (.slice Al l2.length cl)
          have ek := (Below.heap_setCell _ ⟨g4, 1, none⟩ (.slice Al l2.length cl) D ND.out).trans ((Below.heap_setCell _ ⟨g4, 0, none⟩ (.int .i64 d) D ND.out).trans HK.out)
          generalize ((W5.setCell ⟨g4, 0, none⟩ (.int .i64 d)).setCell ⟨g4, 1, none⟩ (.slice Al l2.length cl)) = W6 at e4 e8 eo eb ek ⊢
          clear B4 B8 HO HB HK
          have B4 := Aside0.mk e4
          have B8 := Aside0.mk e8
          have HO := Aside0.mk eo
          have HB := Aside0.mk eb
          have HK := Aside0.mk ek
          clear e4 e8 eo eb ek
          refine one_ (i := 3) (N := some 5) (bs 5 15) rfl rfl (by kernel_rfl) (by decide) (fun K hK => ?_)
          refine value_ (v := .int .i64 (endF 0 xs)) (by rfl) rfl (by first | (go_simp; done) | (go_simp; rfl)) ?_
          refine hK.out _ _ trivial (fun _ => ?_)
          clear hK K
          refine nmA 5 ?_
          refine one_ (i := 4) (N := some 6) (bs 5 31) rfl rfl (by kernel_rfl) (by decide) (fun K hK => ?_)
          refine value_ (v := .int .i64 0) (by rfl) rfl (by first | (go_simp; done) | (go_simp; rfl)) ?_
          refine hK.out _ _ trivial (fun _ => ?_)
          clear hK K
          refine nmA 6 ?_
          refine done_ (by kernel_rfl) ?_
          go_wp2
          refine ⟨by simp, .inl ⟨_, _, rfl, run_takeDeferred HK.out, ?_⟩⟩
          exact ⟨_, results_ctt rfl _ _ g4 24 #[.int .i64 d, .slice Al l2.length cl] (0, 0) _ rfl ((World.putObj_heap_other (Ne.symm ND.out)).trans B4.out) Try.underlying24 rfl (by kernel_rfl), _, rfl, R_keeps HO.out (grownBy_putObj' _ D _) (fun r e => by cases e; exact ⟨_, HK.out, rfl⟩), HB.out.trans (belowK_b (w := w) (Nat.le_refl _) _ D _ _ HD.out HK.out rfl rfl)⟩
        · have hc4 := blk_cell B4.out
          have hf4 := blk_frozen B4.out
          refine skip_ (w1 := ?_) (by rfl) rfl ?_ ?_
          rotate_left
          · go_simp
            rfl
          refine hK.out _ _ trivial (fun _ => ?_)
          clear hK K hc4 hf4
          have e4 := blk_put (cs' := #[.int .i64 d, .slice Al l2.length cl]) (blk_put (cs' := #[.int .i64 d, .slice none 0 0]) B4.out 0 (.int .i64 d) rfl) 1 (.slice Al l2.length cl) rfl
          have e8 := blk_far (p := ⟨g4, 1, none⟩) (blk_far (p := ⟨g4, 0, none⟩) B8.out N48.out.symm (.int .i64 d)) N48.out.symm (.slice Al l2.length cl)
          have eo := Kd.R_set (Kd.R_set HO.out B4.out (by decide) 0 (.int .i64 d)) (blk_put (cs' := #[.int .i64 d, .slice none 0 0]) B4.out 0 (.int .i64 d) rfl) (by decide) 1 (.slice Al l2.length cl)
          have eb := (HB.out.setCell (p := ⟨g4, 0, none⟩) G4.out (.int .i64 d)).setCell (p := ⟨g4, 1, none⟩) G4.out (.slice Al l2.length cl)
          have ek := (Below.heap_setCell _ ⟨g4, 1, none⟩ (.slice Al l2.length cl) D ND.out).trans ((Below.heap_setCell _ ⟨g4, 0, none⟩ (.int .i64 d) D ND.out).trans HK.out)
          generalize ((W5.setCell ⟨g4, 0, none⟩ (.int .i64 d)).setCell ⟨g4, 1, none⟩ (.slice Al l2.length cl)) = W6 at e4 e8 eo eb ek ⊢
          clear B4 B8 HO HB HK
          have B4 := Aside0.mk e4
          have B8 := Aside0.mk e8
          have HO := Aside0.mk eo
          have HB := Aside0.mk eb
          have HK := Aside0.mk ek
          clear e4 e8 eo eb ek
          refine one_ (i := 1) (N := some 45) (bs 5 7) rfl rfl (by kernel_rfl) (by decide) (fun K hK => ?_)
          refine value_ (v := .int .i64 (endF 0 xs)) (by rfl) rfl (by have hc8 := blk_cell B8.out; first | (go_simp; done) | (go_simp; rfl)) ?_
          refine hK.out _ _ trivial (fun _ => ?_)
          clear hK K
          refine nmA 45 ?_
          refine one_ (i := 3) (N := some 5) (bs 5 15) rfl rfl (by kernel_rfl) (by decide) (fun K hK => ?_)
          refine value_ (v := .int .i64 (endF 0 xs)) (by rfl) rfl (by first | (go_simp; done) | (go_simp; rfl)) ?_
          refine hK.out _ _ trivial (fun _ => ?_)
          clear hK K
          refine nmA 5 ?_
          refine one_ (i := 4) (N := some 6) (bs 5 31) rfl rfl (by kernel_rfl) (by decide) (fun K hK => ?_)
          refine value_ (v := .int .i64 0) (by rfl) rfl (by first | (go_simp; done) | (go_simp; rfl)) ?_
          refine hK.out _ _ trivial (fun _ => ?_)
          clear hK K
          refine nmA 6 ?_
          refine done_ (by kernel_rfl) ?_
          go_wp2
          refine ⟨by simp, .inl ⟨_, _, rfl, run_takeDeferred HK.out, ?_⟩⟩
          exact ⟨_, results_ctt rfl _ _ g4 24 #[.int .i64 d, .slice Al l2.length cl] (0, 0) _ rfl ((World.putObj_heap_other (Ne.symm ND.out)).trans B4.out) Try.underlying24 rfl (by kernel_rfl), _, rfl, R_keeps HO.out (grownBy_putObj' _ D _) (fun r e => by cases e; exact ⟨_, HK.out, rfl⟩), HB.out.trans (belowK_b (w := w) (Nat.le_refl _) _ D _ _ HD.out HK.out rfl rfl)⟩
      · refine value_ (v := .int .i64 (endF 0 xs)) (by rfl) rfl (by have hc8 := blk_cell B8.out; first | (go_simp; done) | (go_simp; rfl)) ?_
        refine hK.out _ _ trivial (fun _ => ?_)
        clear hK K
        refine nmA 45 ?_
        refine one_ (i := 0) (N := some 44) (bs 5 3) rfl rfl (by kernel_rfl) (by decide) (fun K hK => ?_)
        refine value_ (v := .agg #[.int .i64 d, .slice Al l2.length cl]) (by rfl) rfl (by have hc7 := blk_cell B7.out; first | (go_simp; done) | (go_simp; rfl)) ?_
        refine hK.out _ _ trivial (fun _ => ?_)
        clear hK K
        refine nmA 44 ?_
        refine one_ (i := 2) (N := none) (bs 5 7) rfl rfl (by kernel_rfl) (by decide) (fun K hK => ?_)
        have hc4 := blk_cell B4.out
        have hf4 := blk_frozen B4.out
        refine skip_ (w1 := ?_) (by rfl) rfl ?_ ?_
        rotate_left
        · go_simp
          rfl
        refine hK.out _ _ trivial (fun _ => ?_)
        clear hK K hc4 hf4
        have e4 := blk_put (cs' := #[.int .i64 d, .slice Al l2.length cl]) (blk_put (cs' := #[.int .i64 d, .slice none 0 0]) B4.out 0 (.int .i64 d) rfl) 1 (.slice Al l2.length cl) rfl
        have e8 := blk_far (p := ⟨g4, 1, none⟩) (blk_far (p := ⟨g4, 0, none⟩) B8.out N48.out.symm (.int .i64 d)) N48.out.symm (.slice Al l2.length cl)
        have eo := Kd.R_set (Kd.R_set HO.out B4.out (by decide) 0 (.int .i64 d)) (blk_put (cs' := #[.int .i64 d, .slice none 0 0]) B4.out 0 (.int .i64 d) rfl) (by decide) 1 (.slice Al l2.length cl)
        have eb := (HB.out.setCell (p := ⟨g4, 0, none⟩) G4.out (.int .i64 d)).setCell (p := ⟨g4, 1, none⟩) G4.out (.slice Al l2.length cl)
        have ek := (Below.heap_setCell _ ⟨g4, 1, none⟩ (.slice Al l2.length cl) D ND.out).trans ((Below.heap_setCell _ ⟨g4, 0, none⟩ (.int .i64 d) D ND.out).trans HK.out)
        generalize ((W5.setCell ⟨g4, 0, none⟩ (.int .i64 d)).setCell ⟨g4, 1, none⟩ (.slice Al l2.length cl)) = W6 at e4 e8 eo eb ek ⊢
        clear B4 B8 HO HB HK
        have B4 := Aside0.mk e4
        have B8 := Aside0.mk e8
        have HO := Aside0.mk eo
        have HB := Aside0.mk eb
        have HK := Aside0.mk ek
        clear e4 e8 eo eb ek
        refine one_ (i := 3) (N := some 5) (bs 5 15) rfl rfl (by kernel_rfl) (by decide) (fun K hK => ?_)
        refine value_ (v := .int .i64 (endF 0 xs)) (by rfl) rfl (by first | (go_simp; done) | (go_simp; rfl)) ?_
        refine hK.out _ _ trivial (fun _ => ?_)
        clear hK K
        refine nmA 5 ?_
        refine one_ (i := 4) (N := some 6) (bs 5 31) rfl rfl (by kernel_rfl) (by decide) (fun K hK => ?_)
        refine value_ (v := .int .i64 0) (by rfl) rfl (by first | (go_simp; done) | (go_simp; rfl)) ?_
        refine hK.out _ _ trivial (fun _ => ?_)
        clear hK K
        refine nmA 6 ?_
        refine done_ (by kernel_rfl) ?_
        go_wp2
        refine ⟨by simp, .inl ⟨_, _, rfl, run_takeDeferred HK.out, ?_⟩⟩
        exact ⟨_, results_ctt rfl _ _ g4 24 #[.int .i64 d, .slice Al l2.length cl] (0, 0) _ rfl ((World.putObj_heap_other (Ne.symm ND.out)).trans B4.out) Try.underlying24 rfl (by kernel_rfl), _, rfl, R_keeps HO.out (grownBy_putObj' _ D _) (fun r e => by cases e; exact ⟨_, HK.out, rfl⟩), HB.out.trans (belowK_b (w := w) (Nat.le_refl _) _ D _ _ HD.out HK.out rfl rfl)⟩
  case stop =>
    rintro D c pre W hD _ ⟨rfl, Al, cl, h7, h8, h4, ho, hB⟩ hK
    dsimp only at h7 h8 ho
    refine wpIn_wide.2 ?_
    go_wp2
    have HD := Aside0.mk (Nat.le_trans hle hD)
    have ND : Aside0 (D ≠ g4) := ⟨fun e => by rw [e, h4] at hK; cases hK⟩
    have B7 := Aside0.mk (blk_drew h7)
    have B8 := Aside0.mk (blk_drew h8)
    have B4 := Aside0.mk (blk_drew h4)
    have HO := Aside0.mk (Kd.R_drew ho)
    have HK : Aside0 (W.drew.heap[D]? = some (.deferred (some []))) := ⟨hK⟩
    have HB := Aside0.mk (below_drew1 hB)
    clear hD h7 h8 h4 ho hB hK
    refine start_ (n := 5) (S := fun _ => True) (ds := []) (bs 5 0) rfl rfl (by kernel_rfl) trivial (fun hHeld => ?_)
    clear hHeld
    generalize W.drew = W5 at B7 B8 B4 HO HB HK ⊢
    refine two_ (i := 0) (j := 1) (Ni := some 44) (Nj := some 45) (bs 5 1) (bs 5 2) rfl rfl rfl rfl (by kernel_rfl) (by decide) (by decide) (fun K hK => ?_) (fun K hK => ?_)
    · refine value_ (v := .agg #[.int .i64 q0, .slice Al q1.length cl]) (by rfl) rfl (by have hc7 := blk_cell B7.out; first | (go_simp; done) | (go_simp; rfl)) ?_
      refine hK.out _ _ trivial (fun _ => ?_)
      clear hK K
      refine nmA 44 ?_
      refine two_ (i := 1) (j := 2) (Ni := some 45) (Nj := none) (bs 5 3) (bs 5 5) rfl rfl rfl rfl (by kernel_rfl) (by decide) (by decide) (fun K hK => ?_) (fun K hK => ?_)
      · refine value_ (v := .int .i64 q2) (by rfl) rfl (by have hc8 := blk_cell B8.out; first | (go_simp; done) | (go_simp; rfl)) ?_
        refine hK.out _ _ trivial (fun _ => ?_)
        clear hK K
        refine nmA 45 ?_
        refine one_ (i := 2) (N := none) (bs 5 7) rfl rfl (by kernel_rfl) (by decide) (fun K hK => ?_)
        have hc4 := blk_cell B4.out
        have hf4 := blk_frozen B4.out
        refine skip_ (w1 := ?_) (by rfl) rfl ?_ ?_
        rotate_left
        · go_simp
          rfl
        refine hK.out _ _ trivial (fun _ => ?_)
        clear hK K hc4 hf4
        have e4 := blk_put (cs' := #[.int .i64 q0, .slice Al q1.length cl]) (blk_put (cs' := #[.int .i64 q0, .slice none 0 0]) B4.out 0 (.int .i64 q0) rfl) 1 (.slice Al q1.length cl) rfl
        have e8 := blk_far (p := ⟨g4, 1, none⟩) (blk_far (p := ⟨g4, 0, none⟩) B8.out N48.out.symm (.int .i64 q0)) N48.out.symm (.slice Al q1.length cl)
        have eo := Kd.R_set (Kd.R_set HO.out B4.out (by decide) 0 (.int .i64 q0)) (blk_put (cs' := #[.int .i64 q0, .slice none 0 0]) B4.out 0 (.int .i64 q0) rfl) (by decide) 1 (.slice Al q1.length cl)
        have eb := (HB.out.setCell (p := ⟨g4, 0, none⟩) G4.out (.int .i64 q0)).setCell (p := ⟨g4, 1, none⟩) G4.out (.slice Al q1.length cl)
        have ek := (Below.heap_setCell _ ⟨g4, 1, none⟩ (.slice Al q1.length cl) D ND.out).trans ((Below.heap_setCell _ ⟨g4, 0, none⟩ (.int .i64 q0) D ND.out).trans HK.out)
        generalize ((W5.setCell ⟨g4, 0, none⟩ (.int .i64 q0)).setCell ⟨g4, 1, none⟩ (.slice Al q1.length cl)) = W6 at e4 e8 eo eb ek ⊢
        clear B4 B8 HO HB HK
        have B4 := Aside0.mk e4
        have B8 := Aside0.mk e8
        have HO := Aside0.mk eo
        have HB := Aside0.mk eb
        have HK := Aside0.mk ek
        clear e4 e8 eo eb ek
        refine one_ (i := 3) (N := some 5) (bs 5 15) rfl rfl (by kernel_rfl) (by decide) (fun K hK => ?_)
        refine value_ (v := .int .i64 q2) (by rfl) rfl (by first | (go_simp; done) | (go_simp; rfl)) ?_
        refine hK.out _ _ trivial (fun _ => ?_)
        clear hK K
        refine nmA 5 ?_
        refine one_ (i := 4) (N := some 6) (bs 5 31) rfl rfl (by kernel_rfl) (by decide) (fun K hK => ?_)
        refine value_ (v := .int .i64 0) (by rfl) rfl (by first | (go_simp; done) | (go_simp; rfl)) ?_
        refine hK.out _ _ trivial (fun _ => ?_)
        clear hK K
        refine nmA 6 ?_
        refine done_ (by kernel_rfl) ?_
        go_wp2
        refine ⟨by simp, .inl ⟨_, _, rfl, run_takeDeferred HK.out, ?_⟩⟩
        exact ⟨_, results_ctt rfl _ _ g4 24 #[.int .i64 q0, .slice Al q1.length cl] (0, 0) _ rfl ((World.putObj_heap_other (Ne.symm ND.out)).trans B4.out) Try.underlying24 rfl (by kernel_rfl), _, rfl, R_keeps HO.out (grownBy_putObj' _ D _) (fun r e => by cases e; exact ⟨_, HK.out, rfl⟩), HB.out.trans (belowK_b (w := w) (Nat.le_refl _) _ D _ _ HD.out HK.out rfl rfl)⟩
      · have hc4 := blk_cell B4.out
        have hf4 := blk_frozen B4.out
        refine skip_ (w1 := ?_) (by rfl) rfl ?_ ?_
        rotate_left
        · go_simp
          rfl
        refine hK.out _ _ trivial (fun _ => ?_)
        clear hK K hc4 hf4
        have e4 := blk_put (cs' := #[.int .i64 q0, .slice Al q1.length cl]) (blk_put (cs' := #[.int .i64 q0, .slice none 0 0]) B4.out 0 (.int .i64 q0) rfl) 1 (.slice Al q1.length cl) rfl
        have e8 := blk_far (p := ⟨g4, 1, none⟩) (blk_far (p := ⟨g4, 0, none⟩) B8.out N48.out.symm (.int .i64 q0)) N48.out.symm (.slice Al q1.length cl)
        have eo := Kd.R_set (Kd.R_set HO.out B4.out (by decide) 0 (.int .i64 q0)) (blk_put (cs' := #[.int .i64 q0, .slice none 0 0]) B4.out 0 (.int .i64 q0) rfl) (by decide) 1 (.slice Al q1.length cl)
        have eb := (HB.out.setCell (p := ⟨g4, 0, none⟩) G4.out (.int .i64 q0)).setCell (p := ⟨g4, 1, none⟩) G4.out (.slice Al q1.length cl)
        have ek := (Below.heap_setCell _ ⟨g4, 1, none⟩ (.slice Al q1.length cl) D ND.out).trans ((Below.heap_setCell _ ⟨g4, 0, none⟩ (.int .i64 q0) D ND.out).trans HK.out)
        generalize ((W5.setCell ⟨g4, 0, none⟩ (.int .i64 q0)).setCell ⟨g4, 1, none⟩ (.slice Al q1.length cl)) = W6 at e4 e8 eo eb ek ⊢
        clear B4 B8 HO HB HK
        have B4 := Aside0.mk e4
        have B8 := Aside0.mk e8
        have HO := Aside0.mk eo
        have HB := Aside0.mk eb
        have HK := Aside0.mk ek
        clear e4 e8 eo eb ek
        refine one_ (i := 1) (N := some 45) (bs 5 7) rfl rfl (by kernel_rfl) (by decide) (fun K hK => ?_)
        refine value_ (v := .int .i64 q2) (by rfl) rfl (by have hc8 := blk_cell B8.out; first | (go_simp; done) | (go_simp; rfl)) ?_
        refine hK.out _ _ trivial (fun _ => ?_)
        clear hK K
        refine nmA 45 ?_
        refine one_ (i := 3) (N := some 5) (bs 5 15) rfl rfl (by kernel_rfl) (by decide) (fun K hK => ?_)
        refine value_ (v := .int .i64 q2) (by rfl) rfl (by first | (go_simp; done) | (go_simp; rfl)) ?_
        refine hK.out _ _ trivial (fun _ => ?_)
        clear hK K
        refine nmA 5 ?_
        refine one_ (i := 4) (N := some 6) (bs 5 31) rfl rfl (by kernel_rfl) (by decide) (fun K hK => ?_)
        refine value_ (v := .int .i64 0) (by rfl) rfl (by first | (go_simp; done) | (go_simp; rfl)) ?_
        refine hK.out _ _ trivial (fun _ => ?_)
        clear hK K
        refine nmA 6 ?_
        refine done_ (by kernel_rfl) ?_
        go_wp2
        refine ⟨by simp, .inl ⟨_, _, rfl, run_takeDeferred HK.out, ?_⟩⟩
        exact ⟨_, results_ctt rfl _ _ g4 24 #[.int .i64 q0, .slice Al q1.length cl] (0, 0) _ rfl ((World.putObj_heap_other (Ne.symm ND.out)).trans B4.out) Try.underlying24 rfl (by kernel_rfl), _, rfl, R_keeps HO.out (grownBy_putObj' _ D _) (fun r e => by cases e; exact ⟨_, HK.out, rfl⟩), HB.out.trans (belowK_b (w := w) (Nat.le_refl _) _ D _ _ HD.out HK.out rfl rfl)⟩
    · refine value_ (v := .int .i64 q2) (by rfl) rfl (by have hc8 := blk_cell B8.out; first | (go_simp; done) | (go_simp; rfl)) ?_
      refine hK.out _ _ trivial (fun _ => ?_)
      clear hK K
      refine nmA 45 ?_
      refine one_ (i := 0) (N := some 44) (bs 5 3) rfl rfl (by kernel_rfl) (by decide) (fun K hK => ?_)
      refine value_ (v := .agg #[.int .i64 q0, .slice Al q1.length cl]) (by rfl) rfl (by have hc7 := blk_cell B7.out; first | (go_simp; done) | (go_simp; rfl)) ?_
      refine hK.out _ _ trivial (fun _ => ?_)
      clear hK K
      refine nmA 44 ?_
      refine one_ (i := 2) (N := none) (bs 5 7) rfl rfl (by kernel_rfl) (by decide) (fun K hK => ?_)
      have hc4 := blk_cell B4.out
      have hf4 := blk_frozen B4.out
      refine skip_ (w1 := ?_) (by rfl) rfl ?_ ?_
      rotate_left
      · go_simp
        rfl
      refine hK.out _ _ trivial (fun _ => ?_)
      clear hK K hc4 hf4
      have e4 := blk_put (cs' := #[.int .i64 q0, .slice Al q1.length cl]) (blk_put (cs' := #[.int .i64 q0, .slice none 0 0]) B4.out 0 (.int .i64 q0) rfl) 1 (.slice Al q1.length cl) rfl
      have e8 := blk_far (p := ⟨g4, 1, none⟩) (blk_far (p := ⟨g4, 0, none⟩) B8.out N48.out.symm (.int .i64 q0)) N48.out.symm (.slice Al q1.length cl)
      have eo := Kd.R_set (Kd.R_set HO.out B4.out (by decide) 0 (.int .i64 q0)) (blk_put (cs' := #[.int .i64 q0, .slice none 0 0]) B4.out 0 (.int .i64 q0) rfl) (by decide) 1 (.slice Al q1.length cl)
      have eb := (HB.out.setCell (p := ⟨g4, 0, none⟩) G4.out (.int .i64 q0)).setCell (p := ⟨g4, 1, none⟩) G4.out (.slice Al q1.length cl)
      have ek := (Below.heap_setCell _ ⟨g4, 1, none⟩ (.slice Al q1.length cl) D ND.out).trans ((Below.heap_setCell _ ⟨g4, 0, none⟩ (.int .i64 q0) D ND.out).trans HK.out)
      generalize ((W5.setCell ⟨g4, 0, none⟩ (.int .i64 q0)).setCell ⟨g4, 1, none⟩ (.slice Al q1.length cl)) = W6 at e4 e8 eo eb ek ⊢
      clear B4 B8 HO HB HK
      have B4 := Aside0.mk e4
      have B8 := Aside0.mk e8
      have HO := Aside0.mk eo
      have HB := Aside0.mk eb
      have HK := Aside0.mk ek
      clear e4 e8 eo eb ek
      refine one_ (i := 3) (N := some 5) (bs 5 15) rfl rfl (by kernel_rfl) (by decide) (fun K hK => ?_)
      refine value_ (v := .int .i64 q2) (by rfl) rfl (by first | (go_simp; done) | (go_simp; rfl)) ?_
      refine hK.out _ _ trivial (fun _ => ?_)
      clear hK K
      refine nmA 5 ?_
      refine one_ (i := 4) (N := some 6) (bs 5 31) rfl rfl (by kernel_rfl) (by decide) (fun K hK => ?_)
      refine value_ (v := .int .i64 0) (by rfl) rfl (by first | (go_simp; done) | (go_simp; rfl)) ?_
      refine hK.out _ _ trivial (fun _ => ?_)
      clear hK K
      refine nmA 6 ?_
      refine done_ (by kernel_rfl) ?_
      go_wp2
      refine ⟨by simp, .inl ⟨_, _, rfl, run_takeDeferred HK.out, ?_⟩⟩
      exact ⟨_, results_ctt rfl _ _ g4 24 #[.int .i64 q0, .slice Al q1.length cl] (0, 0) _ rfl ((World.putObj_heap_other (Ne.symm ND.out)).trans B4.out) Try.underlying24 rfl (by kernel_rfl), _, rfl, R_keeps HO.out (grownBy_putObj' _ D _) (fun r e => by cases e; exact ⟨_, HK.out, rfl⟩), HB.out.trans (belowK_b (w := w) (Nat.le_refl _) _ D _ _ HD.out HK.out rfl rfl)⟩
end Go.Proofs.Yteopkkoblbmggaa.P
end
