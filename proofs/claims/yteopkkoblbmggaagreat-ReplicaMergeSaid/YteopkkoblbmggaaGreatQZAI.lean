/- Texts of this claim in one: VInsJ, VCqc, VP16, VP3; no condition. -/
import Derived.Test.YteopkkoblbmggaaGreatQZAH
import Derived.Test.YteopkkoblbmggaaGreatQZAE
import Derived.Test.YteopkkoblbmggaaGreatQZAC
import Derived.Test.YteopkkoblbmggaaGreatQZAF
section
set_option linter.unusedVariables false
set_option linter.unusedSimpArgs false
namespace Go.Proofs.YteopkkoblbmggaaGreat.P
open Go.RowKit Go.Lib Go.Proofs.YteopkkoblbmggaaGreatW.PrintWords Go.Proofs.YteopkkoblbmggaaGreatW.PrintLast Go.Proofs.YteopkkoblbmggaaGreatW.PrintMore
theorem Y3N {α : Type} {R : α → List Value → Prop} {size : Nat} {ps qs : List α} {cs ds : List Value} (h : Reps R size ps cs) (g : Reps R size qs ds) : Reps R size (ps ++ qs) (cs ++ ds) := by
  refine ⟨by rw [List.length_append, h.1, g.1, List.length_append, Nat.add_mul], fun j p hj => ?_⟩; rcases Nat.lt_or_ge j ps.length with hl | hl
  · rw [List.getElem?_append_left hl] at hj
    have h1 : j * size + size ≤ cs.length := by rw [h.1, ← Nat.succ_mul]; exact Nat.mul_le_mul_right _ hl
    rw [List.drop_append_of_le_length (by omega), List.take_append_of_le_length (by rw [List.length_drop]; omega)]; exact h.2 j p hj
  · rw [List.getElem?_append_right hl] at hj
    have e : j * size = cs.length + (j - ps.length) * size := by rw [h.1, ← Nat.add_mul]; congr 1; omega
    rw [e, ← List.drop_drop, List.drop_left]; exact g.2 _ p hj
theorem Y4q {α : Type} {R : α → List Value → Prop} {size : Nat} {ps : List α} {cs : List Value} (h : Reps R size ps cs) (i : Nat) (hi : i ≤ ps.length) : Reps R size (ps.take i) (cs.take (i * size)) := by
  refine ⟨by rw [List.length_take, List.length_take, h.1, Nat.min_eq_left hi, Nat.min_eq_left (Nat.mul_le_mul_right _ hi)], fun j p hj => ?_⟩
  have hji : j < i := by
    have := (List.getElem?_eq_some_iff.1 hj).1; rw [List.length_take] at this; omega
  rw [List.getElem?_take, if_pos hji] at hj; have h1 : j * size + size ≤ i * size := by rw [← Nat.succ_mul]; exact Nat.mul_le_mul_right _ hji
  rw [List.drop_take, List.take_take, Nat.min_eq_left (by omega)]; exact h.2 j p hj
theorem Y4p {α : Type} {R : α → List Value → Prop} {size : Nat} {ps : List α} {cs : List Value} (h : Reps R size ps cs) (i : Nat) : Reps R size (ps.drop i) (cs.drop (i * size)) := by
  refine ⟨by rw [List.length_drop, List.length_drop, h.1, Nat.sub_mul], fun j p hj => ?_⟩; rw [List.getElem?_drop] at hj; rw [List.drop_drop, ← Nat.add_mul]; exact h.2 _ p hj
def cE (y : S52) : List Value := [.int .i64 y.f0.f0, .int .i64 y.f0.f1, .int .i64 y.f1, .int .i64 y.f2.f0, .int .i64 y.f2.f1, .bool y.f3, .int .i64 y.f4.f0, .int .i64 y.f4.f1, .int .i64 y.f4.f2, .int .i64 y.f4.f3, .int .i64 y.f4.f4, .int .i64 y.f4.f5, .int .i64 y.f4.f6]
theorem Y5d {w w1 : World} {base base1 : Nat} {ok ok1 : Nat → Prop} {x : S52} {cs : List Value} (h : k52.M w base ok x cs) : k52.M w1 base1 ok1 x cs := by
  rw [Y4I h]; exact Y1u _ _ _ _
theorem Y4Y {cur : List Value} {n cap i : Nat} {ec mid inner R1 R2 : List Value} (hec : ec.length = 13) (hsz : cur.length = cap * 13) (hi : i < n) (hroom : n + 1 ≤ cap) (hin : cur.take (n * 13) = inner) (hmid : mid = inner.drop (i * 13))
    (hR1 : R1 = cur.take ((i + 1) * 13) ++ mid ++ cur.drop ((i + 1) * 13 + mid.length)) (hR2 : R2 = R1.take (i * 13) ++ ec ++ R1.drop (i * 13 + ec.length)) :
    R2.length = cap * 13 ∧ R2.take ((n + 1) * 13) = inner.take (i * 13) ++ (ec ++ inner.drop (i * 13)) := by
  have hil : inner.length = n * 13 := by rw [← hin, List.length_take]; omega
  have hml : mid.length = (n - i) * 13 := by rw [hmid, List.length_drop, hil]; omega
  have h1l : (cur.take ((i + 1) * 13)).length = (i + 1) * 13 := by rw [List.length_take]; omega
  have e1 : R1.take (i * 13) = inner.take (i * 13) := by
    rw [hR1, List.append_assoc, List.take_append_of_le_length (by omega), List.take_take, Nat.min_eq_left (by omega), ← hin, List.take_take, Nat.min_eq_left (by omega)]
  have e2 : R1.drop (i * 13 + ec.length) = mid ++ cur.drop ((i + 1) * 13 + mid.length) := by
    rw [hR1, List.append_assoc, show i * 13 + ec.length = (cur.take ((i + 1) * 13)).length by omega, List.drop_left]
  rw [e1, e2, hmid] at hR2; have hl : (inner.take (i * 13)).length = i * 13 := by rw [List.length_take]; omega
  refine ⟨?_, ?_⟩
  · rw [hR2, List.length_append, List.length_append, List.length_append, hl, hec, ← hmid, hml, List.length_drop, hsz]; omega
  · rw [hR2, ← List.append_assoc, List.take_append_of_le_length (by rw [List.length_append, List.length_append, hl, hec, ← hmid, hml]; omega), List.take_of_length_le (by rw [List.length_append, List.length_append, hl, hec, ← hmid, hml]; omega), List.append_assoc]
theorem Y5n {cur Z : List Value} {n cap i G : Nat} {ec mid inner R1 R2 ROW : List Value} (hec : ec.length = 13) (hsz : cur.length = cap * 13) (hi : i < n) (hnc : n ≤ cap) (hin : cur.take (n * 13) = inner) (hmid : mid = inner.drop (i * 13))
    (hROW : ROW = cur.take (i * 13) ++ Z) (hRl : ROW.length = G * 13) (hG : n + 1 ≤ G)
    (hR1 : R1 = ROW.take (i * 13) ++ ec ++ ROW.drop (i * 13 + ec.length)) (hR2 : R2 = R1.take ((i + 1) * 13) ++ mid ++ R1.drop ((i + 1) * 13 + mid.length)) :
    R2.length = G * 13 ∧ R2.take ((n + 1) * 13) = inner.take (i * 13) ++ (ec ++ inner.drop (i * 13)) := by
  have hil : inner.length = n * 13 := by rw [← hin, List.length_take]; omega
  have hml : mid.length = (n - i) * 13 := by rw [hmid, List.length_drop, hil]; omega
  have hl : (inner.take (i * 13)).length = i * 13 := by rw [List.length_take]; omega
  have e0 : ROW.take (i * 13) = inner.take (i * 13) := by
    have : (cur.take (i * 13)).length = i * 13 := by rw [List.length_take]; omega
    rw [hROW, List.take_append_of_le_length (by omega), List.take_take, Nat.min_self, ← hin, List.take_take, Nat.min_eq_left (by omega)]
  rw [e0] at hR1
  have e1 : R1.take ((i + 1) * 13) = inner.take (i * 13) ++ ec := by
    rw [hR1, List.take_append_of_le_length (by rw [List.length_append, hl, hec]; omega), List.take_of_length_le (by rw [List.length_append, hl, hec]; omega)]
  have h1l : R1.length = G * 13 := by rw [hR1, List.length_append, List.length_append, hl, hec, List.length_drop, hRl]; omega
  rw [e1, hmid] at hR2; refine ⟨?_, ?_⟩
  · rw [hR2, List.length_append, List.length_append, List.length_append, hl, hec, ← hmid, hml, List.length_drop, h1l]; omega
  · rw [hR2, List.take_append_of_le_length (by rw [List.length_append, List.length_append, hl, hec, ← hmid, hml]; omega), List.take_of_length_le (by rw [List.length_append, List.length_append, hl, hec, ← hmid, hml]; omega), List.append_assoc]
theorem Y2v {w w1 : World} {base base1 : Nat} {ok ok1 : Nat → Prop} {l : List S52} {inner : List Value} (i : Nat) (hi : i ≤ l.length) (y : S52) (h : Reps (k52.M w base ok) 13 l inner) :
    Reps (k52.M w1 base1 ok1) 13 (l.take i ++ y :: l.drop i) (inner.take (i * 13) ++ (cE y ++ inner.drop (i * 13))) := by
  have h1 : Reps (k52.M w1 base1 ok1) 13 l inner := h.imp_ (fun _ _ hp => Y5d hp); refine Y3N (Y4q h1 i hi) (Y3N (ps := [y]) (cs := cE y) ?_ (Y4p h1 i)); have := Reps.snoc (Reps.none (k52.M w1 base1 ok1) 13) (Y1u w1 base1 ok1 y) (by rfl); exact this
theorem Y5E (y : S52) : ∀ v ∈ cE y, v.oneCell' = true := by
  intro v hv
  simp [cE] at hv
  rcases hv with h | h | h | h | h | h | h | h | h | h | h | h | h <;> rw [h] <;> rfl
theorem Y4O {w : World} {base : Nat} {ok : Nat → Prop} {l : List S52} {inner : List Value} (h : Reps (k52.M w base ok) 13 l inner) : ∀ v ∈ inner, v.oneCell' = true := by
  intro v hv; obtain ⟨j, hj, rfl⟩ := List.getElem_of_mem hv; have h0 : 0 < 13 := by decide
  have hl := h.1; have hq : j / 13 < l.length := by rw [Nat.div_lt_iff_lt_mul h0]; omega
  have hp := h.2 (j / 13) _ (List.getElem?_eq_getElem hq); refine k52.K_one (k52.K_of_M hp) _ ?_; have hm : j % 13 < 13 := Nat.mod_lt _ h0; have he : j / 13 * 13 + j % 13 = j := Nat.div_add_mod' j 13; rw [List.mem_iff_getElem]; have hlen : j % 13 < ((inner.drop (j / 13 * 13)).take 13).length := by rw [List.length_take, List.length_drop]; omega
  refine ⟨j % 13, hlen, ?_⟩; rw [List.getElem_take, List.getElem_drop]; simp only [he]
theorem Y28 (w : World) (g k : Nat) (R : Array Value) (h : g ≠ k) : (w.setRow g R).heap[k]? = w.heap[k]? := by
  unfold World.setRow; simp only [Array.getElem?_modify, if_neg h]
theorem Y45 (w : World) (g : Nat) (R1 R2 : Array Value) : w.grownBy ((w.drew.setRow g R1).setRow g R2) (some g) := by
  refine ⟨rfl, rfl, rfl, ?_, fun k hk hne => ?_⟩
  · rw [setRow_size, setRow_size]; exact Nat.le_refl _
  · have : g ≠ k := fun e => hne (by rw [e])
    rw [Y28 _ _ _ _ this, Y28 _ _ _ _ this]; rfl
theorem Y4F (w : World) (o : Obj) (R1 R2 : Array Value) (row : Option Nat) : w.grownBy ((((w.drew.alloc o).setRow w.heap.size R1).drew).setRow w.heap.size R2) row := by
  refine ⟨rfl, rfl, rfl, ?_, fun k hk hne => ?_⟩
  · rw [setRow_size]
    show _ ≤ ((w.drew.alloc o).setRow w.heap.size R1).heap.size
    rw [setRow_size, World.size_alloc]; exact Nat.le_succ _
  · rw [Y28 _ _ _ _ (by omega)]
    show ((w.drew.alloc o).setRow w.heap.size R1).heap[k]? = _
    rw [Y28 _ _ _ _ (by omega)]
    show (w.heap.push o)[k]? = _
    rw [Array.getElem?_push, if_neg (by omega)]
theorem Y2b {base : Nat} {w0 w w1 : World} {row : Option Nat} (hb : Below base w0 w) (hg : w.grownBy w1 row) (hbase : base ≤ w.heap.size) (hr : ∀ k, row = some k → base ≤ k) : Below base w0 w1 := hb.grown hg hbase hr
set_option maxHeartbeats 8000000 in
set_option maxRecDepth 100000 in
theorem Y5J (base : Nat) (l : List S52) (y : S52) (v : Value) (vb : Nat) (w : World) (hn : l.length ≤ 1000000) (hr : Kd.R k52 52 w base (fun _ => True) v l) (hbase : base ≤ w.heap.size)
    (hv : w.heap[vb]? = some (.cells (cE y).toArray 52 (0, 0))) :
    Calls Tryz.prog 41 #[v, .int .i64 l.length, .slice (some ⟨vb, 0, none⟩) 1 1] w fun e w' =>
      ∃ v', e = .returned v' ∧ Kd.R k52 52 w' base (fun _ => True) v' (l ++ [y]) ∧ w.grownBy w' v.ownBlock := by
  have hus := Tryz.underlying22; have HR := Y0.mk hr; have HN := Y0.mk hn; have HBS := Y0.mk hbase
  have HY : Y0 (Kd.C k52 w (some ⟨vb, 0, none⟩) 1 [y]) := ⟨⟨rfl, by decide, fun _ => ⟨⟨vb, 0, none⟩, rfl, fun j p hj => by
    cases j with
    | zero =>
      obtain rfl : y = p := by simpa using hj
      refine ⟨cE y, rfl, Y65 w y, fun i u hu => ?_⟩; rw [Addr.add_lit]; refine (Y2 hv _).trans ?_
      simpa using hu
    | succ j => simp at hj⟩⟩⟩
  obtain ⟨A, c, rfl, hlc, hC⟩ := Kd.R_reads hr; clear hr hn hbase hC hv; have hob : (Value.slice A l.length c).ownBlock = A.map (·.block) := by cases A <;> rfl
  have HOB := Y0.mk hob; clear hob; rw [HOB.out]; obtain ⟨ob, hob⟩ : ∃ ob, ob = A.map (·.block) := ⟨_, rfl⟩; rw [← hob]; rw [← hob] at HOB; clear hob; go_enter Tryz.func41, Tryz.ntmps41
  go_wp2_with (at_builtin; refine Kd.R_append_rows k52 (w0 := w) base rfl (.tmp 23) (.tmp 24) 22 52 (.agg #[(.int .i64 0), (.int .i64 0), (.int .i64 0), (.int .i64 0), (.int .i64 0), (.bool false), (.int .i64 0), (.int .i64 0), (.int .i64 0), (.int .i64 0), (.int .i64 0), (.int .i64 0), (.int .i64 0)]) 104 rfl Tryz.underlying22 Y1E rfl (by decide) (by omega) _ l [y] (some ⟨vb, 0, none⟩) 1 1 (fun _ => True) (fun _ => False) rfl rfl HR.out HY.out (fun _ _ h => h) (fun _ h => h.elim) (fun _ _ => trivial) (Below.refl _ _) HBS.out (by have := HN.out; omega) ?_; intro v2 w2 ho hb hg_ hnew_; have HO2 := Y0.mk ho; have HG2 : Y0 (w.grownBy w2 ob) := ⟨by rw [← HOB.out]; exact hg_⟩; clear ho hb hg_ hnew_)
  all_goals
    go_ret
    exact ⟨_, rfl, HO2.out, HG2.out⟩
theorem Y2x (base : Nat) (i : Nat) (l : List S52) (y : S52) (v : Value) (vb : Nat) (w : World) (hn : l.length ≤ 1000000) (hi : i ≤ l.length) (hr : Kd.R k52 52 w base (fun _ => True) v l) (hbase : base ≤ w.heap.size)
    (hv : w.heap[vb]? = some (.cells (cE y).toArray 52 (0, 0))) (hne : some vb ≠ v.ownBlock) :
    Calls Tryz.prog 41 #[v, .int .i64 i, .slice (some ⟨vb, 0, none⟩) 1 1] w fun e w' =>
      ∃ v', e = .returned v' ∧ Kd.R k52 52 w' base (fun _ => True) v' (l.take i ++ y :: l.drop i) ∧ w.grownBy w' v.ownBlock := by
  rcases Nat.lt_or_ge i l.length with hlt | hge
  rotate_left
  · obtain rfl : i = l.length := Nat.le_antisymm hi hge
    rw [List.take_length, List.drop_length]; exact Y5J base l y v vb w hn hr hbase hv
  have hr0 := hr; obtain ⟨hok, inner, ⟨hil, hown⟩, hrep⟩ := hr; rcases hown with ⟨rfl, h0⟩ | ⟨g, cap, cur, rfl, hgb, hg, hnc, hcm, hsz, hin⟩
  · omega
  have hvg : vb ≠ g := fun e => hne (by rw [e]; rfl)
  have hone := Y4O hrep; have hc13 : cur.toList.length = cap * 13 := by rw [Array.length_toList]; exact hsz
  rw [show k52.sz = 13 from rfl] at hsz hin hil; rcases Nat.lt_or_ge cap (l.length + 1) with hroom | hroom
  · obtain ⟨G, hG⟩ : ∃ G, G = grownCap w (l.length + 1) cap 52 := ⟨_, rfl⟩
    have hGn : l.length + 1 ≤ G := by rw [hG]; exact grownCap_ge w _ _ _
    have hGm : G ≤ maxLen := by rw [hG]; exact grownCap_le_maxLen w (l.length + 1) cap 52 (by unfold maxLen; omega)
    obtain ⟨ROW, hROW⟩ : ∃ ROW, ROW = (cur.toList.take (i * 13)).toArray ++ Builtin.zeroCells z52v.cells (l.length + 1 - i) ++ Builtin.zeroCells z52v.cells (G - (l.length + 1)) := ⟨_, rfl⟩; obtain ⟨R1, hR1⟩ : ∃ R1, R1 = (ROW.toList.take (i * 13) ++ cE y ++ ROW.toList.drop (i * 13 + (cE y).length)).toArray := ⟨_, rfl⟩; obtain ⟨R2, hR2⟩ : ∃ R2, R2 = (R1.toList.take ((i + 1) * 13) ++ (cur.toList.take (l.length * 13)).drop (i * 13) ++ R1.toList.drop ((i + 1) * 13 + ((cur.toList.take (l.length * 13)).drop (i * 13)).length)).toArray := ⟨_, rfl⟩; have hmid : (cur.toList.take (l.length * 13)).drop (i * 13) = inner.drop (i * 13) := by rw [hin]
    have hRs : ROW.size = G * 13 := by
      rw [hROW]; simp only [Array.size_append, Builtin.zeroCells, Array.size_map, Array.size_range, List.size_toArray, List.length_take, Array.length_toList, Y3z, hsz]; omega
    obtain ⟨q1, q2⟩ := Y5n (cur := cur.toList) (Z := (Builtin.zeroCells z52v.cells (l.length + 1 - i) ++ Builtin.zeroCells z52v.cells (G - (l.length + 1))).toList) (ec := cE y) (mid := (cur.toList.take (l.length * 13)).drop (i * 13)) (R1 := R1.toList) (R2 := R2.toList) (ROW := ROW.toList) rfl hc13 hlt hnc hin hmid
      (by rw [hROW]; simp) (by rw [Array.length_toList]; exact hRs) hGn (by rw [hR1]) (by rw [hR2])
    refine (Y5c g cap l.length i vb cur (cE y) w hlt hnc hroom hn hg hsz hv rfl _ rfl G hG ROW R1 R2 hROW hR1 hR2 (fun u hu => hone u (by rw [hmid] at hu; exact List.mem_of_mem_drop hu)) (Y5E y)).mono ?_; rintro e w' ⟨rfl, rfl⟩; have hn0 : (w.drew.alloc (.cells ROW 52)).heap[w.heap.size]? = some (.cells ROW 52 (0, 0)) := Y1w w.drew _; have hn1 := setRow_heap _ _ _ R1 _ _ hn0; have hn2 := setRow_heap (((w.drew.alloc (.cells ROW 52)).setRow w.heap.size R1).drew) _ _ R2 _ _ hn1; refine ⟨_, rfl, ⟨fun _ _ => trivial, R2.toList.take ((l.length + 1) * 13), ⟨?_, .inr ⟨w.heap.size, G, R2, ?_, hbase, hn2, ?_, hGm, ?_, ?_⟩⟩, ?_⟩, Y4F _ _ _ _ _⟩
    · rw [q2, (Y2v (w1 := w) (base1 := 0) (ok1 := fun _ => True) i hi y hrep).1]; rfl
    · rw [List.length_append, List.length_cons, List.length_take, List.length_drop, show min i l.length + (l.length - i + 1) = l.length + 1 by omega]
    · rw [List.length_append, List.length_cons, List.length_take, List.length_drop]; omega
    · rw [← Array.length_toList, q1]; rfl
    · rw [List.length_append, List.length_cons, List.length_take, List.length_drop, show min i l.length + (l.length - i + 1) = l.length + 1 by omega]; rfl
    · rw [q2]; exact Y2v i hi y hrep
  · obtain ⟨R1, hR1⟩ : ∃ R1, R1 = (cur.toList.take ((i + 1) * 13) ++ (cur.toList.take (l.length * 13)).drop (i * 13) ++ cur.toList.drop ((i + 1) * 13 + ((cur.toList.take (l.length * 13)).drop (i * 13)).length)).toArray := ⟨_, rfl⟩
    obtain ⟨R2, hR2⟩ : ∃ R2, R2 = (R1.toList.take (i * 13) ++ cE y ++ R1.toList.drop (i * 13 + (cE y).length)).toArray := ⟨_, rfl⟩; have hmid : (cur.toList.take (l.length * 13)).drop (i * 13) = inner.drop (i * 13) := by rw [hin]
    obtain ⟨q1, q2⟩ := Y4Y (cur := cur.toList) (ec := cE y) (mid := (cur.toList.take (l.length * 13)).drop (i * 13)) (R1 := R1.toList) (R2 := R2.toList) rfl hc13 hlt hroom hin hmid (by rw [hR1]) (by rw [hR2]); refine (Y4H g cap l.length i vb cur (cE y) w hlt hroom (by unfold maxLen at hcm; omega) hn hg hsz hv rfl hvg _ rfl R1 R2 hR1 hR2 (fun u hu => hone u (by rw [hmid] at hu; exact List.mem_of_mem_drop hu)) (Y5E y)).mono ?_; rintro e w' ⟨rfl, rfl⟩; have hn1 := setRow_heap w.drew _ _ R1 _ _ hg; have hn2 := setRow_heap (w.drew.setRow g R1) _ _ R2 _ _ hn1; refine ⟨_, rfl, ⟨fun _ _ => trivial, R2.toList.take ((l.length + 1) * 13), ⟨?_, .inr ⟨g, cap, R2, ?_, hgb, hn2, ?_, hcm, ?_, ?_⟩⟩, ?_⟩, Y45 _ _ _ _⟩
    · rw [q2, (Y2v (w1 := w) (base1 := 0) (ok1 := fun _ => True) i hi y hrep).1]; rfl
    · rw [List.length_append, List.length_cons, List.length_take, List.length_drop, show min i l.length + (l.length - i + 1) = l.length + 1 by omega]
    · rw [List.length_append, List.length_cons, List.length_take, List.length_drop]; omega
    · rw [← Array.length_toList, q1]; rfl
    · rw [List.length_append, List.length_cons, List.length_take, List.length_drop, show min i l.length + (l.length - i + 1) = l.length + 1 by omega]; rfl
    · rw [q2]; exact Y2v i hi y hrep
end Go.Proofs.YteopkkoblbmggaaGreat.P
end
section
namespace Go.Proofs.YteopkkoblbmggaaGreat.P
open Go.RowKit Go.Proofs.YteopkkoblbmggaaGreatW.PrintWords Go.Proofs.YteopkkoblbmggaaGreatW.PrintLast Go.Proofs.YteopkkoblbmggaaGreatW.PrintMore
abbrev c13 (w : World) (d : Addr) (i : Int) (l : List S52) (t : Prop) : Prop := w.cell? (d.add (i.toNat * 13)) = some (.int .i64 ((Y1 l i).f0.f0)) ∧ w.cell? ⟨(d.add (i.toNat * 13)).block, (d.add (i.toNat * 13)).off + 1, none⟩ = some (.int .i64 ((Y1 l i).f0.f1)) ∧ w.cell? ⟨(d.add (i.toNat * 13)).block, (d.add (i.toNat * 13)).off + 2, none⟩ = some (.int .i64 ((Y1 l i).f1)) ∧ w.cell? ⟨(d.add (i.toNat * 13)).block, (d.add (i.toNat * 13)).off + 3, none⟩ = some (.int .i64 ((Y1 l i).f2.f0)) ∧ w.cell? ⟨(d.add (i.toNat * 13)).block, (d.add (i.toNat * 13)).off + 4, none⟩ = some (.int .i64 ((Y1 l i).f2.f1)) ∧ w.cell? ⟨(d.add (i.toNat * 13)).block, (d.add (i.toNat * 13)).off + 5, none⟩ = some (.bool ((Y1 l i).f3)) ∧ w.cell? ⟨(d.add (i.toNat * 13)).block, (d.add (i.toNat * 13)).off + 6, none⟩ = some (.int .i64 ((Y1 l i).f4.f0)) ∧ w.cell? ⟨(d.add (i.toNat * 13)).block, (d.add (i.toNat * 13)).off + 7, none⟩ = some (.int .i64 ((Y1 l i).f4.f1)) ∧ w.cell? ⟨(d.add (i.toNat * 13)).block, (d.add (i.toNat * 13)).off + 8, none⟩ = some (.int .i64 ((Y1 l i).f4.f2)) ∧ w.cell? ⟨(d.add (i.toNat * 13)).block, (d.add (i.toNat * 13)).off + 9, none⟩ = some (.int .i64 ((Y1 l i).f4.f3)) ∧ w.cell? ⟨(d.add (i.toNat * 13)).block, (d.add (i.toNat * 13)).off + 10, none⟩ = some (.int .i64 ((Y1 l i).f4.f4)) ∧ w.cell? ⟨(d.add (i.toNat * 13)).block, (d.add (i.toNat * 13)).off + 11, none⟩ = some (.int .i64 ((Y1 l i).f4.f5)) ∧ w.cell? ⟨(d.add (i.toNat * 13)).block, (d.add (i.toNat * 13)).off + 12, none⟩ = some (.int .i64 ((Y1 l i).f4.f6)) ∧ t
abbrev c13e (w : World) (d : Addr) (i : Int) (l : List S52) : Prop := w.cell? (d.add (i.toNat * 13)) = some (.int .i64 ((Y1 l i).f0.f0)) ∧ w.cell? ⟨(d.add (i.toNat * 13)).block, (d.add (i.toNat * 13)).off + 1, none⟩ = some (.int .i64 ((Y1 l i).f0.f1)) ∧ w.cell? ⟨(d.add (i.toNat * 13)).block, (d.add (i.toNat * 13)).off + 2, none⟩ = some (.int .i64 ((Y1 l i).f1)) ∧ w.cell? ⟨(d.add (i.toNat * 13)).block, (d.add (i.toNat * 13)).off + 3, none⟩ = some (.int .i64 ((Y1 l i).f2.f0)) ∧ w.cell? ⟨(d.add (i.toNat * 13)).block, (d.add (i.toNat * 13)).off + 4, none⟩ = some (.int .i64 ((Y1 l i).f2.f1)) ∧ w.cell? ⟨(d.add (i.toNat * 13)).block, (d.add (i.toNat * 13)).off + 5, none⟩ = some (.bool ((Y1 l i).f3)) ∧ w.cell? ⟨(d.add (i.toNat * 13)).block, (d.add (i.toNat * 13)).off + 6, none⟩ = some (.int .i64 ((Y1 l i).f4.f0)) ∧ w.cell? ⟨(d.add (i.toNat * 13)).block, (d.add (i.toNat * 13)).off + 7, none⟩ = some (.int .i64 ((Y1 l i).f4.f1)) ∧ w.cell? ⟨(d.add (i.toNat * 13)).block, (d.add (i.toNat * 13)).off + 8, none⟩ = some (.int .i64 ((Y1 l i).f4.f2)) ∧ w.cell? ⟨(d.add (i.toNat * 13)).block, (d.add (i.toNat * 13)).off + 9, none⟩ = some (.int .i64 ((Y1 l i).f4.f3)) ∧ w.cell? ⟨(d.add (i.toNat * 13)).block, (d.add (i.toNat * 13)).off + 10, none⟩ = some (.int .i64 ((Y1 l i).f4.f4)) ∧ w.cell? ⟨(d.add (i.toNat * 13)).block, (d.add (i.toNat * 13)).off + 11, none⟩ = some (.int .i64 ((Y1 l i).f4.f5)) ∧ w.cell? ⟨(d.add (i.toNat * 13)).block, (d.add (i.toNat * 13)).off + 12, none⟩ = some (.int .i64 ((Y1 l i).f4.f6))
end Go.Proofs.YteopkkoblbmggaaGreat.P
end
section
namespace Go.Proofs.YteopkkoblbmggaaGreat.P
open Go.RowKit Go.Proofs.YteopkkoblbmggaaGreatW.PrintWords Go.Proofs.YteopkkoblbmggaaGreatW.PrintLast Go.Proofs.YteopkkoblbmggaaGreatW.PrintMore
attribute [local go_sem] YW YY Y19 Y1a YM YN YX YZ
set_option linter.unusedVariables false
set_option linter.unusedSimpArgs false
attribute [local go_sem high] eqA46
def Yq.l0 : Nat → List (S52) → Int → Int → Int → Option (Int × Bool)
 | 0, _, _, _, _ => none
 | k + 1, x0, x6, x_0, x_1 => if x6 < (x0.length : Int) then (if 0 ≤ x6 then ((Y15.f ((Y1 x0 x6).f0.f0) ((Y1 x0 x6).f0.f1) x_0 x_1).bind fun t_0 => (if t_0 = true then (Yq.l0 k x0 (wrap64 (x6 + 1)) x_0 x_1) else (some (x6, (((Y1 x0 x6).f0.f0) == x_0 && (((Y1 x0 x6).f0.f1) == x_1)))))) else (none)) else (some (x6, false))
def Yq.f (k : Nat) (l0 : List (S52)) (a1_0 : Int) (a1_1 : Int) : Option (Int × Bool) := Yq.l0 k l0 0 a1_0 a1_1
theorem Yq.mono_l : ∀ k, (∀ y0 y1 y2 y3, LeO (Yq.l0 k y0 y1 y2 y3) (Yq.l0 (k + 1) y0 y1 y2 y3))
 | 0 => fun _ _ _ _ r h => by simp [Yq.l0] at h
 | k + 1 => by
  have ih0 := Yq.mono_l k
  ·intro y0 y1 y2 y3; unfold Yq.l0
   repeat' first
   | (with_reducible exact ih0 _ _ _ _)
   | (with_reducible exact LeO.refl _)
   | (with_reducible exact LeO.none _)
   | (with_reducible refine LeO.ite ?_ ?_)
   | (with_reducible refine LeO.bind ?_ (fun _ => ?_))
theorem Yq.mono : ∀ a0 a1 a2 k, LeO (Yq.f k a0 a1 a2) (Yq.f (k + 1) a0 a1 a2) := by
 intro a0 a1 a2 k; have ih0 := Yq.mono_l k; unfold Yq.f
 repeat' first
   | (with_reducible exact ih0 _ _ _ _)
   | (with_reducible exact LeO.refl _)
   | (with_reducible exact LeO.none _)
   | (with_reducible refine LeO.ite ?_ ?_)
   | (with_reducible refine LeO.bind ?_ (fun _ => ?_))
def Yq.T2 : Bool × List (List Nat × List Nat) := (true, [([], []), ([], []), ([1], [1]), ([0, 2], [0, 2]), ([3], [3]), ([4], [4]), ([4], [4]), ([5, 6, 4], [4, 5, 6]), ([7, 4], [4, 7]), ([8, 4], [4, 8]), ([4], [4]), ([9, 10, 4, 4], [4, 9, 10]), ([4, 11], [4, 11])])
def Yq.B2 : List Nat := [0, 0, 2, 7, 15, 31, 31, 127, 255, 511, 31, 2047, 4095]
theorem Yq.tab2 : rtab .any (opsOf Tryz.f32 2) = Yq.T2 := by kernel_rfl
theorem Yq.bits2 : Y1t Yq.T2.2 Yq.B2 = true := by kernel_rfl
def Yq.T4 : Bool × List (List Nat × List Nat) := (true, [([], []), ([], []), ([], []), ([2], [2]), ([1, 3], [1, 3]), ([4], [4]), ([5], [5]), ([5], [5]), ([6, 7, 5], [5, 6, 7]), ([8, 5], [5, 8]), ([9, 5], [5, 9]), ([5], [5]), ([10, 11, 5], [5, 10, 11]), ([5, 12], [5, 12]), ([0, 5, 0], [0]), ([13, 14, 0, 1, 2, 3, 4, 5, 6, 7, 8, 9, 10, 11, 12, 13, 14], [13])])
def Yq.B4 : List Nat := [0, 0, 0, 4, 14, 30, 62, 62, 254, 510, 1022, 62, 4094, 8190, 63, 32767]
theorem Yq.tab4 : rtab .any (opsOf Tryz.f32 4) = Yq.T4 := by kernel_rfl
theorem Yq.bits4 : Y1t Yq.T4.2 Yq.B4 = true := by kernel_rfl
set_option maxHeartbeats 8000000 in
set_option maxRecDepth 100000 in
theorem Yq.calls (k : Nat) (A0 : Option Addr) (c0 : Nat) (l0 : List (S52)) (a1_0 : Int) (a1_1 : Int) (r1 : Int) (r2 : Bool) (w : World) (hr0 : Kd.C k52 w A0 l0.length l0) (hc0 : l0.length ≤ c0) (h : Yq.f k l0 a1_0 a1_1 = some (r1, r2)) :
  Calls Tryz.prog 32 #[.slice A0 l0.length c0, .agg #[.int .i64 a1_0, .int .i64 a1_1]] w fun e w' => e = .returned (.tuple #[.int .i64 r1, .bool r2]) ∧ Below w.heap.size w w' := by
 have hu46 := Tryz.underlying46; have HR0 := Y0.mk hr0; have HC0 := Y0.mk hc0; clear hr0 hc0; have HB := Y0.mk (Below.refl w.heap.size w); have H : (Yq.l0 k l0 0 a1_0 a1_1) = some (r1, r2) := h; clear h; have H' := Y0.mk H; clear H; go_enter Tryz.func32, Tryz.ntmps32
 go_wp2_with (first | ((with_reducible refine Yf (N := 3) rfl ?_); refine Yi ?hg (N := 3) ?hd (cs := #[.int .i64 a1_0, .int .i64 a1_1]) (t := 46) ?hr ?_; (case hd => rfl); (case hg => rfl); (case hr => first | (go_simp; done) | (go_simp; rfl)); intro g_0 hg w3 hbox hb; have n0_ := Y0.mk (Y5 (hU HB.out) hb); have n1_ := Y0.mk (hbox); have n2_ := gE hg HB; have n3_ := gE hg HB; clear HB; have HB := n0_; have B_0 := n1_; have W_0 := n2_; have G_0 := n3_; clear n0_ n1_ n2_ n3_; clear hb hbox hg))
 go_loopg [6] k (fun kq v6 w' => ∃ (x6_1 : Int), v6 = .int .i64 x6_1 ∧ Y0 (Yq.l0 kq l0 x6_1 a1_0 a1_1 = some (r1, r2)) ∧ Y0 (kq ≤ k) ∧ Y0 (w'.heap[g_0]? = some (.cells #[.int .i64 a1_0, .int .i64 a1_1] 46 (0, 0))) ∧ Y0 (Below w.heap.size w w'))
 case atStart => exact ⟨(0), reS, H', ⟨Nat.le_refl _⟩, ⟨kB B_0⟩, ⟨hU HB.out⟩⟩
 case round =>
  clear H'; obtain ⟨x6_1, rfl, HA, HK1, B_0, HB⟩ := hrel; cases gk with
  | zero => exact absurd HA.out (by simp [Yq.l0])
  | succ k1 =>
   have H := HA.out; clear HA; simp only [Yq.l0] at H; by_cases c4 : x6_1 < (l0.length : Int)
   ·rw [if_pos c4] at H; have c4b0 := decide_eq_true c4; clear c4; obtain ⟨c5, H⟩ := iS H; have c5b0 := decide_eq_true c5; clear c5; obtain ⟨t_0, A60, H⟩ := bS H; try dsimp only at H
    have A6 := Y0.mk A60; clear A60; by_cases c7 : t_0 = true
    ·subst c7; have H1 : (Yq.l0 k1 l0 (wrap64 (x6_1 + 1)) a1_0 a1_1) = some (r1, r2) := by rw [if_pos rfl] at H; exact H
     clear H; have H := H1; clear H1; have H' := Y0.mk H; clear H; try go_wp2
     replace B_0 := Y0.mk (Y7 B_0.out); replace HB := Y0.mk (Yx HB.out); have p219 : 0 ≤ (x6_1 : Int) := of_decide_eq_true (by first | (with_reducible assumption) | assumption); have q219 : x6_1 < (l0.length : Int) := of_decide_eq_true (by first | (with_reducible assumption) | assumption); obtain ⟨d_0, e219, m_b, m_0, m_5, m_c, m_8, m_4, m_3, m_9, m_1, m_2, m_6, m_a, m_7⟩ := Y12 HR0.out x6_1 p219 q219; have q_6 := m_7; have q_7 := m_a; have q_3 := m_6; have q_2 := m_2; have q_5 := m_1; have q_4 := m_9; have q_b := m_3; have q_8 := m_4; have q_c := m_8; have q_9 := m_c; have q_a := m_5; have q_1 := m_0; have q_0 := m_b; cases e219
     replace m_b := hbC HB m_b; replace m_0 := hbC HB m_0; replace m_5 := hbC HB m_5; replace m_c := hbC HB m_c; replace m_8 := hbC HB m_8; replace m_4 := hbC HB m_4; replace m_3 := hbC HB m_3; replace m_9 := hbC HB m_9; replace m_1 := hbC HB m_1; replace m_2 := hbC HB m_2; replace m_6 := hbC HB m_6; replace m_a := hbC HB m_a; replace m_7 := hbC HB m_7; replace p219 := eq_true p219; replace q219 := eq_true q219; refine Y1c (n := 13) (S := fun w' => w'.cell? ⟨g_0, 0, none⟩ = some (.int .i64 a1_0) ∧ w'.cell? ⟨g_0, 1, none⟩ = some (.int .i64 a1_1) ∧ c13e w' d_0 x6_1 l0) (ds := []) #[false, false, false, false, false, false, false, false, false, false, false, false, false] (by kernel_rfl) rfl rfl ⟨(Y2 B_0.out 0).trans rfl, (Y2 B_0.out 1).trans rfl, (hbC HB q_0), (hbC HB q_1), (hbC HB q_a), (hbC HB q_9), (hbC HB q_c), (hbC HB q_8), (hbC HB q_b), (hbC HB q_4), (hbC HB q_5), (hbC HB q_2), (hbC HB q_3), (hbC HB q_7), (hbC HB q_6)⟩ (fun hHeld => ?_); refine YJ Yq.tab2 Yq.bits2 (fun HT_ HW_ => ?_); generalize wr.drew = w8 at B_0 HB m_b m_0 m_6 m_a m_7 m_5 m_c m_8 m_4 m_3 m_9 m_1 m_2 hHeld ⊢; refine puA 0 7 (bs 13 1) ?_; refine puA 1 8 (bs 13 3) ?_; refine puA 2 9 (bs 13 7) ?_; refine puA 3 10 (bs 13 15) ?_; refine puA 4 11 (bs 13 31) ?_; refine puA 5 12 (bs 13 63) ?_; refine puA 6 13 (bs 13 127) ?_; refine puA 7 14 (bs 13 255) ?_; refine puA 8 15 (bs 13 511) ?_; refine tkA 9 16 (bs 13 1023) hHeld ?_; refine tkA 10 17 (bs 13 2047) hHeld ?_; refine one_ (i := 11) (N := some 18) (bs 13 4095) rfl rfl (YP HT_.out (by kernel_rfl)) (by decide) (fun K hK => ?_); refine goes_ Tryz.func26 (by kernel_rfl) rfl #[.agg #[.int .i64 ((Y1 l0 x6_1).f0.f0), .int .i64 ((Y1 l0 x6_1).f0.f1)], .agg #[.int .i64 a1_0, .int .i64 a1_1]] (by rfl) rfl rfl (by (try simp only [List.map_toArray, List.map_cons, List.map_nil]); first | done | rfl | (simp only [List.length_drop, List.length_take]; rfl)) ?_; with_reducible refine (Y15.calls ((Y1 l0 x6_1).f0.f0) ((Y1 l0 x6_1).f0.f1) a1_0 a1_1 true _ A6.out).mono ?_
     rintro e w9 ⟨rfl, hb⟩; refine ⟨_, rfl, ?_⟩; replace B_0 := Y0.mk (Y3 (bU B_0.out) hb); replace HB := Y0.mk (Y5 (hU HB.out) hb); (try clear hb); refine hK.out _ _ ⟨(Y2 B_0.out 0).trans rfl, (Y2 B_0.out 1).trans rfl, (hbC HB q_0), (hbC HB q_1), (hbC HB q_a), (hbC HB q_9), (hbC HB q_c), (hbC HB q_8), (hbC HB q_b), (hbC HB q_4), (hbC HB q_5), (hbC HB q_2), (hbC HB q_3), (hbC HB q_7), (hbC HB q_6)⟩ (fun hHeld => ?_); clear hK K; refine nmA 18 ?_; refine puA 12 19 (bs 13 8191) ?_; refine done_ (Y17 HT_.out (by kernel_rfl)) ?_; try go_wp2
     go_roundg k1
     case measure => have := HK1.out; omega
     case rel => exact ⟨(wrap64 (x6_1 + 1)), reS, H', ⟨by have := HK1.out; omega⟩, ⟨kB B_0⟩, ⟨hU HB.out⟩⟩
    ·replace c7 := Bool.eq_false_iff.mpr c7; subst c7; have H1 : (some (x6_1, (((Y1 l0 x6_1).f0.f0) == a1_0 && (((Y1 l0 x6_1).f0.f1) == a1_1)))) = some (r1, r2) := by rw [if_neg (show ¬ (false = true) by decide)] at H; exact H
     clear H; have H := H1; clear H1; simp only [Option.some.injEq, Prod.mk.injEq] at H; obtain ⟨rfl, rfl⟩ := H; try go_wp2
     replace B_0 := Y0.mk (Y7 B_0.out); replace HB := Y0.mk (Yx HB.out); have p219 : 0 ≤ (x6_1 : Int) := of_decide_eq_true (by first | (with_reducible assumption) | assumption); have q219 : x6_1 < (l0.length : Int) := of_decide_eq_true (by first | (with_reducible assumption) | assumption); obtain ⟨d_0, e219, m_b, m_0, m_5, m_c, m_8, m_4, m_3, m_9, m_1, m_2, m_6, m_a, m_7⟩ := Y12 HR0.out x6_1 p219 q219; have q_6 := m_7; have q_7 := m_a; have q_3 := m_6; have q_2 := m_2; have q_5 := m_1; have q_4 := m_9; have q_b := m_3; have q_8 := m_4; have q_c := m_8; have q_9 := m_c; have q_a := m_5; have q_1 := m_0; have q_0 := m_b; cases e219
     replace m_b := hbC HB m_b; replace m_0 := hbC HB m_0; replace m_5 := hbC HB m_5; replace m_c := hbC HB m_c; replace m_8 := hbC HB m_8; replace m_4 := hbC HB m_4; replace m_3 := hbC HB m_3; replace m_9 := hbC HB m_9; replace m_1 := hbC HB m_1; replace m_2 := hbC HB m_2; replace m_6 := hbC HB m_6; replace m_a := hbC HB m_a; replace m_7 := hbC HB m_7; replace p219 := eq_true p219; replace q219 := eq_true q219; refine Y1c (n := 13) (S := fun w' => w'.cell? ⟨g_0, 0, none⟩ = some (.int .i64 a1_0) ∧ w'.cell? ⟨g_0, 1, none⟩ = some (.int .i64 a1_1) ∧ c13e w' d_0 x6_1 l0) (ds := []) #[false, false, false, false, false, false, false, false, false, false, false, false, false] (by kernel_rfl) rfl rfl ⟨(Y2 B_0.out 0).trans rfl, (Y2 B_0.out 1).trans rfl, (hbC HB q_0), (hbC HB q_1), (hbC HB q_a), (hbC HB q_9), (hbC HB q_c), (hbC HB q_8), (hbC HB q_b), (hbC HB q_4), (hbC HB q_5), (hbC HB q_2), (hbC HB q_3), (hbC HB q_7), (hbC HB q_6)⟩ (fun hHeld => ?_); refine YJ Yq.tab2 Yq.bits2 (fun HT_ HW_ => ?_); generalize wr.drew = w10 at B_0 HB m_b m_0 m_6 m_a m_7 m_5 m_c m_8 m_4 m_3 m_9 m_1 m_2 hHeld ⊢; refine puA 0 7 (bs 13 1) ?_; refine puA 1 8 (bs 13 3) ?_; refine puA 2 9 (bs 13 7) ?_; refine puA 3 10 (bs 13 15) ?_; refine puA 4 11 (bs 13 31) ?_; refine puA 5 12 (bs 13 63) ?_; refine puA 6 13 (bs 13 127) ?_; refine puA 7 14 (bs 13 255) ?_; refine puA 8 15 (bs 13 511) ?_; refine tkA 9 16 (bs 13 1023) hHeld ?_; refine tkA 10 17 (bs 13 2047) hHeld ?_; refine one_ (i := 11) (N := some 18) (bs 13 4095) rfl rfl (YP HT_.out (by kernel_rfl)) (by decide) (fun K hK => ?_); refine goes_ Tryz.func26 (by kernel_rfl) rfl #[.agg #[.int .i64 ((Y1 l0 x6_1).f0.f0), .int .i64 ((Y1 l0 x6_1).f0.f1)], .agg #[.int .i64 a1_0, .int .i64 a1_1]] (by rfl) rfl rfl (by (try simp only [List.map_toArray, List.map_cons, List.map_nil]); first | done | rfl | (simp only [List.length_drop, List.length_take]; rfl)) ?_; with_reducible refine (Y15.calls ((Y1 l0 x6_1).f0.f0) ((Y1 l0 x6_1).f0.f1) a1_0 a1_1 false _ A6.out).mono ?_
     rintro e w11 ⟨rfl, hb⟩; refine ⟨_, rfl, ?_⟩; replace B_0 := Y0.mk (Y3 (bU B_0.out) hb); replace HB := Y0.mk (Y5 (hU HB.out) hb); (try clear hb); refine hK.out _ _ ⟨(Y2 B_0.out 0).trans rfl, (Y2 B_0.out 1).trans rfl, (hbC HB q_0), (hbC HB q_1), (hbC HB q_a), (hbC HB q_9), (hbC HB q_c), (hbC HB q_8), (hbC HB q_b), (hbC HB q_4), (hbC HB q_5), (hbC HB q_2), (hbC HB q_3), (hbC HB q_7), (hbC HB q_6)⟩ (fun hHeld => ?_); clear hK K; refine nmA 18 ?_; refine puA 12 19 (bs 13 8191) ?_; refine done_ (Y17 HT_.out (by kernel_rfl)) ?_; try go_wp2
     replace B_0 := Y0.mk (Y7 B_0.out); replace HB := Y0.mk (Yx HB.out); have p221 : 0 ≤ (x6_1 : Int) := of_decide_eq_true (by first | (with_reducible assumption) | assumption); have q221 : x6_1 < (l0.length : Int) := of_decide_eq_true (by first | (with_reducible assumption) | assumption); obtain ⟨d_1, e221, m_d, m_p, m_f, m_k, m_j, m_o, m_h, m_l, m_m, m_n, m_e, m_g, m_i⟩ := Y12 HR0.out x6_1 p221 q221; have q_n := m_i; have q_h := m_g; have q_p := m_e; have q_d := m_n; have q_k := m_m; have q_e := m_l; have q_f := m_h; have q_o := m_o; have q_j := m_j; have q_i := m_k; have q_g := m_f; have q_m := m_p; have q_l := m_d; obtain rfl : d_0 = d_1 := (by injection e221); replace m_d := hbC HB m_d; replace m_p := hbC HB m_p; replace m_f := hbC HB m_f; replace m_k := hbC HB m_k; replace m_j := hbC HB m_j; replace m_o := hbC HB m_o; replace m_h := hbC HB m_h; replace m_l := hbC HB m_l; replace m_m := hbC HB m_m; replace m_n := hbC HB m_n; replace m_e := hbC HB m_e; replace m_g := hbC HB m_g; replace m_i := hbC HB m_i; replace p221 := eq_true p221; replace q221 := eq_true q221; refine Y1c (n := 16) (S := fun w' => w'.cell? ⟨g_0, 0, none⟩ = some (.int .i64 a1_0) ∧ w'.cell? ⟨g_0, 1, none⟩ = some (.int .i64 a1_1) ∧ c13e w' d_0 x6_1 l0) (ds := []) #[false, false, false, false, false, false, false, false, false, false, false, false, false, false, false, false] (by kernel_rfl) rfl rfl ⟨(Y2 B_0.out 0).trans rfl, (Y2 B_0.out 1).trans rfl, (hbC HB q_l), (hbC HB q_m), (hbC HB q_g), (hbC HB q_i), (hbC HB q_j), (hbC HB q_o), (hbC HB q_f), (hbC HB q_e), (hbC HB q_k), (hbC HB q_d), (hbC HB q_p), (hbC HB q_h), (hbC HB q_n)⟩ (fun hHeld => ?_); refine YJ Yq.tab4 Yq.bits4 (fun HT_ HW_ => ?_); generalize w11.drew = w12 at B_0 HB m_d m_p m_e m_g m_i m_f m_k m_j m_o m_h m_l m_m m_n hHeld ⊢; refine puA 0 22 (bs 16 1) ?_; refine puA 1 23 (bs 16 3) ?_; refine puA 2 24 (bs 16 7) ?_; refine puA 3 25 (bs 16 15) ?_; refine puA 4 26 (bs 16 31) ?_; refine puA 5 27 (bs 16 63) ?_; refine puA 6 28 (bs 16 127) ?_; refine puA 7 29 (bs 16 255) ?_; refine puA 8 30 (bs 16 511) ?_; refine puA 9 31 (bs 16 1023) ?_; refine puA 14 4 (bs 16 17407) ?_; refine tkA 10 32 (bs 16 18431) hHeld ?_; refine tkA 11 33 (bs 16 20479) hHeld ?_; refine puA 12 34 (bs 16 24575) ?_; refine puA 13 35 (bs 16 32767) ?_; refine puA 15 5 (bs 16 65535) ?_; refine done_ (Y17 HT_.out (by kernel_rfl)) ?_; try go_wp2
     go_ret2
     exact ⟨reT, hU HB.out⟩
   ·rw [if_neg c4] at H; have c4b0 := decide_eq_false c4; clear c4; simp only [Option.some.injEq, Prod.mk.injEq] at H; obtain ⟨rfl, rfl⟩ := H; try go_wp2
    replace B_0 := Y0.mk (Y7 B_0.out); replace HB := Y0.mk (Yx HB.out); refine Y1c (n := 13) (S := fun w' => True) (ds := []) #[false, false, false, false, false, false, false, false, false, false, false, false, false] (by kernel_rfl) rfl rfl trivial (fun hHeld => ?_); refine YJ Yq.tab2 Yq.bits2 (fun HT_ HW_ => ?_); generalize wr.drew = w13 at B_0 HB hHeld ⊢; refine puA 0 7 (bs 13 1) ?_; refine puA 1 8 (bs 13 3) ?_; refine puA 2 9 (bs 13 7) ?_; refine puA 3 10 (bs 13 15) ?_; refine puA 4 11 (bs 13 31) ?_; refine skA 5 12 (bs 13 63) ?_; refine skA 6 13 (bs 13 127) ?_; refine skA 7 14 (bs 13 255) ?_; refine skA 8 15 (bs 13 511) ?_; refine skA 9 16 (bs 13 1023) ?_; refine skA 10 17 (bs 13 2047) ?_; refine skA 11 18 (bs 13 4095) ?_; refine puA 12 19 (bs 13 8191) ?_; refine done_ (Y17 HT_.out (by kernel_rfl)) ?_; try go_wp2
    replace B_0 := Y0.mk (Y7 B_0.out); replace HB := Y0.mk (Yx HB.out); refine Y1c (n := 16) (S := fun w' => True) (ds := []) #[false, false, false, false, false, false, false, false, false, false, false, false, false, false, false, false] (by kernel_rfl) rfl rfl trivial (fun hHeld => ?_); refine YJ Yq.tab4 Yq.bits4 (fun HT_ HW_ => ?_); generalize w13.drew = w14 at B_0 HB hHeld ⊢; refine puA 0 22 (bs 16 1) ?_; refine puA 1 23 (bs 16 3) ?_; refine puA 2 24 (bs 16 7) ?_; refine puA 3 25 (bs 16 15) ?_; refine puA 4 26 (bs 16 31) ?_; refine puA 5 27 (bs 16 63) ?_; refine skA 6 28 (bs 16 127) ?_; refine skA 7 29 (bs 16 255) ?_; refine skA 8 30 (bs 16 511) ?_; refine skA 9 31 (bs 16 1023) ?_; refine skA 10 32 (bs 16 2047) ?_; refine skA 11 33 (bs 16 4095) ?_; refine skA 12 34 (bs 16 8191) ?_; refine puA 13 35 (bs 16 16383) ?_; refine puA 14 4 (bs 16 32767) ?_; refine puA 15 5 (bs 16 65535) ?_; refine done_ (Y17 HT_.out (by kernel_rfl)) ?_; try go_wp2
    go_ret2
    exact ⟨reT, hU HB.out⟩
end Go.Proofs.YteopkkoblbmggaaGreat.P
end
section
namespace Go.Proofs.YteopkkoblbmggaaGreat.P
open Go.RowKit Go.Proofs.YteopkkoblbmggaaGreatW.PrintWords Go.Proofs.YteopkkoblbmggaaGreatW.PrintLast Go.Proofs.YteopkkoblbmggaaGreatW.PrintMore
attribute [local go_sem] YW YY Y19 Y1a YM YN YX YZ
set_option linter.unusedVariables false
set_option linter.unusedSimpArgs false
theorem eqA52 (d : Nat) (w : World) (x0 y0 : Int) (x1 y1 : Int) (x2 y2 : Int) (x3 y3 : Int) (x4 y4 : Int) (x5 y5 : Bool) (x6 y6 : Int) (x7 y7 : Int) (x8 y8 : Int) (x9 y9 : Int) (x10 y10 : Int) (x11 y11 : Int) (x12 y12 : Int) :
  (Op.equalIn (d + 3) 52 (.agg #[.int .i64 x0, .int .i64 x1, .int .i64 x2, .int .i64 x3, .int .i64 x4, .bool x5, .int .i64 x6, .int .i64 x7, .int .i64 x8, .int .i64 x9, .int .i64 x10, .int .i64 x11, .int .i64 x12]) (.agg #[.int .i64 y0, .int .i64 y1, .int .i64 y2, .int .i64 y3, .int .i64 y4, .bool y5, .int .i64 y6, .int .i64 y7, .int .i64 y8, .int .i64 y9, .int .i64 y10, .int .i64 y11, .int .i64 y12])).run Tryz.prog w = .ok ((x0 == y0 && (x1 == y1)) && (x2 == y2 && ((x3 == y3 && (x4 == y4)) && (x5 == y5 && ((x6 == y6 && (x7 == y7 && (x8 == y8 && (x9 == y9 && (x10 == y10 && (x11 == y11 && (x12 == y12)))))))))))) w := by
 refine Y4B Tryz.underlying52 (by kernel_rfl) ?_; refine Y1H (by rfl) (by go_simp) (by go_simp) (eqA46 (d + 0) w _ _ _ _) ?_; refine Y1H (by rfl) (by go_simp; rfl) (by go_simp; rfl) (by go_simp) ?_; refine Y1H (by rfl) (by go_simp) (by go_simp) (eqA46 (d + 0) w _ _ _ _) ?_; refine Y1H (by rfl) (by go_simp; rfl) (by go_simp; rfl) (by go_simp) ?_; exact Y37 (by rfl) (by go_simp) (by go_simp) (eqA42 (d + 0) w _ _ _ _ _ _ _ _ _ _ _ _ _ _)
end Go.Proofs.YteopkkoblbmggaaGreat.P
end
