/- Texts of this claim in one: InsJ, JWrite; no condition. -/
import Derived.Test.YteopkkoblbmggaaYAJ
import Derived.Test.YteopkkoblbmggaaYAH
import Derived.Deep.Light
import Derived.WalkSpells
import Derived.Sort.Walk0
import Derived.Shelf.Abstract
section
set_option linter.unusedVariables false
set_option linter.unusedSimpArgs false
namespace Go.Proofs.Yteopkkoblbmggaa.P
open Go.RowKit Go.Lib Go.Proofs.YteopkkoblbmggaaW.PrintWords Go.Proofs.YteopkkoblbmggaaW.PrintLast Go.Proofs.YteopkkoblbmggaaW.PrintMore
theorem Reps_app {α : Type} {R : α → List Value → Prop} {size : Nat} {ps qs : List α} {cs ds : List Value} (h : Reps R size ps cs) (g : Reps R size qs ds) : Reps R size (ps ++ qs) (cs ++ ds) := by
  refine ⟨by rw [List.length_append, h.1, g.1, List.length_append, Nat.add_mul], fun j p hj => ?_⟩
  rcases Nat.lt_or_ge j ps.length with hl | hl
  · rw [List.getElem?_append_left hl] at hj
    have h1 : j * size + size ≤ cs.length := by rw [h.1, ← Nat.succ_mul]; exact Nat.mul_le_mul_right _ hl
    rw [List.drop_append_of_le_length (by omega), List.take_append_of_le_length (by rw [List.length_drop]; omega)]
    exact h.2 j p hj
  · rw [List.getElem?_append_right hl] at hj
    have e : j * size = cs.length + (j - ps.length) * size := by rw [h.1, ← Nat.add_mul]; congr 1; omega
    rw [e, ← List.drop_drop, List.drop_left]
    exact g.2 _ p hj
theorem Reps_take {α : Type} {R : α → List Value → Prop} {size : Nat} {ps : List α} {cs : List Value} (h : Reps R size ps cs) (i : Nat) (hi : i ≤ ps.length) : Reps R size (ps.take i) (cs.take (i * size)) := by
  refine ⟨by rw [List.length_take, List.length_take, h.1, Nat.min_eq_left hi, Nat.min_eq_left (Nat.mul_le_mul_right _ hi)], fun j p hj => ?_⟩
  have hji : j < i := by
    have := (List.getElem?_eq_some_iff.1 hj).1
    rw [List.length_take] at this
    omega
  rw [List.getElem?_take, if_pos hji] at hj
  have h1 : j * size + size ≤ i * size := by rw [← Nat.succ_mul]; exact Nat.mul_le_mul_right _ hji
  rw [List.drop_take, List.take_take, Nat.min_eq_left (by omega)]
  exact h.2 j p hj
theorem Reps_drop {α : Type} {R : α → List Value → Prop} {size : Nat} {ps : List α} {cs : List Value} (h : Reps R size ps cs) (i : Nat) : Reps R size (ps.drop i) (cs.drop (i * size)) := by
  refine ⟨by rw [List.length_drop, List.length_drop, h.1, Nat.sub_mul], fun j p hj => ?_⟩
  rw [List.getElem?_drop] at hj
  rw [List.drop_drop, ← Nat.add_mul]
  exact h.2 _ p hj
/-- The cells of an edit. -/
def cE (y : S30) : List Value := [.int .i64 y.f0.f0, .int .i64 y.f0.f1, .int .i64 y.f1, .int .i64 y.f2.f0, .int .i64 y.f2.f1, .bool y.f3, .int .i64 y.f4.f0, .int .i64 y.f4.f1, .int .i64 y.f4.f2, .int .i64 y.f4.f3, .int .i64 y.f4.f4, .int .i64 y.f4.f5, .int .i64 y.f4.f6]
theorem k30_free {w w1 : World} {base base1 : Nat} {ok ok1 : Nat → Prop} {x : S30} {cs : List Value} (h : k30.M w base ok x cs) : k30.M w1 base1 ok1 x cs := by
  rw [k30_openM h]; exact k30_mkM _ _ _ _
theorem cur_parts {cur : Array Value} {n cap i : Nat} {inner : List Value} (hsz : cur.size = cap * 13) (hnc : n ≤ cap) (hi : i ≤ n) (hin : cur.toList.take (n * 13) = inner) :
    cur.toList.take (i * 13) = inner.take (i * 13) ∧ (cur.toList.take (n * 13)).drop (i * 13) = inner.drop (i * 13) := by
  subst hin
  exact ⟨by rw [List.take_take, Nat.min_eq_left (by omega)], rfl⟩
theorem row_shift {cur : List Value} {n cap i : Nat} {ec mid inner R1 R2 : List Value} (hec : ec.length = 13) (hsz : cur.length = cap * 13) (hi : i < n) (hroom : n + 1 ≤ cap) (hin : cur.take (n * 13) = inner) (hmid : mid = inner.drop (i * 13))
    (hR1 : R1 = cur.take ((i + 1) * 13) ++ mid ++ cur.drop ((i + 1) * 13 + mid.length)) (hR2 : R2 = R1.take (i * 13) ++ ec ++ R1.drop (i * 13 + ec.length)) :
    R2.length = cap * 13 ∧ R2.take ((n + 1) * 13) = inner.take (i * 13) ++ (ec ++ inner.drop (i * 13)) := by
  have hil : inner.length = n * 13 := by rw [← hin, List.length_take]; omega
  have hml : mid.length = (n - i) * 13 := by rw [hmid, List.length_drop, hil]; omega
  have h1l : (cur.take ((i + 1) * 13)).length = (i + 1) * 13 := by rw [List.length_take]; omega
  have e1 : R1.take (i * 13) = inner.take (i * 13) := by
    rw [hR1, List.append_assoc, List.take_append_of_le_length (by omega), List.take_take, Nat.min_eq_left (by omega), ← hin, List.take_take, Nat.min_eq_left (by omega)]
  have e2 : R1.drop (i * 13 + ec.length) = mid ++ cur.drop ((i + 1) * 13 + mid.length) := by
    rw [hR1, List.append_assoc, show i * 13 + ec.length = (cur.take ((i + 1) * 13)).length by omega, List.drop_left]
  rw [e1, e2, hmid] at hR2
  have hl : (inner.take (i * 13)).length = i * 13 := by rw [List.length_take]; omega
  refine ⟨?_, ?_⟩
  · rw [hR2, List.length_append, List.length_append, List.length_append, hl, hec, ← hmid, hml, List.length_drop, hsz]; omega
  · rw [hR2, ← List.append_assoc, List.take_append_of_le_length (by rw [List.length_append, List.length_append, hl, hec, ← hmid, hml]; omega), List.take_of_length_le (by rw [List.length_append, List.length_append, hl, hec, ← hmid, hml]; omega), List.append_assoc]
theorem row_grow {cur Z : List Value} {n cap i G : Nat} {ec mid inner R1 R2 ROW : List Value} (hec : ec.length = 13) (hsz : cur.length = cap * 13) (hi : i < n) (hnc : n ≤ cap) (hin : cur.take (n * 13) = inner) (hmid : mid = inner.drop (i * 13))
    (hROW : ROW = cur.take (i * 13) ++ Z) (hRl : ROW.length = G * 13) (hG : n + 1 ≤ G)
    (hR1 : R1 = ROW.take (i * 13) ++ ec ++ ROW.drop (i * 13 + ec.length)) (hR2 : R2 = R1.take ((i + 1) * 13) ++ mid ++ R1.drop ((i + 1) * 13 + mid.length)) :
    R2.length = G * 13 ∧ R2.take ((n + 1) * 13) = inner.take (i * 13) ++ (ec ++ inner.drop (i * 13)) := by
  have hil : inner.length = n * 13 := by rw [← hin, List.length_take]; omega
  have hml : mid.length = (n - i) * 13 := by rw [hmid, List.length_drop, hil]; omega
  have hl : (inner.take (i * 13)).length = i * 13 := by rw [List.length_take]; omega
  have e0 : ROW.take (i * 13) = inner.take (i * 13) := by
    have : (cur.take (i * 13)).length = i * 13 := by rw [List.length_take]; omega
    rw [hROW, List.take_append_of_le_length (by omega), List.take_take, Nat.min_self, ← hin, List.take_take, Nat.min_eq_left (by omega)]
  rw [e0] at hR1
  have e1 : R1.take ((i + 1) * 13) = inner.take (i * 13) ++ ec := by
    rw [hR1, List.take_append_of_le_length (by rw [List.length_append, hl, hec]; omega), List.take_of_length_le (by rw [List.length_append, hl, hec]; omega)]
  have h1l : R1.length = G * 13 := by rw [hR1, List.length_append, List.length_append, hl, hec, List.length_drop, hRl]; omega
  rw [e1, hmid] at hR2
  refine ⟨?_, ?_⟩
  · rw [hR2, List.length_append, List.length_append, List.length_append, hl, hec, ← hmid, hml, List.length_drop, h1l]; omega
  · rw [hR2, List.take_append_of_le_length (by rw [List.length_append, List.length_append, hl, hec, ← hmid, hml]; omega), List.take_of_length_le (by rw [List.length_append, List.length_append, hl, hec, ← hmid, hml]; omega), List.append_assoc]
theorem reps_ins {w w1 : World} {base base1 : Nat} {ok ok1 : Nat → Prop} {l : List S30} {inner : List Value} (i : Nat) (hi : i ≤ l.length) (y : S30) (h : Reps (k30.M w base ok) 13 l inner) :
    Reps (k30.M w1 base1 ok1) 13 (l.take i ++ y :: l.drop i) (inner.take (i * 13) ++ (cE y ++ inner.drop (i * 13))) := by
  have h1 : Reps (k30.M w1 base1 ok1) 13 l inner := h.imp_ (fun _ _ hp => k30_free hp)
  refine Reps_app (Reps_take h1 i hi) (Reps_app (ps := [y]) (cs := cE y) ?_ (Reps_drop h1 i))
  have := Reps.snoc (Reps.none (k30.M w1 base1 ok1) 13) (k30_mkM w1 base1 ok1 y) (by rfl)
  exact this
theorem one_cE (y : S30) : ∀ v ∈ cE y, v.oneCell' = true := by
  intro v hv
  simp [cE] at hv
  rcases hv with h | h | h | h | h | h | h | h | h | h | h | h | h <;> rw [h] <;> rfl
theorem one_inner {w : World} {base : Nat} {ok : Nat → Prop} {l : List S30} {inner : List Value} (h : Reps (k30.M w base ok) 13 l inner) : ∀ v ∈ inner, v.oneCell' = true := by
  intro v hv
  obtain ⟨j, hj, rfl⟩ := List.getElem_of_mem hv
  have h0 : 0 < 13 := by decide
  have hl := h.1
  have hq : j / 13 < l.length := by rw [Nat.div_lt_iff_lt_mul h0]; omega
  have hp := h.2 (j / 13) _ (List.getElem?_eq_getElem hq)
  refine k30.K_one (k30.K_of_M hp) _ ?_
  have hm : j % 13 < 13 := Nat.mod_lt _ h0
  have he : j / 13 * 13 + j % 13 = j := Nat.div_add_mod' j 13
  rw [List.mem_iff_getElem]
  have hlen : j % 13 < ((inner.drop (j / 13 * 13)).take 13).length := by rw [List.length_take, List.length_drop]; omega
  refine ⟨j % 13, hlen, ?_⟩
  rw [List.getElem_take, List.getElem_drop]
  simp only [he]
theorem setRow_far (w : World) (g k : Nat) (R : Array Value) (h : g ≠ k) : (w.setRow g R).heap[k]? = w.heap[k]? := by
  unfold World.setRow
  simp only [Array.getElem?_modify, if_neg h]
theorem grown_rows (w : World) (g : Nat) (R1 R2 : Array Value) : w.grownBy ((w.drew.setRow g R1).setRow g R2) (some g) := by
  refine ⟨rfl, rfl, rfl, ?_, fun k hk hne => ?_⟩
  · rw [setRow_size, setRow_size]; exact Nat.le_refl _
  · have : g ≠ k := fun e => hne (by rw [e])
    rw [setRow_far _ _ _ _ this, setRow_far _ _ _ _ this]; rfl
theorem grown_new (w : World) (o : Obj) (R1 R2 : Array Value) (row : Option Nat) : w.grownBy ((((w.drew.alloc o).setRow w.heap.size R1).drew).setRow w.heap.size R2) row := by
  refine ⟨rfl, rfl, rfl, ?_, fun k hk hne => ?_⟩
  · rw [setRow_size]
    show _ ≤ ((w.drew.alloc o).setRow w.heap.size R1).heap.size
    rw [setRow_size, World.size_alloc]
    exact Nat.le_succ _
  · rw [setRow_far _ _ _ _ (by omega)]
    show ((w.drew.alloc o).setRow w.heap.size R1).heap[k]? = _
    rw [setRow_far _ _ _ _ (by omega)]
    show (w.heap.push o)[k]? = _
    rw [Array.getElem?_push, if_neg (by omega)]
theorem grown_below {base : Nat} {w0 w w1 : World} {row : Option Nat} (hb : Below base w0 w) (hg : w.grownBy w1 row) (hbase : base ≤ w.heap.size) (hr : ∀ k, row = some k → base ≤ k) : Below base w0 w1 := hb.grown hg hbase hr
set_option maxHeartbeats 8000000 in
set_option maxRecDepth 100000 in
/-- At the end: an append. -/
theorem ins_end (base : Nat) (l : List S30) (y : S30) (v : Value) (vb : Nat) (w : World) (hn : l.length ≤ 1000000) (hr : Kd.R k30 30 w base (fun _ => True) v l) (hbase : base ≤ w.heap.size)
    (hv : w.heap[vb]? = some (.cells (cE y).toArray 30 (0, 0))) :
    Calls Try.prog 58 #[v, .int .i64 l.length, .slice (some ⟨vb, 0, none⟩) 1 1] w fun e w' =>
      ∃ v', e = .returned v' ∧ Kd.R k30 30 w' base (fun _ => True) v' (l ++ [y]) ∧ w.grownBy w' v.ownBlock := by
  have hus := Try.underlying22
  have HR := Aside0.mk hr
  have HN := Aside0.mk hn
  have HBS := Aside0.mk hbase
  have HY : Aside0 (Kd.C k30 w (some ⟨vb, 0, none⟩) 1 [y]) := ⟨⟨rfl, by decide, fun _ => ⟨⟨vb, 0, none⟩, rfl, fun j p hj => by
    cases j with
    | zero =>
      obtain rfl : y = p := by simpa using hj
      refine ⟨cE y, rfl, k30_mk w y, fun i u hu => ?_⟩
      rw [Addr.add_lit]
      refine (blk_cell hv _).trans ?_
      simpa using hu
    | succ j => simp at hj⟩⟩⟩
  obtain ⟨A, c, rfl, hlc, hC⟩ := Kd.R_reads hr
  clear hr hn hbase hC hv
  have hob : (Value.slice A l.length c).ownBlock = A.map (·.block) := by cases A <;> rfl
  have HOB := Aside0.mk hob
  clear hob
  rw [HOB.out]
  obtain ⟨ob, hob⟩ : ∃ ob, ob = A.map (·.block) := ⟨_, rfl⟩
  rw [← hob]
  rw [← hob] at HOB
  clear hob
  go_enter Try.func58, Try.ntmps58
  go_wp2_with (at_builtin; refine Kd.R_append_rows k30 (w0 := w) base rfl (.tmp 23) (.tmp 24) 22 30 (.agg #[(.int .i64 0), (.int .i64 0), (.int .i64 0), (.int .i64 0), (.int .i64 0), (.bool false), (.int .i64 0), (.int .i64 0), (.int .i64 0), (.int .i64 0), (.int .i64 0), (.int .i64 0), (.int .i64 0)]) 104 rfl Try.underlying22 info30 rfl (by decide) (by omega) _ l [y] (some ⟨vb, 0, none⟩) 1 1 (fun _ => True) (fun _ => False) rfl rfl HR.out HY.out (fun _ _ h => h) (fun _ h => h.elim) (fun _ _ => trivial) (Below.refl _ _) HBS.out (by have := HN.out; omega) ?_; intro v2 w2 ho hb hg_ hnew_; have HO2 := Aside0.mk ho; have HG2 : Aside0 (w.grownBy w2 ob) := ⟨by rw [← HOB.out]; exact hg_⟩; clear ho hb hg_ hnew_)
  all_goals
    go_ret
    exact ⟨_, rfl, HO2.out, HG2.out⟩
/-- slices.Insert of one edit. -/
theorem ins_calls (base : Nat) (i : Nat) (l : List S30) (y : S30) (v : Value) (vb : Nat) (w : World) (hn : l.length ≤ 1000000) (hi : i ≤ l.length) (hr : Kd.R k30 30 w base (fun _ => True) v l) (hbase : base ≤ w.heap.size)
    (hv : w.heap[vb]? = some (.cells (cE y).toArray 30 (0, 0))) (hne : some vb ≠ v.ownBlock) :
    Calls Try.prog 58 #[v, .int .i64 i, .slice (some ⟨vb, 0, none⟩) 1 1] w fun e w' =>
      ∃ v', e = .returned v' ∧ Kd.R k30 30 w' base (fun _ => True) v' (l.take i ++ y :: l.drop i) ∧ w.grownBy w' v.ownBlock := by
  rcases Nat.lt_or_ge i l.length with hlt | hge
  rotate_left
  · obtain rfl : i = l.length := Nat.le_antisymm hi hge
    rw [List.take_length, List.drop_length]
    exact ins_end base l y v vb w hn hr hbase hv
  have hr0 := hr
  obtain ⟨hok, inner, ⟨hil, hown⟩, hrep⟩ := hr
  rcases hown with ⟨rfl, h0⟩ | ⟨g, cap, cur, rfl, hgb, hg, hnc, hcm, hsz, hin⟩
  · omega
  have hvg : vb ≠ g := fun e => hne (by rw [e]; rfl)
  have hone := one_inner hrep
  have hc13 : cur.toList.length = cap * 13 := by rw [Array.length_toList]; exact hsz
  rw [show k30.sz = 13 from rfl] at hsz hin hil
  rcases Nat.lt_or_ge cap (l.length + 1) with hroom | hroom
  · obtain ⟨G, hG⟩ : ∃ G, G = grownCap w (l.length + 1) cap 30 := ⟨_, rfl⟩
    have hGn : l.length + 1 ≤ G := by rw [hG]; exact grownCap_ge w _ _ _
    have hGm : G ≤ maxLen := by rw [hG]; exact grownCap_le_maxLen w (l.length + 1) cap 30 (by unfold maxLen; omega)
    obtain ⟨ROW, hROW⟩ : ∃ ROW, ROW = (cur.toList.take (i * 13)).toArray ++ Builtin.zeroCells z30v.cells (l.length + 1 - i) ++ Builtin.zeroCells z30v.cells (G - (l.length + 1)) := ⟨_, rfl⟩
    obtain ⟨R1, hR1⟩ : ∃ R1, R1 = (ROW.toList.take (i * 13) ++ cE y ++ ROW.toList.drop (i * 13 + (cE y).length)).toArray := ⟨_, rfl⟩
    obtain ⟨R2, hR2⟩ : ∃ R2, R2 = (R1.toList.take ((i + 1) * 13) ++ (cur.toList.take (l.length * 13)).drop (i * 13) ++ R1.toList.drop ((i + 1) * 13 + ((cur.toList.take (l.length * 13)).drop (i * 13)).length)).toArray := ⟨_, rfl⟩
    have hmid : (cur.toList.take (l.length * 13)).drop (i * 13) = inner.drop (i * 13) := by rw [hin]
    have hRs : ROW.size = G * 13 := by
      rw [hROW]
      simp only [Array.size_append, Builtin.zeroCells, Array.size_map, Array.size_range, List.size_toArray, List.length_take, Array.length_toList, z30v_size, hsz]
      omega
    obtain ⟨q1, q2⟩ := row_grow (cur := cur.toList) (Z := (Builtin.zeroCells z30v.cells (l.length + 1 - i) ++ Builtin.zeroCells z30v.cells (G - (l.length + 1))).toList) (ec := cE y) (mid := (cur.toList.take (l.length * 13)).drop (i * 13)) (R1 := R1.toList) (R2 := R2.toList) (ROW := ROW.toList) rfl hc13 hlt hnc hin hmid
      (by rw [hROW]; simp) (by rw [Array.length_toList]; exact hRs) hGn (by rw [hR1]) (by rw [hR2])
    refine (ins_grow g cap l.length i vb cur (cE y) w hlt hnc hroom hn hg hsz hv rfl _ rfl G hG ROW R1 R2 hROW hR1 hR2 (fun u hu => hone u (by rw [hmid] at hu; exact List.mem_of_mem_drop hu)) (one_cE y)).mono ?_
    rintro e w' ⟨rfl, rfl⟩
    have hn0 : (w.drew.alloc (.cells ROW 30)).heap[w.heap.size]? = some (.cells ROW 30 (0, 0)) := blk_new w.drew _
    have hn1 := setRow_heap _ _ _ R1 _ _ hn0
    have hn2 := setRow_heap (((w.drew.alloc (.cells ROW 30)).setRow w.heap.size R1).drew) _ _ R2 _ _ hn1
    refine ⟨_, rfl, ⟨fun _ _ => trivial, R2.toList.take ((l.length + 1) * 13), ⟨?_, .inr ⟨w.heap.size, G, R2, ?_, hbase, hn2, ?_, hGm, ?_, ?_⟩⟩, ?_⟩, grown_new _ _ _ _ _⟩
    · rw [q2, (reps_ins (w1 := w) (base1 := 0) (ok1 := fun _ => True) i hi y hrep).1]; rfl
    · rw [List.length_append, List.length_cons, List.length_take, List.length_drop, show min i l.length + (l.length - i + 1) = l.length + 1 by omega]
    · rw [List.length_append, List.length_cons, List.length_take, List.length_drop]; omega
    · rw [← Array.length_toList, q1]; rfl
    · rw [List.length_append, List.length_cons, List.length_take, List.length_drop, show min i l.length + (l.length - i + 1) = l.length + 1 by omega]; rfl
    · rw [q2]; exact reps_ins i hi y hrep
  · obtain ⟨R1, hR1⟩ : ∃ R1, R1 = (cur.toList.take ((i + 1) * 13) ++ (cur.toList.take (l.length * 13)).drop (i * 13) ++ cur.toList.drop ((i + 1) * 13 + ((cur.toList.take (l.length * 13)).drop (i * 13)).length)).toArray := ⟨_, rfl⟩
    obtain ⟨R2, hR2⟩ : ∃ R2, R2 = (R1.toList.take (i * 13) ++ cE y ++ R1.toList.drop (i * 13 + (cE y).length)).toArray := ⟨_, rfl⟩
    have hmid : (cur.toList.take (l.length * 13)).drop (i * 13) = inner.drop (i * 13) := by rw [hin]
    obtain ⟨q1, q2⟩ := row_shift (cur := cur.toList) (ec := cE y) (mid := (cur.toList.take (l.length * 13)).drop (i * 13)) (R1 := R1.toList) (R2 := R2.toList) rfl hc13 hlt hroom hin hmid (by rw [hR1]) (by rw [hR2])
    refine (ins_shift g cap l.length i vb cur (cE y) w hlt hroom (by unfold maxLen at hcm; omega) hn hg hsz hv rfl hvg _ rfl R1 R2 hR1 hR2 (fun u hu => hone u (by rw [hmid] at hu; exact List.mem_of_mem_drop hu)) (one_cE y)).mono ?_
    rintro e w' ⟨rfl, rfl⟩
    have hn1 := setRow_heap w.drew _ _ R1 _ _ hg
    have hn2 := setRow_heap (w.drew.setRow g R1) _ _ R2 _ _ hn1
    refine ⟨_, rfl, ⟨fun _ _ => trivial, R2.toList.take ((l.length + 1) * 13), ⟨?_, .inr ⟨g, cap, R2, ?_, hgb, hn2, ?_, hcm, ?_, ?_⟩⟩, ?_⟩, grown_rows _ _ _ _⟩
    · rw [q2, (reps_ins (w1 := w) (base1 := 0) (ok1 := fun _ => True) i hi y hrep).1]; rfl
    · rw [List.length_append, List.length_cons, List.length_take, List.length_drop, show min i l.length + (l.length - i + 1) = l.length + 1 by omega]
    · rw [List.length_append, List.length_cons, List.length_take, List.length_drop]; omega
    · rw [← Array.length_toList, q1]; rfl
    · rw [List.length_append, List.length_cons, List.length_take, List.length_drop, show min i l.length + (l.length - i + 1) = l.length + 1 by omega]; rfl
    · rw [q2]; exact reps_ins i hi y hrep
end Go.Proofs.Yteopkkoblbmggaa.P
end
section
set_option linter.unusedVariables false
set_option linter.unusedSimpArgs false
namespace Go.Proofs.Yteopkkoblbmggaa.P
open Go.RowKit Go.Shelf Go.Proofs.YteopkkoblbmggaaW.PrintWords Go.Proofs.YteopkkoblbmggaaW.PrintLast Go.Proofs.YteopkkoblbmggaaW.PrintMore
/-- What written says of the edits from number i on, behind what is written. -/
def wrP (k : Nat) (kp : Nat → Bool) : Nat → List S30 → List Int → Option (List Int × Int)
  | _, [], out => some (out, 0)
  | i, x :: t, out => if kp i = true then (journal_Append.f k out x.f0.f0 x.f0.f1 x.f1 x.f2.f0 x.f2.f1 x.f3 x.f4.f0 x.f4.f1 x.f4.f2 x.f4.f3 x.f4.f4 x.f4.f5 x.f4.f6).bind fun r => if r.2 = 0 then wrP k kp (i + 1) t r.1 else some ([], r.2) else wrP k kp (i + 1) t out
theorem append_mono (k : Nat) (out : List Int) (x : S30) : LeO (journal_Append.f k out x.f0.f0 x.f0.f1 x.f1 x.f2.f0 x.f2.f1 x.f3 x.f4.f0 x.f4.f1 x.f4.f2 x.f4.f3 x.f4.f4 x.f4.f5 x.f4.f6) (journal_Append.f (k + 1) out x.f0.f0 x.f0.f1 x.f1 x.f2.f0 x.f2.f1 x.f3 x.f4.f0 x.f4.f1 x.f4.f2 x.f4.f3 x.f4.f4 x.f4.f5 x.f4.f6) := journal_Append.mono _ _ _ _ _ _ _ _ _ _ _ _ _ _ k
theorem wrP_mono (k : Nat) (kp : Nat → Bool) : ∀ (l : List S30) (i : Nat) (out : List Int), LeO (wrP k kp i l out) (wrP (k + 1) kp i l out)
  | [], i, out => fun r h => h
  | x :: t, i, out => fun r h => by
    unfold wrP at h ⊢
    by_cases hk : kp i = true
    · rw [if_pos hk] at h ⊢
      obtain ⟨a, ha, h2⟩ := Option.bind_eq_some_iff.mp h
      rw [append_mono k out x a ha, Option.bind_some]
      by_cases hz : a.2 = 0
      · rw [if_pos hz] at h2 ⊢
        exact wrP_mono k kp t (i + 1) a.1 r h2
      · rw [if_neg hz] at h2 ⊢
        exact h2
    · rw [if_neg hk] at h ⊢
      exact wrP_mono k kp t (i + 1) out r h
/-- The replica's error, or what is written. -/
def wrA (k : Nat) (kp : Nat → Bool) (d : Int) (l : List S30) : Option (List Int × Int) :=
  if ∀ e ∈ l, okE30 e then (if rchkP d l = 0 then wrP k kp 0 l [] else some ([], rchkP d l)) else none
theorem wrA_mono (k : Nat) (kp : Nat → Bool) (d : Int) (l : List S30) : LeO (wrA k kp d l) (wrA (k + 1) kp d l) := fun r h => by
  unfold wrA at h ⊢
  split at h
  · rename_i hv
    rw [if_pos hv]
    split at h
    · rename_i hz
      rw [if_pos hz]
      exact wrP_mono k kp l 0 [] r h
    · rename_i hz
      rw [if_neg hz]
      exact h
  · cases h
theorem rchk_len2 {d : Int} {l : List S30} (h : rchkP d l = 0) : l.length ≤ 512 := by
  unfold rchkP at h
  split at h
  · cases h
  · split at h
    · cases h
    · omega
set_option maxHeartbeats 16000000 in
set_option maxRecDepth 100000 in
theorem written_calls (gf : FuncId) (eg : ∀ args w, (callFunc gf args).run Try.prog w = .ok (.enter gf args) w) (cb : Array Value) (k : Nat) (kp : Nat → Bool) (a0 : Int) (A1 : Option Addr) (c1 : Nat) (l1 : List S30) (r0 : List Int) (r1 : Int) (w : World) (hr1 : Kd.C k30 w A1 l1.length l1) (hc1 : l1.length ≤ c1)
    (hf : ∀ W, Below w.heap.size w W → ∀ i (h : i < l1.length), Calls Try.prog gf (#[.int .i64 i, .agg (cE (l1[i]'h)).toArray] ++ cb) W fun e W' => e = .returned (.bool (kp i)) ∧ Below W.heap.size W W')
    (h : wrA k kp a0 l1 = some (r0, r1)) :
    Calls Try.prog 90 #[.agg #[.int .i64 a0, .slice A1 l1.length c1], .func (.func gf) #[] cb] w fun e w' => ∃ v0_ : Value, e = .returned (.tuple #[v0_, .int .i64 r1]) ∧ Kd.R (Kd.int .u8) 5 w' w.heap.size (fun _ => True) v0_ r0 ∧ Below w.heap.size w w' := by
  unfold wrA at h
  by_cases hv : ∀ e ∈ l1, okE30 e
  rotate_left
  · rw [if_neg hv] at h; cases h
  rw [if_pos hv] at h
  have HR := Aside0.mk hr1
  have HC := Aside0.mk hc1
  have HF := Aside0.mk hf
  have HB := Aside0.mk (Below.refl w.heap.size w)
  have hu24 := Try.underlying24
  have hu30 := Try.underlying30
  obtain ⟨cv, hcv⟩ : ∃ c, rchkP a0 l1 = c := ⟨_, rfl⟩
  have HQ : Aside0 (replica_Check.f a0 l1 = some cv) := ⟨by unfold replica_Check.f; rw [if_pos hv, hcv]⟩
  rw [hcv] at h
  by_cases hz : cv = 0
  rotate_left
  · rw [if_neg hz] at h
    simp only [Option.some.injEq, Prod.mk.injEq] at h
    obtain ⟨rfl, rfl⟩ := h
    have hz2 : (cv != 0) = true := by simp; exact hz
    clear hr1 hc1 hv hcv hz hf eg
    go_enter Try.func90, Try.ntmps90
    go_wp2_with (first | ((with_reducible refine gate_dst (N := 2) rfl ?_); refine box_event ?hg (N := 2) ?hd (cs := #[.int .i64 a0, .slice A1 l1.length c1]) (t := 24) ?hr ?_; (case hd => rfl); (case hg => rfl); (case hr => first | (go_simp; done) | (go_simp; rfl)); intro g2 hg W2 hbox hb; replace HB := Aside0.mk (below_step (hU HB.out) hb); have B2 := Aside0.mk hbox; clear hb hbox hg; have hc2 := blk_cell B2.out) | ((with_reducible refine gate_callee (f := 29) rfl ?_); refine goesL_ (some 13) rfl rfl Try.func29 (by kernel_rfl) rfl #[.agg #[.int .i64 a0, .slice A1 l1.length c1]] rfl (by (try simp only [List.map_toArray, List.map_cons, List.map_nil]); first | done | (go_simp; done) | rfl) ?_; refine (replica_Check.calls a0 A1 c1 l1 _ _ (Kd.C_below HR.out (hU HB.out)) HC.out HQ.out).mono ?_; rintro e w2 ⟨rfl, hb⟩; refine ⟨_, rfl, ?_⟩; replace B2 := Aside0.mk (blk_below (bU B2.out) hb); replace HB := Aside0.mk (below_step (hU HB.out) hb); clear hb hc2; have hc2 := blk_cell B2.out))
    (try rw [Exit.noGoto_ret])
    go_ret2
    exact ⟨_, rfl, Kd.R_nil _ _ _ _ _, hU HB.out⟩
  subst hz
  rw [if_pos rfl] at h
  have HL := Aside0.mk (rchk_len2 hcv)
  have HX := Aside0.mk h
  clear hr1 hc1 hv hcv hf h
  go_enter Try.func90, Try.ntmps90
  go_wp2_with (first | ((with_reducible refine gate_dst (N := 2) rfl ?_); refine box_event ?hg (N := 2) ?hd (cs := #[.int .i64 a0, .slice A1 l1.length c1]) (t := 24) ?hr ?_; (case hd => rfl); (case hg => rfl); (case hr => first | (go_simp; done) | (go_simp; rfl)); intro g2 hg W2 hbox hb; replace HB := Aside0.mk (below_step (hU HB.out) hb); have B2 := Aside0.mk hbox; clear hb hbox hg; have hc2 := blk_cell B2.out) | ((with_reducible refine gate_callee (f := 29) rfl ?_); refine goesL_ (some 13) rfl rfl Try.func29 (by kernel_rfl) rfl #[.agg #[.int .i64 a0, .slice A1 l1.length c1]] rfl (by (try simp only [List.map_toArray, List.map_cons, List.map_nil]); first | done | (go_simp; done) | rfl) ?_; refine (replica_Check.calls a0 A1 c1 l1 _ _ (Kd.C_below HR.out (hU HB.out)) HC.out HQ.out).mono ?_; rintro e w2 ⟨rfl, hb⟩; refine ⟨_, rfl, ?_⟩; replace B2 := Aside0.mk (blk_below (bU B2.out) hb); replace HB := Aside0.mk (below_step (hU HB.out) hb); clear hb hc2; have hc2 := blk_cell B2.out))
  go_loopg [7, 20] l1.length (fun kq v7 v20 W => ∃ (i : Nat) (out : List Int) (Ao : Option Addr) (co : Nat), v7 = .slice Ao out.length co ∧ v20 = .int .i64 (i : Int) ∧ Aside0 (i + kq = l1.length) ∧ Aside0 (wrP k kp i (l1.drop i) out = some (r0, r1)) ∧ Aside0 (Kd.R (Kd.int .u8) 5 W w.heap.size (fun _ => True) (.slice Ao out.length co) out) ∧ Aside0 (Below w.heap.size w W))
  case atStart => exact ⟨0, [], none, 0, rfl, rfl, ⟨by omega⟩, ⟨by rw [List.drop_zero]; exact HX.out⟩, ⟨Kd.R_nil _ _ _ _ _⟩, HB⟩
  case round =>
    clear HB B2 hc2 HX
    obtain ⟨i, out, Ao, co, rfl, rfl, HK, HX, HO, HB⟩ := hrel
    cases gk with
    | zero =>
      have hi : i = l1.length := by have := HK.out; omega
      have hlt : decide (i < l1.length) = false := by simp; omega
      have hx := HX.out
      rw [hi, List.drop_length] at hx
      simp only [wrP, Option.some.injEq, Prod.mk.injEq] at hx
      obtain ⟨rfl, rfl⟩ := hx
      clear hi HX
      go_wp2
      go_ret2
      exact ⟨_, rfl, HO.out, hU HB.out⟩
    | succ k1 =>
      have hi : i < l1.length := by have := HK.out; omega
      have hlt : decide (i < l1.length) = true := by simp; exact hi
      obtain ⟨adx, e0x, hx0, hx1, hx2, hx3, hx4, hx5, hx6, hx7, hx8, hx9, hx10, hx11, hx12⟩ := at_T30 HR.out (i : Int) (by omega) (by omega)
      cases e0x
      rw [Int.toNat_natCast] at hx0 hx1 hx2 hx3 hx4 hx5 hx6 hx7 hx8 hx9 hx10 hx11 hx12
      rw [rd30_at hi] at hx0 hx1 hx2 hx3 hx4 hx5 hx6 hx7 hx8 hx9 hx10 hx11 hx12
      replace hx0 := (HB.out.cell (World.block_lt_of_cell? w _ hx0)).trans hx0
      replace hx1 := (HB.out.cell (World.block_lt_of_cell? w _ hx1)).trans hx1
      replace hx2 := (HB.out.cell (World.block_lt_of_cell? w _ hx2)).trans hx2
      replace hx3 := (HB.out.cell (World.block_lt_of_cell? w _ hx3)).trans hx3
      replace hx4 := (HB.out.cell (World.block_lt_of_cell? w _ hx4)).trans hx4
      replace hx5 := (HB.out.cell (World.block_lt_of_cell? w _ hx5)).trans hx5
      replace hx6 := (HB.out.cell (World.block_lt_of_cell? w _ hx6)).trans hx6
      replace hx7 := (HB.out.cell (World.block_lt_of_cell? w _ hx7)).trans hx7
      replace hx8 := (HB.out.cell (World.block_lt_of_cell? w _ hx8)).trans hx8
      replace hx9 := (HB.out.cell (World.block_lt_of_cell? w _ hx9)).trans hx9
      replace hx10 := (HB.out.cell (World.block_lt_of_cell? w _ hx10)).trans hx10
      replace hx11 := (HB.out.cell (World.block_lt_of_cell? w _ hx11)).trans hx11
      replace hx12 := (HB.out.cell (World.block_lt_of_cell? w _ hx12)).trans hx12
      have q0 : (0 ≤ ((i : Nat) : Int)) = True := by simp
      have q1 : (((i : Nat) : Int) < (l1.length : Int)) = True := by simp; exact hi
      have hx := HX.out
      rw [List.drop_eq_getElem_cons hi] at hx
      have hcall := fun W hb => HF.out W hb i hi
      generalize l1[i]'hi = x at hx0 hx1 hx2 hx3 hx4 hx5 hx6 hx7 hx8 hx9 hx10 hx11 hx12 hx hcall
      have HI := Aside0.mk hi
      have HCL := Aside0.mk hcall
      have HX2 := Aside0.mk hx
      clear hi hcall hx HX
      go_upto_region 8 with (fail)
      have HB1 : Aside0 (Below w.heap.size w (wr.alloc (.cells #[.int .i64 x.f0.f0, .int .i64 x.f0.f1, .int .i64 x.f1, .int .i64 x.f2.f0, .int .i64 x.f2.f1, .bool x.f3, .int .i64 x.f4.f0, .int .i64 x.f4.f1, .int .i64 x.f4.f2, .int .i64 x.f4.f3, .int .i64 x.f4.f4, .int .i64 x.f4.f5, .int .i64 x.f4.f6] 30))) := ⟨below_alloc HB.out _⟩
      have B9 : Aside0 ((wr.alloc (.cells #[.int .i64 x.f0.f0, .int .i64 x.f0.f1, .int .i64 x.f1, .int .i64 x.f2.f0, .int .i64 x.f2.f1, .bool x.f3, .int .i64 x.f4.f0, .int .i64 x.f4.f1, .int .i64 x.f4.f2, .int .i64 x.f4.f3, .int .i64 x.f4.f4, .int .i64 x.f4.f5, .int .i64 x.f4.f6] 30)).heap[wr.heap.size]? = some (.cells #[.int .i64 x.f0.f0, .int .i64 x.f0.f1, .int .i64 x.f1, .int .i64 x.f2.f0, .int .i64 x.f2.f1, .bool x.f3, .int .i64 x.f4.f0, .int .i64 x.f4.f1, .int .i64 x.f4.f2, .int .i64 x.f4.f3, .int .i64 x.f4.f4, .int .i64 x.f4.f5, .int .i64 x.f4.f6] 30 (0, 0))) := ⟨blk_new _ _⟩
      have HO1 : Aside0 (Kd.R (Kd.int .u8) 5 (wr.alloc (.cells #[.int .i64 x.f0.f0, .int .i64 x.f0.f1, .int .i64 x.f1, .int .i64 x.f2.f0, .int .i64 x.f2.f1, .bool x.f3, .int .i64 x.f4.f0, .int .i64 x.f4.f1, .int .i64 x.f4.f2, .int .i64 x.f4.f3, .int .i64 x.f4.f4, .int .i64 x.f4.f5, .int .i64 x.f4.f6] 30)) w.heap.size (fun _ => True) (.slice Ao out.length co) out) := ⟨Kd.R_alloc HO.out _⟩
      generalize (wr.alloc (.cells #[.int .i64 x.f0.f0, .int .i64 x.f0.f1, .int .i64 x.f1, .int .i64 x.f2.f0, .int .i64 x.f2.f1, .bool x.f3, .int .i64 x.f4.f0, .int .i64 x.f4.f1, .int .i64 x.f4.f2, .int .i64 x.f4.f3, .int .i64 x.f4.f4, .int .i64 x.f4.f5, .int .i64 x.f4.f6] 30)) = W1 at HB1 B9 HO1 ⊢
      generalize wr.heap.size = g9 at B9 ⊢
      clear HB HO hx0 hx1 hx2 hx3 hx4 hx5 hx6 hx7 hx8 hx9 hx10 hx11 hx12
      have hc9 := blk_cell B9.out
      have HC1 := Aside0.mk (HCL.out W1 HB1.out)
      have hx := HX2.out
      clear HX2
      unfold wrP at hx
      obtain ⟨kb, hkb⟩ : ∃ kb, kp i = kb := ⟨_, rfl⟩
      rw [hkb] at hx HC1
      clear hkb
      cases kb
      · rw [if_neg (by decide)] at hx
        have HX3 := Aside0.mk hx
        clear hx
        go_wp2_with (go_at_fn gf; refine HC1.out.mono ?_; rintro e w5 ⟨rfl, hb⟩; have HB2 := Aside0.mk (below_step (hU HB1.out) hb); have HO2 := Aside0.mk (Kd.R_below HO1.out hb); clear hb)
        go_roundg k1
        case measure => have := HK.out; omega
        case rel => exact ⟨i + 1, out, Ao, co, rfl, by first | (simp; done) | (simp; unfold wrap64; have := HL.out; have := HI.out; omega), ⟨by have := HK.out; omega⟩, HX3, HO2, HB2⟩
      · rw [if_pos rfl] at hx
        obtain ⟨⟨o2, e2⟩, ha, hx⟩ := Option.bind_eq_some_iff.mp hx
        have HA := Aside0.mk ha
        clear ha
        dsimp only at hx
        by_cases hz : e2 = 0
        · subst hz
          rw [if_pos rfl] at hx
          have HX3 := Aside0.mk hx
          clear hx
          go_wp2_with (first | (go_at_fn gf; refine HC1.out.mono ?_; rintro e w5 ⟨rfl, hb⟩; have HB2 := Aside0.mk (below_step (hU HB1.out) hb); have HO2 := Aside0.mk (Kd.R_below HO1.out hb); have B92 := Aside0.mk (blk_below (bU B9.out) hb); clear hb hc9; have hc9 := blk_cell B92.out) | ((with_reducible refine gate_callee (f := 38) rfl ?_); refine goesL_ (some 33) rfl rfl Try.func38 (by kernel_rfl) rfl #[.slice Ao out.length co, .agg #[.int .i64 x.f0.f0, .int .i64 x.f0.f1, .int .i64 x.f1, .int .i64 x.f2.f0, .int .i64 x.f2.f1, .bool x.f3, .int .i64 x.f4.f0, .int .i64 x.f4.f1, .int .i64 x.f4.f2, .int .i64 x.f4.f3, .int .i64 x.f4.f4, .int .i64 x.f4.f5, .int .i64 x.f4.f6]] rfl (by (try simp only [List.map_toArray, List.map_cons, List.map_nil]); first | done | (go_simp; done) | rfl) ?_; refine (journal_Append.calls k Ao co out _ _ _ _ _ _ _ _ _ _ _ _ _ _ _ _ (Kd.R_reads' HO2.out).2.2 (Kd.R_reads' HO2.out).2.1 HA.out).mono ?_; rintro e w6 ⟨v3, rfl, ho, hb⟩; refine ⟨_, rfl, ?_⟩; have HO3 := Aside0.mk (Kd.R_lower ho (below_size (hU HB2.out))); have HB3 := Aside0.mk (below_step (hU HB2.out) hb); clear hb ho; obtain ⟨A3, c3, rfl⟩ := Kd.R_slice HO3.out))
          go_roundg k1
          case measure => have := HK.out; omega
          case rel => exact ⟨i + 1, o2, A3, c3, rfl, by first | (simp; done) | (simp; unfold wrap64; have := HL.out; have := HI.out; omega), ⟨by have := HK.out; omega⟩, HX3, HO3, HB3⟩
        · rw [if_neg hz] at hx
          simp only [Option.some.injEq, Prod.mk.injEq] at hx
          obtain ⟨rfl, rfl⟩ := hx
          have hz2 : (e2 != 0) = true := by simp; exact hz
          clear hz
          go_wp2_with (first | (go_at_fn gf; refine HC1.out.mono ?_; rintro e w5 ⟨rfl, hb⟩; have HB2 := Aside0.mk (below_step (hU HB1.out) hb); have HO2 := Aside0.mk (Kd.R_below HO1.out hb); have B92 := Aside0.mk (blk_below (bU B9.out) hb); clear hb hc9; have hc9 := blk_cell B92.out) | ((with_reducible refine gate_callee (f := 38) rfl ?_); refine goesL_ (some 33) rfl rfl Try.func38 (by kernel_rfl) rfl #[.slice Ao out.length co, .agg #[.int .i64 x.f0.f0, .int .i64 x.f0.f1, .int .i64 x.f1, .int .i64 x.f2.f0, .int .i64 x.f2.f1, .bool x.f3, .int .i64 x.f4.f0, .int .i64 x.f4.f1, .int .i64 x.f4.f2, .int .i64 x.f4.f3, .int .i64 x.f4.f4, .int .i64 x.f4.f5, .int .i64 x.f4.f6]] rfl (by (try simp only [List.map_toArray, List.map_cons, List.map_nil]); first | done | (go_simp; done) | rfl) ?_; refine (journal_Append.calls k Ao co out _ _ _ _ _ _ _ _ _ _ _ _ _ _ _ _ (Kd.R_reads' HO2.out).2.2 (Kd.R_reads' HO2.out).2.1 HA.out).mono ?_; rintro e w6 ⟨v3, rfl, ho, hb⟩; refine ⟨_, rfl, ?_⟩; have HO3 := Aside0.mk (Kd.R_lower ho (below_size (hU HB2.out))); have HB3 := Aside0.mk (below_step (hU HB2.out) hb); clear hb ho; obtain ⟨A3, c3, rfl⟩ := Kd.R_slice HO3.out))
          (try rw [Exit.noGoto_ret])
          go_ret2
          exact ⟨_, rfl, Kd.R_nil _ _ _ _ _, hU HB3.out⟩
/-- journal.Write. -/
def journal_Write.f (k : Nat) (a0 : Int) (l1 : List S30) : Option (List Int × Int) := wrA k (fun _ => true) a0 l1
theorem journal_Write.mono : ∀ a0 a1 k, LeO (journal_Write.f k a0 a1) (journal_Write.f (k + 1) a0 a1) := fun a0 a1 k => wrA_mono k _ a0 a1
set_option maxHeartbeats 4000000 in
set_option maxRecDepth 100000 in
theorem write1_calls (i : Nat) (x : S30) (W : World) : Calls Try.prog 91 (#[.int .i64 i, .agg (cE x).toArray] ++ #[]) W fun e W' => e = .returned (.bool true) ∧ Below W.heap.size W W' := by
  show Calls Try.prog 91 #[.int .i64 i, .agg #[.int .i64 x.f0.f0, .int .i64 x.f0.f1, .int .i64 x.f1, .int .i64 x.f2.f0, .int .i64 x.f2.f1, .bool x.f3, .int .i64 x.f4.f0, .int .i64 x.f4.f1, .int .i64 x.f4.f2, .int .i64 x.f4.f3, .int .i64 x.f4.f4, .int .i64 x.f4.f5, .int .i64 x.f4.f6]] W _
  go_enter Try.func91, Try.ntmps91
  go_wp2
  go_ret
  exact ⟨rfl, by first | exact Below.refl _ _ | exact below_alloc (Below.refl _ _) _⟩
theorem eg_of {f : FuncId} {fn : Func} (hf : Try.prog.funcs[f]? = some fn) (hname : (fn.name == "runtime.NumGoroutine") = false) (hb : fn.body.isSome = true) : ∀ args w, (callFunc f args).run Try.prog w = .ok (.enter f args) w := fun args w => enters_ hf hname hb args w
set_option maxHeartbeats 4000000 in
set_option maxRecDepth 100000 in
theorem journal_Write.calls (k : Nat) (a0 : Int) (A1 : Option Addr) (c1 : Nat) (l1 : List S30) (r0 : List Int) (r1 : Int) (w : World) (hr1 : Kd.C k30 w A1 l1.length l1) (hc1 : l1.length ≤ c1) (h : journal_Write.f k a0 l1 = some (r0, r1)) :
    Calls Try.prog 44 #[.agg #[.int .i64 a0, .slice A1 l1.length c1]] w fun e w' => ∃ v0_ : Value, e = .returned (.tuple #[v0_, .int .i64 r1]) ∧ Kd.R (Kd.int .u8) 5 w' w.heap.size (fun _ => True) v0_ r0 ∧ Below w.heap.size w w' := by
  have HR := Aside0.mk hr1
  have HC := Aside0.mk hc1
  have HH := Aside0.mk h
  have HB := Aside0.mk (Below.refl w.heap.size w)
  have hu24 := Try.underlying24
  clear hr1 hc1 h
  go_enter Try.func44, Try.ntmps44
  go_wp2_with (first | ((with_reducible refine gate_dst (N := 1) rfl ?_); refine box_event ?hg (N := 1) ?hd (cs := #[.int .i64 a0, .slice A1 l1.length c1]) (t := 24) ?hr ?_; (case hd => rfl); (case hg => rfl); (case hr => first | (go_simp; done) | (go_simp; rfl)); intro g2 hg W2 hbox hb; replace HB := Aside0.mk (below_step (hU HB.out) hb); have B1 := Aside0.mk hbox; clear hb hbox hg; have hc1 := blk_cell B1.out) | ((with_reducible refine gate_callee (f := 90) rfl ?_); refine goesL_ (some 5) rfl rfl Try.func90 (by kernel_rfl) rfl #[.agg #[.int .i64 a0, .slice A1 l1.length c1], .func (.func 91) #[] #[]] rfl (by (try simp only [List.map_toArray, List.map_cons, List.map_nil]); first | done | (go_simp; done) | rfl) ?_; refine (written_calls 91 (eg_of Try.func91 (by kernel_rfl) rfl) #[] k (fun _ => true) a0 A1 c1 l1 r0 r1 _ (Kd.C_below HR.out (hU HB.out)) HC.out (fun W _ i hi => write1_calls i (l1[i]'hi) W) HH.out).mono ?_; rintro e w2 ⟨v3, rfl, ho, hb⟩; refine ⟨_, rfl, ?_⟩; have HO := Aside0.mk (Kd.R_lower ho (below_size (hU HB.out))); replace HB := Aside0.mk (below_step (hU HB.out) hb); clear hb ho))
  go_ret2
  exact ⟨_, rfl, HO.out, HB.out⟩
end Go.Proofs.Yteopkkoblbmggaa.P
end
