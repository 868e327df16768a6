/- Texts of this claim in one: VInsJ, VSymP, VChkE, VPCheck; no condition. -/
import Derived.Test.YteopkkoblbmggaaUAH
import Derived.Test.YteopkkoblbmggaaUAI
import Derived.Test.YteopkkoblbmggaaUAD
import Derived.Test.YteopkkoblbmggaaUAE
import Derived.Test.YteopkkoblbmggaaUAF
import Derived.Deep.Light
import Derived.WalkSpells
section
set_option linter.unusedVariables false
set_option linter.unusedSimpArgs false
namespace Go.Proofs.Yteopkkoblbmggaa.P
open Go.RowKit Go.Lib Go.Proofs.YteopkkoblbmggaaW.PrintWords Go.Proofs.YteopkkoblbmggaaW.PrintLast Go.Proofs.YteopkkoblbmggaaW.PrintMore
theorem Reps_app {α : Type} {R : α → List Value → Prop} {size : Nat} {ps qs : List α} {cs ds : List Value} (h : Reps R size ps cs) (g : Reps R size qs ds) : Reps R size (ps ++ qs) (cs ++ ds) := by
  refine ⟨by rw [List.length_append, h.1, g.1, List.length_append, Nat.add_mul], fun j p hj => ?_⟩
  rcases Nat.lt_or_ge j ps.length with hl | hl
  · rw [List.getElem?_append_left hl] at hj
    have h1 : j * size + size ≤ cs.length := by rw [h.1, ← Nat.succ_mul]; exact Nat.mul_le_mul_right _ hl
    rw [List.drop_append_of_le_length (by omega), List.take_append_of_le_length (by rw [List.length_drop]; omega)]
    exact h.2 j p hj
  · rw [List.getElem?_append_right hl] at hj
    have e : j * size = cs.length + (j - ps.length) * size := by rw [h.1, ← Nat.add_mul]; congr 1; omega
    rw [e, ← List.drop_drop, List.drop_left]
    exact g.2 _ p hj
theorem Reps_take {α : Type} {R : α → List Value → Prop} {size : Nat} {ps : List α} {cs : List Value} (h : Reps R size ps cs) (i : Nat) (hi : i ≤ ps.length) : Reps R size (ps.take i) (cs.take (i * size)) := by
  refine ⟨by rw [List.length_take, List.length_take, h.1, Nat.min_eq_left hi, Nat.min_eq_left (Nat.mul_le_mul_right _ hi)], fun j p hj => ?_⟩
  have hji : j < i := by
    have := (List.getElem?_eq_some_iff.1 hj).1
    rw [List.length_take] at this
    omega
  rw [List.getElem?_take, if_pos hji] at hj
  have h1 : j * size + size ≤ i * size := by rw [← Nat.succ_mul]; exact Nat.mul_le_mul_right _ hji
  rw [List.drop_take, List.take_take, Nat.min_eq_left (by omega)]
  exact h.2 j p hj
theorem Reps_drop {α : Type} {R : α → List Value → Prop} {size : Nat} {ps : List α} {cs : List Value} (h : Reps R size ps cs) (i : Nat) : Reps R size (ps.drop i) (cs.drop (i * size)) := by
  refine ⟨by rw [List.length_drop, List.length_drop, h.1, Nat.sub_mul], fun j p hj => ?_⟩
  rw [List.getElem?_drop] at hj
  rw [List.drop_drop, ← Nat.add_mul]
  exact h.2 _ p hj
/-- The cells of an edit. -/
def cE (y : S30) : List Value := [.int .i64 y.f0.f0, .int .i64 y.f0.f1, .int .i64 y.f1, .int .i64 y.f2.f0, .int .i64 y.f2.f1, .bool y.f3, .int .i64 y.f4.f0, .int .i64 y.f4.f1, .int .i64 y.f4.f2, .int .i64 y.f4.f3, .int .i64 y.f4.f4, .int .i64 y.f4.f5, .int .i64 y.f4.f6]
theorem k30_free {w w1 : World} {base base1 : Nat} {ok ok1 : Nat → Prop} {x : S30} {cs : List Value} (h : k30.M w base ok x cs) : k30.M w1 base1 ok1 x cs := by
  rw [k30_openM h]; exact k30_mkM _ _ _ _
theorem row_shift {cur : List Value} {n cap i : Nat} {ec mid inner R1 R2 : List Value} (hec : ec.length = 13) (hsz : cur.length = cap * 13) (hi : i < n) (hroom : n + 1 ≤ cap) (hin : cur.take (n * 13) = inner) (hmid : mid = inner.drop (i * 13))
    (hR1 : R1 = cur.take ((i + 1) * 13) ++ mid ++ cur.drop ((i + 1) * 13 + mid.length)) (hR2 : R2 = R1.take (i * 13) ++ ec ++ R1.drop (i * 13 + ec.length)) :
    R2.length = cap * 13 ∧ R2.take ((n + 1) * 13) = inner.take (i * 13) ++ (ec ++ inner.drop (i * 13)) := by
  have hil : inner.length = n * 13 := by rw [← hin, List.length_take]; omega
  have hml : mid.length = (n - i) * 13 := by rw [hmid, List.length_drop, hil]; omega
  have h1l : (cur.take ((i + 1) * 13)).length = (i + 1) * 13 := by rw [List.length_take]; omega
  have e1 : R1.take (i * 13) = inner.take (i * 13) := by
    rw [hR1, List.append_assoc, List.take_append_of_le_length (by omega), List.take_take, Nat.min_eq_left (by omega), ← hin, List.take_take, Nat.min_eq_left (by omega)]
  have e2 : R1.drop (i * 13 + ec.length) = mid ++ cur.drop ((i + 1) * 13 + mid.length) := by
    rw [hR1, List.append_assoc, show i * 13 + ec.length = (cur.take ((i + 1) * 13)).length by omega, List.drop_left]
  rw [e1, e2, hmid] at hR2
  have hl : (inner.take (i * 13)).length = i * 13 := by rw [List.length_take]; omega
  refine ⟨?_, ?_⟩
  · rw [hR2, List.length_append, List.length_append, List.length_append, hl, hec, ← hmid, hml, List.length_drop, hsz]; omega
  · rw [hR2, ← List.append_assoc, List.take_append_of_le_length (by rw [List.length_append, List.length_append, hl, hec, ← hmid, hml]; omega), List.take_of_length_le (by rw [List.length_append, List.length_append, hl, hec, ← hmid, hml]; omega), List.append_assoc]
theorem row_grow {cur Z : List Value} {n cap i G : Nat} {ec mid inner R1 R2 ROW : List Value} (hec : ec.length = 13) (hsz : cur.length = cap * 13) (hi : i < n) (hnc : n ≤ cap) (hin : cur.take (n * 13) = inner) (hmid : mid = inner.drop (i * 13))
    (hROW : ROW = cur.take (i * 13) ++ Z) (hRl : ROW.length = G * 13) (hG : n + 1 ≤ G)
    (hR1 : R1 = ROW.take (i * 13) ++ ec ++ ROW.drop (i * 13 + ec.length)) (hR2 : R2 = R1.take ((i + 1) * 13) ++ mid ++ R1.drop ((i + 1) * 13 + mid.length)) :
    R2.length = G * 13 ∧ R2.take ((n + 1) * 13) = inner.take (i * 13) ++ (ec ++ inner.drop (i * 13)) := by
  have hil : inner.length = n * 13 := by rw [← hin, List.length_take]; omega
  have hml : mid.length = (n - i) * 13 := by rw [hmid, List.length_drop, hil]; omega
  have hl : (inner.take (i * 13)).length = i * 13 := by rw [List.length_take]; omega
  have e0 : ROW.take (i * 13) = inner.take (i * 13) := by
    have : (cur.take (i * 13)).length = i * 13 := by rw [List.length_take]; omega
    rw [hROW, List.take_append_of_le_length (by omega), List.take_take, Nat.min_self, ← hin, List.take_take, Nat.min_eq_left (by omega)]
  rw [e0] at hR1
  have e1 : R1.take ((i + 1) * 13) = inner.take (i * 13) ++ ec := by
    rw [hR1, List.take_append_of_le_length (by rw [List.length_append, hl, hec]; omega), List.take_of_length_le (by rw [List.length_append, hl, hec]; omega)]
  have h1l : R1.length = G * 13 := by rw [hR1, List.length_append, List.length_append, hl, hec, List.length_drop, hRl]; omega
  rw [e1, hmid] at hR2
  refine ⟨?_, ?_⟩
  · rw [hR2, List.length_append, List.length_append, List.length_append, hl, hec, ← hmid, hml, List.length_drop, h1l]; omega
  · rw [hR2, List.take_append_of_le_length (by rw [List.length_append, List.length_append, hl, hec, ← hmid, hml]; omega), List.take_of_length_le (by rw [List.length_append, List.length_append, hl, hec, ← hmid, hml]; omega), List.append_assoc]
theorem reps_ins {w w1 : World} {base base1 : Nat} {ok ok1 : Nat → Prop} {l : List S30} {inner : List Value} (i : Nat) (hi : i ≤ l.length) (y : S30) (h : Reps (k30.M w base ok) 13 l inner) :
    Reps (k30.M w1 base1 ok1) 13 (l.take i ++ y :: l.drop i) (inner.take (i * 13) ++ (cE y ++ inner.drop (i * 13))) := by
  have h1 : Reps (k30.M w1 base1 ok1) 13 l inner := h.imp_ (fun _ _ hp => k30_free hp)
  refine Reps_app (Reps_take h1 i hi) (Reps_app (ps := [y]) (cs := cE y) ?_ (Reps_drop h1 i))
  have := Reps.snoc (Reps.none (k30.M w1 base1 ok1) 13) (k30_mkM w1 base1 ok1 y) (by rfl)
  exact this
theorem one_cE (y : S30) : ∀ v ∈ cE y, v.oneCell' = true := by
  intro v hv
  simp [cE] at hv
  rcases hv with h | h | h | h | h | h | h | h | h | h | h | h | h <;> rw [h] <;> rfl
theorem one_inner {w : World} {base : Nat} {ok : Nat → Prop} {l : List S30} {inner : List Value} (h : Reps (k30.M w base ok) 13 l inner) : ∀ v ∈ inner, v.oneCell' = true := by
  intro v hv
  obtain ⟨j, hj, rfl⟩ := List.getElem_of_mem hv
  have h0 : 0 < 13 := by decide
  have hl := h.1
  have hq : j / 13 < l.length := by rw [Nat.div_lt_iff_lt_mul h0]; omega
  have hp := h.2 (j / 13) _ (List.getElem?_eq_getElem hq)
  refine k30.K_one (k30.K_of_M hp) _ ?_
  have hm : j % 13 < 13 := Nat.mod_lt _ h0
  have he : j / 13 * 13 + j % 13 = j := Nat.div_add_mod' j 13
  rw [List.mem_iff_getElem]
  have hlen : j % 13 < ((inner.drop (j / 13 * 13)).take 13).length := by rw [List.length_take, List.length_drop]; omega
  refine ⟨j % 13, hlen, ?_⟩
  rw [List.getElem_take, List.getElem_drop]
  simp only [he]
theorem setRow_far (w : World) (g k : Nat) (R : Array Value) (h : g ≠ k) : (w.setRow g R).heap[k]? = w.heap[k]? := by
  unfold World.setRow
  simp only [Array.getElem?_modify, if_neg h]
theorem grown_rows (w : World) (g : Nat) (R1 R2 : Array Value) : w.grownBy ((w.drew.setRow g R1).setRow g R2) (some g) := by
  refine ⟨rfl, rfl, rfl, ?_, fun k hk hne => ?_⟩
  · rw [setRow_size, setRow_size]; exact Nat.le_refl _
  · have : g ≠ k := fun e => hne (by rw [e])
    rw [setRow_far _ _ _ _ this, setRow_far _ _ _ _ this]; rfl
theorem grown_new (w : World) (o : Obj) (R1 R2 : Array Value) (row : Option Nat) : w.grownBy ((((w.drew.alloc o).setRow w.heap.size R1).drew).setRow w.heap.size R2) row := by
  refine ⟨rfl, rfl, rfl, ?_, fun k hk hne => ?_⟩
  · rw [setRow_size]
    show _ ≤ ((w.drew.alloc o).setRow w.heap.size R1).heap.size
    rw [setRow_size, World.size_alloc]
    exact Nat.le_succ _
  · rw [setRow_far _ _ _ _ (by omega)]
    show ((w.drew.alloc o).setRow w.heap.size R1).heap[k]? = _
    rw [setRow_far _ _ _ _ (by omega)]
    show (w.heap.push o)[k]? = _
    rw [Array.getElem?_push, if_neg (by omega)]
theorem grown_below {base : Nat} {w0 w w1 : World} {row : Option Nat} (hb : Below base w0 w) (hg : w.grownBy w1 row) (hbase : base ≤ w.heap.size) (hr : ∀ k, row = some k → base ≤ k) : Below base w0 w1 := hb.grown hg hbase hr
set_option maxHeartbeats 8000000 in
set_option maxRecDepth 100000 in
/-- At the end: an append. -/
theorem ins_end (base : Nat) (l : List S30) (y : S30) (v : Value) (vb : Nat) (w : World) (hn : l.length ≤ 1000000) (hr : Kd.R k30 30 w base (fun _ => True) v l) (hbase : base ≤ w.heap.size)
    (hv : w.heap[vb]? = some (.cells (cE y).toArray 30 (0, 0))) :
    Calls Try.prog 58 #[v, .int .i64 l.length, .slice (some ⟨vb, 0, none⟩) 1 1] w fun e w' =>
      ∃ v', e = .returned v' ∧ Kd.R k30 30 w' base (fun _ => True) v' (l ++ [y]) ∧ w.grownBy w' v.ownBlock := by
  have hus := Try.underlying22
  have HR := Aside0.mk hr
  have HN := Aside0.mk hn
  have HBS := Aside0.mk hbase
  have HY : Aside0 (Kd.C k30 w (some ⟨vb, 0, none⟩) 1 [y]) := ⟨⟨rfl, by decide, fun _ => ⟨⟨vb, 0, none⟩, rfl, fun j p hj => by
    cases j with
    | zero =>
      obtain rfl : y = p := by simpa using hj
      refine ⟨cE y, rfl, k30_mk w y, fun i u hu => ?_⟩
      rw [Addr.add_lit]
      refine (blk_cell hv _).trans ?_
      simpa using hu
    | succ j => simp at hj⟩⟩⟩
  obtain ⟨A, c, rfl, hlc, hC⟩ := Kd.R_reads hr
  clear hr hn hbase hC hv
  have hob : (Value.slice A l.length c).ownBlock = A.map (·.block) := by cases A <;> rfl
  have HOB := Aside0.mk hob
  clear hob
  rw [HOB.out]
  obtain ⟨ob, hob⟩ : ∃ ob, ob = A.map (·.block) := ⟨_, rfl⟩
  rw [← hob]
  rw [← hob] at HOB
  clear hob
  go_enter Try.func58, Try.ntmps58
  go_wp2_with (at_builtin; refine Kd.R_append_rows k30 (w0 := w) base rfl (.tmp 23) (.tmp 24) 22 30 (.agg #[(.int .i64 0), (.int .i64 0), (.int .i64 0), (.int .i64 0), (.int .i64 0), (.bool false), (.int .i64 0), (.int .i64 0), (.int .i64 0), (.int .i64 0), (.int .i64 0), (.int .i64 0), (.int .i64 0)]) 104 rfl Try.underlying22 info30 rfl (by decide) (by omega) _ l [y] (some ⟨vb, 0, none⟩) 1 1 (fun _ => True) (fun _ => False) rfl rfl HR.out HY.out (fun _ _ h => h) (fun _ h => h.elim) (fun _ _ => trivial) (Below.refl _ _) HBS.out (by have := HN.out; omega) ?_; intro v2 w2 ho hb hg_ hnew_; have HO2 := Aside0.mk ho; have HG2 : Aside0 (w.grownBy w2 ob) := ⟨by rw [← HOB.out]; exact hg_⟩; clear ho hb hg_ hnew_)
  all_goals
    go_ret
    exact ⟨_, rfl, HO2.out, HG2.out⟩
/-- slices.Insert of one edit. -/
theorem ins_calls (base : Nat) (i : Nat) (l : List S30) (y : S30) (v : Value) (vb : Nat) (w : World) (hn : l.length ≤ 1000000) (hi : i ≤ l.length) (hr : Kd.R k30 30 w base (fun _ => True) v l) (hbase : base ≤ w.heap.size)
    (hv : w.heap[vb]? = some (.cells (cE y).toArray 30 (0, 0))) (hne : some vb ≠ v.ownBlock) :
    Calls Try.prog 58 #[v, .int .i64 i, .slice (some ⟨vb, 0, none⟩) 1 1] w fun e w' =>
      ∃ v', e = .returned v' ∧ Kd.R k30 30 w' base (fun _ => True) v' (l.take i ++ y :: l.drop i) ∧ w.grownBy w' v.ownBlock := by
  rcases Nat.lt_or_ge i l.length with hlt | hge
  rotate_left
  · obtain rfl : i = l.length := Nat.le_antisymm hi hge
    rw [List.take_length, List.drop_length]
    exact ins_end base l y v vb w hn hr hbase hv
  have hr0 := hr
  obtain ⟨hok, inner, ⟨hil, hown⟩, hrep⟩ := hr
  rcases hown with ⟨rfl, h0⟩ | ⟨g, cap, cur, rfl, hgb, hg, hnc, hcm, hsz, hin⟩
  · omega
  have hvg : vb ≠ g := fun e => hne (by rw [e]; rfl)
  have hone := one_inner hrep
  have hc13 : cur.toList.length = cap * 13 := by rw [Array.length_toList]; exact hsz
  rw [show k30.sz = 13 from rfl] at hsz hin hil
  rcases Nat.lt_or_ge cap (l.length + 1) with hroom | hroom
  · obtain ⟨G, hG⟩ : ∃ G, G = grownCap w (l.length + 1) cap 30 := ⟨_, rfl⟩
    have hGn : l.length + 1 ≤ G := by rw [hG]; exact grownCap_ge w _ _ _
    have hGm : G ≤ maxLen := by rw [hG]; exact grownCap_le_maxLen w (l.length + 1) cap 30 (by unfold maxLen; omega)
    obtain ⟨ROW, hROW⟩ : ∃ ROW, ROW = (cur.toList.take (i * 13)).toArray ++ Builtin.zeroCells z30v.cells (l.length + 1 - i) ++ Builtin.zeroCells z30v.cells (G - (l.length + 1)) := ⟨_, rfl⟩
    obtain ⟨R1, hR1⟩ : ∃ R1, R1 = (ROW.toList.take (i * 13) ++ cE y ++ ROW.toList.drop (i * 13 + (cE y).length)).toArray := ⟨_, rfl⟩
    obtain ⟨R2, hR2⟩ : ∃ R2, R2 = (R1.toList.take ((i + 1) * 13) ++ (cur.toList.take (l.length * 13)).drop (i * 13) ++ R1.toList.drop ((i + 1) * 13 + ((cur.toList.take (l.length * 13)).drop (i * 13)).length)).toArray := ⟨_, rfl⟩
    have hmid : (cur.toList.take (l.length * 13)).drop (i * 13) = inner.drop (i * 13) := by rw [hin]
    have hRs : ROW.size = G * 13 := by
      rw [hROW]
      simp only [Array.size_append, Builtin.zeroCells, Array.size_map, Array.size_range, List.size_toArray, List.length_take, Array.length_toList, z30v_size, hsz]
      omega
    obtain ⟨q1, q2⟩ := row_grow (cur := cur.toList) (Z := (Builtin.zeroCells z30v.cells (l.length + 1 - i) ++ Builtin.zeroCells z30v.cells (G - (l.length + 1))).toList) (ec := cE y) (mid := (cur.toList.take (l.length * 13)).drop (i * 13)) (R1 := R1.toList) (R2 := R2.toList) (ROW := ROW.toList) rfl hc13 hlt hnc hin hmid
      (by rw [hROW]; simp) (by rw [Array.length_toList]; exact hRs) hGn (by rw [hR1]) (by rw [hR2])
    refine (ins_grow g cap l.length i vb cur (cE y) w hlt hnc hroom hn hg hsz hv rfl _ rfl G hG ROW R1 R2 hROW hR1 hR2 (fun u hu => hone u (by rw [hmid] at hu; exact List.mem_of_mem_drop hu)) (one_cE y)).mono ?_
    rintro e w' ⟨rfl, rfl⟩
    have hn0 : (w.drew.alloc (.cells ROW 30)).heap[w.heap.size]? = some (.cells ROW 30 (0, 0)) := blk_new w.drew _
    have hn1 := setRow_heap _ _ _ R1 _ _ hn0
    have hn2 := setRow_heap (((w.drew.alloc (.cells ROW 30)).setRow w.heap.size R1).drew) _ _ R2 _ _ hn1
    refine ⟨_, rfl, ⟨fun _ _ => trivial, R2.toList.take ((l.length + 1) * 13), ⟨?_, .inr ⟨w.heap.size, G, R2, ?_, hbase, hn2, ?_, hGm, ?_, ?_⟩⟩, ?_⟩, grown_new _ _ _ _ _⟩
    · rw [q2, (reps_ins (w1 := w) (base1 := 0) (ok1 := fun _ => True) i hi y hrep).1]; rfl
    · rw [List.length_append, List.length_cons, List.length_take, List.length_drop, show min i l.length + (l.length - i + 1) = l.length + 1 by omega]
    · rw [List.length_append, List.length_cons, List.length_take, List.length_drop]; omega
    · rw [← Array.length_toList, q1]; rfl
    · rw [List.length_append, List.length_cons, List.length_take, List.length_drop, show min i l.length + (l.length - i + 1) = l.length + 1 by omega]; rfl
    · rw [q2]; exact reps_ins i hi y hrep
  · obtain ⟨R1, hR1⟩ : ∃ R1, R1 = (cur.toList.take ((i + 1) * 13) ++ (cur.toList.take (l.length * 13)).drop (i * 13) ++ cur.toList.drop ((i + 1) * 13 + ((cur.toList.take (l.length * 13)).drop (i * 13)).length)).toArray := ⟨_, rfl⟩
    obtain ⟨R2, hR2⟩ : ∃ R2, R2 = (R1.toList.take (i * 13) ++ cE y ++ R1.toList.drop (i * 13 + (cE y).length)).toArray := ⟨_, rfl⟩
    have hmid : (cur.toList.take (l.length * 13)).drop (i * 13) = inner.drop (i * 13) := by rw [hin]
    obtain ⟨q1, q2⟩ := row_shift (cur := cur.toList) (ec := cE y) (mid := (cur.toList.take (l.length * 13)).drop (i * 13)) (R1 := R1.toList) (R2 := R2.toList) rfl hc13 hlt hroom hin hmid (by rw [hR1]) (by rw [hR2])
    refine (ins_shift g cap l.length i vb cur (cE y) w hlt hroom (by unfold maxLen at hcm; omega) hn hg hsz hv rfl hvg _ rfl R1 R2 hR1 hR2 (fun u hu => hone u (by rw [hmid] at hu; exact List.mem_of_mem_drop hu)) (one_cE y)).mono ?_
    rintro e w' ⟨rfl, rfl⟩
    have hn1 := setRow_heap w.drew _ _ R1 _ _ hg
    have hn2 := setRow_heap (w.drew.setRow g R1) _ _ R2 _ _ hn1
    refine ⟨_, rfl, ⟨fun _ _ => trivial, R2.toList.take ((l.length + 1) * 13), ⟨?_, .inr ⟨g, cap, R2, ?_, hgb, hn2, ?_, hcm, ?_, ?_⟩⟩, ?_⟩, grown_rows _ _ _ _⟩
    · rw [q2, (reps_ins (w1 := w) (base1 := 0) (ok1 := fun _ => True) i hi y hrep).1]; rfl
    · rw [List.length_append, List.length_cons, List.length_take, List.length_drop, show min i l.length + (l.length - i + 1) = l.length + 1 by omega]
    · rw [List.length_append, List.length_cons, List.length_take, List.length_drop]; omega
    · rw [← Array.length_toList, q1]; rfl
    · rw [List.length_append, List.length_cons, List.length_take, List.length_drop, show min i l.length + (l.length - i + 1) = l.length + 1 by omega]; rfl
    · rw [q2]; exact reps_ins i hi y hrep
end Go.Proofs.Yteopkkoblbmggaa.P
end
section
set_option linter.unusedVariables false
set_option linter.unusedSimpArgs false
namespace Go.Proofs.Yteopkkoblbmggaa.P
open Go.RowKit Go.Proofs.YteopkkoblbmggaaW.PrintWords Go.Proofs.YteopkkoblbmggaaW.PrintLast Go.Proofs.YteopkkoblbmggaaW.PrintMore
theorem wrap_in (x : Int) (h0 : -9223372036854775808 ≤ x) (h1 : x ≤ 9223372036854775807) : wrap64 x = x := by unfold wrap64; omega
def colP (k c : Int) : Prop := if k = 1 ∨ k = 2 then c = 0 ∨ c = 1 else if k = 3 then 2 ≤ c ∧ c < 8 else c = 8
instance (k c : Int) : Decidable (colP k c) := by unfold colP; infer_instance
def sayC (k c d v m : Int) : Int :=
  if k = 1 then (if 0 ≤ d ∧ d ≤ 8 ∧ -1 ≤ v ∧ v ≤ 1 then (if m = 0 then 0 else 2) else 1)
  else if k = 2 then (if d = 0 ∧ v = 0 ∧ m = 0 then 0 else 2)
  else if k = 3 then (ofP (c - 2) d v m).2.2.2
  else if k = 4 then (if d = 0 ∧ v = 0 then (if m < -16 ∨ 16 < m ∨ m = 0 then 1 else 0) else 2) else 0
/-- The error of Check. -/
def chkP (k c b l d v m : Int) : Int :=
  if k < 1 ∨ 4 < k then 9
  else if ¬ colP k c then 16
  else if b < 0 ∨ 8191 < b ∨ l < 1 ∨ 8192 - b < l then 1
  else sayC k c d v m
theorem says_eq (j : Nat) (k c b l d v m : Int) (hc : 0 ≤ c ∧ c ≤ 8) : symbol_says.f (j + 1) k c b l d v m = some (sayC k c d v m) := by
  unfold symbol_says.f sayC
  rw [wrap_in (c - 2) (by omega) (by omega)]
  by_cases k1 : k = 1
  · rw [if_pos k1, if_pos k1]
    have e : dir_Check.f d v = some (if 0 ≤ d ∧ d ≤ 8 ∧ -1 ≤ v ∧ v ≤ 1 then 0 else 1) := aim_Of.dcheck_eq d v
    rw [e, Option.bind_some]
    by_cases h : 0 ≤ d ∧ d ≤ 8 ∧ -1 ≤ v ∧ v ≤ 1
    · rw [if_pos h, if_pos h, if_pos rfl]; split <;> rfl
    · rw [if_neg h, if_neg h, if_neg (by decide)]
  · rw [if_neg k1, if_neg k1]
    by_cases k2 : k = 2
    · rw [if_pos k2, if_pos k2]
      by_cases h : d = 0 <;> by_cases h' : v = 0 <;> by_cases h'' : m = 0 <;> simp [h, h', h'']
    · rw [if_neg k2, if_neg k2]
      by_cases k3 : k = 3
      · rw [if_pos k3, if_pos k3]
        simp only [aim_Of.f, Option.bind_some]
      · rw [if_neg k3, if_neg k3]
        simp only [symbol_says.j0]
        by_cases k4 : k = 4 <;> by_cases h : d = 0 <;> by_cases h' : v = 0 <;> simp [k4, h, h']
        by_cases a : m < -16 <;> by_cases a' : 16 < m <;> by_cases a'' : m = 0 <;> simp [a, a', a'']
theorem place_eq (k c b l d v m : Int) (h : ¬ (k < 1 ∨ 4 < k)) : symbol_place.f k c b l d v m = some (decide (colP k c)) := by
  unfold symbol_place.f symbol_support.f colP
  grind
theorem symCheck_j (j : Nat) (x : Bool) (k c b l d v m : Int) (hx : x = false) (h1 : ¬ (k < 1 ∨ 4 < k)) : symbol_Check.j0 (j + 2) x k c b l d v m = some (chkP k c b l d v m) := by
  subst hx
  simp only [symbol_Check.j0, chkP, if_neg h1]
  rw [place_eq k c b l d v m h1, if_neg (by decide)]
  simp only [Option.bind_some, decide_eq_true_eq]
  by_cases h2 : colP k c
  · have hc : 0 ≤ c ∧ c ≤ 8 := by unfold colP at h2; grind
    rw [if_pos h2, if_neg (not_not_intro h2), says_eq j k c b l d v m hc]
    by_cases h3 : b < 0 ∨ 8191 < b
    · rw [if_pos (by omega : b < 0 ∨ 8191 < b ∨ l < 1 ∨ 8192 - b < l)]
      rcases h3 with h3 | h3
      · rw [if_pos h3]
      · rw [if_neg (by omega), if_pos (by omega)]
    · rw [wrap_in (8192 - b) (by omega) (by omega), if_neg (by omega), if_neg (by omega)]
      by_cases h4 : l < 1 ∨ 8192 - b < l
      · rw [if_pos (by omega : b < 0 ∨ 8191 < b ∨ l < 1 ∨ 8192 - b < l)]
        rcases h4 with h4 | h4
        · rw [if_pos h4]
        · by_cases h5 : l < 1
          · rw [if_pos h5]
          · rw [if_neg h5, if_pos (by omega)]
      · rw [if_neg (by omega), if_neg (by omega), if_neg (by omega : ¬ (b < 0 ∨ 8191 < b ∨ l < 1 ∨ 8192 - b < l))]
        rfl
  · rw [if_neg h2, if_pos h2]
theorem symCheck_eq (j : Nat) (k c b l d v m : Int) : symbol_Check.f (j + 2) k c b l d v m = some (chkP k c b l d v m) := by
  unfold symbol_Check.f
  by_cases h1 : k < 1 ∨ 4 < k
  · have e : chkP k c b l d v m = 9 := by rw [chkP, if_pos h1]
    rw [e]
    rcases h1 with h1 | h1
    · rw [if_pos h1]; simp [symbol_Check.j0]
    · rw [if_neg (by omega)]; simp [symbol_Check.j0, h1]
  · rw [if_neg (by omega)]
    exact symCheck_j j _ k c b l d v m (by simp; omega) h1
def valP (c d : Int) : Bool := decide (1 ≤ c ∧ c ≤ 1000000 ∧ 1 ≤ d ∧ d ≤ 64)
def lessP (a b c d : Int) : Bool := decide (a < c ∨ a = c ∧ b < d)
theorem valid_eq (c d : Int) : edits_valid.f c d = some (valP c d) := by
  unfold edits_valid.f valP
  by_cases h1 : 1 ≤ c <;> by_cases h2 : c ≤ 1000000 <;> by_cases h3 : 1 ≤ d <;> by_cases h4 : d ≤ 64 <;> simp [h1, h2, h3, h4, GE.ge]
theorem eless_eq (a b c d : Int) : edits_Less.f a b c d = some (lessP a b c d) := by
  unfold edits_Less.f lessP
  by_cases h1 : a < c
  · simp [h1]
  · by_cases h2 : a = c <;> simp [h1, h2]
/-- The error of Check. -/
def chkE (a0 a1 a2 a3 a4 : Int) (a5 : Bool) (a6 a7 a8 a9 a10 a11 a12 : Int) : Int :=
  if valP a0 a1 = false ∨ valP a3 a4 = false ∨ lessP a0 a1 a3 a4 = true then 43
  else if a2 < 0 ∨ 12 ≤ a2 then 33
  else if a5 = true then (if a6 = 0 ∧ a7 = 0 ∧ a8 = 0 ∧ a9 = 0 ∧ a10 = 0 ∧ a11 = 0 ∧ a12 = 0 then 0 else 2)
  else chkP a6 a7 a8 a9 a10 a11 a12
theorem chk_j0 (j : Nat) (x : Bool) (a0 a1 a2 a3 a4 : Int) (a5 : Bool) (a6 a7 a8 a9 a10 a11 a12 : Int) :
    edits_Check.j0 (j + 4) x a0 a1 a2 a3 a4 a5 a6 a7 a8 a9 a10 a11 a12 = some (if x = true then 43 else if a2 < 0 ∨ 12 ≤ a2 then 33
      else if a5 = true then (if a6 = 0 ∧ a7 = 0 ∧ a8 = 0 ∧ a9 = 0 ∧ a10 = 0 ∧ a11 = 0 ∧ a12 = 0 then 0 else 2) else chkP a6 a7 a8 a9 a10 a11 a12) := by
  simp only [edits_Check.j0, edits_Check.j1, symCheck_eq, Option.bind_some]
  cases x
  · simp only [Bool.false_eq_true, if_false, if_true]
    by_cases h1 : a2 < 0
    · rw [if_pos h1, if_pos (Or.inl h1)]
    · rw [if_neg h1]
      by_cases h2 : 12 ≤ a2
      · rw [if_pos (by simpa using h2), if_pos (Or.inr h2)]
      · rw [if_neg (by simpa using h2), if_neg (show ¬ (a2 < 0 ∨ 12 ≤ a2) by omega)]
        cases a5
        · simp
        · simp only [if_true]
          by_cases h : a6 = 0 ∧ a7 = 0 ∧ a8 = 0 ∧ a9 = 0 ∧ a10 = 0 ∧ a11 = 0 ∧ a12 = 0
          · obtain ⟨rfl, rfl, rfl, rfl, rfl, rfl, rfl⟩ := h
            rfl
          · rw [if_neg h, if_pos]
            simp only [Bool.or_eq_true, Bool.not_eq_true', beq_eq_false_iff_ne]
            by_cases b1 : a6 = 0
            · by_cases b2 : a7 = 0
              · by_cases b3 : a8 = 0
                · by_cases b4 : a9 = 0
                  · by_cases b5 : a10 = 0
                    · by_cases b6 : a11 = 0
                      · by_cases b7 : a12 = 0
                        · exact absurd ⟨b1, b2, b3, b4, b5, b6, b7⟩ h
                        · exact Or.inr (Or.inr (Or.inr (Or.inr (Or.inr (Or.inr b7)))))
                      · exact Or.inr (Or.inr (Or.inr (Or.inr (Or.inr (Or.inl b6)))))
                    · exact Or.inr (Or.inr (Or.inr (Or.inr (Or.inl b5))))
                  · exact Or.inr (Or.inr (Or.inr (Or.inl b4)))
                · exact Or.inr (Or.inr (Or.inl b3))
              · exact Or.inr (Or.inl b2)
            · exact Or.inl b1
  · simp
theorem check_eq (j : Nat) (a0 a1 a2 a3 a4 : Int) (a5 : Bool) (a6 a7 a8 a9 a10 a11 a12 : Int) :
    edits_Check.f (j + 4) a0 a1 a2 a3 a4 a5 a6 a7 a8 a9 a10 a11 a12 = some (chkE a0 a1 a2 a3 a4 a5 a6 a7 a8 a9 a10 a11 a12) := by
  unfold edits_Check.f chkE
  simp only [valid_eq, eless_eq, Option.bind_some, chk_j0]
  cases h1 : valP a0 a1 <;> cases h2 : valP a3 a4 <;> cases h3 : lessP a0 a1 a3 a4 <;> simp
end Go.Proofs.Yteopkkoblbmggaa.P
end
section
set_option linter.unusedVariables false
set_option linter.unusedSimpArgs false
namespace Go.Proofs.Yteopkkoblbmggaa.P
open Go.RowKit Go.Maps Go.Proofs.YteopkkoblbmggaaW.PrintWords Go.Proofs.YteopkkoblbmggaaW.PrintLast Go.Proofs.YteopkkoblbmggaaW.PrintMore
/-- The error of an edit. -/
def chk30 (e : S30) : Int := chkE e.f0.f0 e.f0.f1 e.f1 e.f2.f0 e.f2.f1 e.f3 e.f4.f0 e.f4.f1 e.f4.f2 e.f4.f3 e.f4.f4 e.f4.f5 e.f4.f6
def chkL30 : List S30 → Int
  | [] => 0
  | e :: t => if chk30 e = 0 then chkL30 t else chk30 e
def less26 (a b : S26) : Bool := lessP a.f0 a.f1 b.f0 b.f1
def ord30 : List S30 → Bool
  | a :: b :: t => less26 a.f0 b.f0 && ord30 (b :: t)
  | _ => true
def kno30 (l : List S30) (e : S30) : Bool := fouB l e.f1 e.f2.f0 e.f2.f1
/-- The error of a replica. -/
def rchkP (d : Int) (l : List S30) : Int :=
  if d < 1 ∨ 64 < d then 43 else if 512 < l.length then 3 else if chkL30 l = 0 then (if ord30 l = true then (if l.all (kno30 l) = true then 0 else 6) else 5) else chkL30 l
instance (n : Int) : Decidable (okN n) := inferInstanceAs (Decidable (_ = true))
instance (e : S30) : Decidable (okE30 e) := inferInstanceAs (Decidable (_ ∧ _ ∧ _))
def replica_Check.f (a0 : Int) (l1 : List S30) : Option Int := if ∀ e ∈ l1, okE30 e then some (rchkP a0 l1) else none
set_option maxHeartbeats 16000000 in
set_option maxRecDepth 100000 in
theorem replica_Check.calls (a0 : Int) (A1 : Option Addr) (c1 : Nat) (l1 : List S30) (r : Int) (w : World) (hr1 : Kd.C k30 w A1 l1.length l1) (hc1 : l1.length ≤ c1) (h : replica_Check.f a0 l1 = some r) :
    Calls Try.prog 29 #[.agg #[.int .i64 a0, .slice A1 l1.length c1]] w fun e w' => e = .returned (.int .i64 r) ∧ Below w.heap.size w w' := by
  unfold replica_Check.f at h
  by_cases hv : ∀ e ∈ l1, okE30 e
  rotate_left
  · rw [if_neg hv] at h; cases h
  rw [if_pos hv] at h
  have HH : Aside0 (rchkP a0 l1 = r) := ⟨Option.some.inj h⟩
  have HR := Aside0.mk hr1
  have HC := Aside0.mk hc1
  have HV := Aside0.mk hv
  have HB := Aside0.mk (Below.refl w.heap.size w)
  have hu24 := Try.underlying24
  clear hr1 hc1 hv h
  go_enter Try.func29, Try.ntmps29
  go_upto_region 1 with (fail)
  have n1_ : Below w.heap.size w (w.alloc (.cells #[.int .i64 a0, .slice A1 l1.length c1] 24)) := below_alloc HB.out _
  have B0 : Aside0 ((w.alloc (.cells #[.int .i64 a0, .slice A1 l1.length c1] 24)).heap[w.heap.size]? = some (.cells #[.int .i64 a0, .slice A1 l1.length c1] 24 (0, 0))) := ⟨blk_new _ _⟩
  have GE : Aside0 (w.heap.size ≤ w.heap.size) := ⟨Nat.le_refl _⟩
  clear HB
  have HB := Aside0.mk n1_
  clear n1_
  generalize hg0 : w.heap.size = g0 at B0 HB GE ⊢
  rw [← hg0] at HB
  generalize (w.alloc (.cells #[.int .i64 a0, .slice A1 l1.length c1] 24)) = W0 at B0 HB ⊢
  have hc0 := blk_cell B0.out
  by_cases d0 : a0 < 1
  · have hr : r = 43 := by have := HH.out; unfold rchkP at this; rw [if_pos (Or.inl d0)] at this; exact this.symm
    subst hr
    have d0b : decide (a0 < 1) = true := decide_eq_true d0
    clear d0
    go_wp2
    go_ret
    exact ⟨rfl, HB.out⟩
  have d0b : decide (a0 < 1) = false := decide_eq_false d0
  by_cases d1 : 64 < a0
  · have hr : r = 43 := by have := HH.out; unfold rchkP at this; rw [if_pos (Or.inr d1)] at this; exact this.symm
    subst hr
    have d1b : decide (64 < a0) = true := decide_eq_true d1
    clear d0 d1
    go_wp2
    go_ret
    exact ⟨rfl, HB.out⟩
  have d1b : decide (64 < a0) = false := decide_eq_false d1
  by_cases d2 : 512 < l1.length
  · have hr : r = 3 := by have := HH.out; unfold rchkP at this; rw [if_neg (by omega), if_pos d2] at this; exact this.symm
    subst hr
    have d2b : decide ((512 : Int) < (l1.length : Int)) = true := decide_eq_true (by omega)
    clear d0 d1
    go_wp2
    go_ret
    exact ⟨rfl, HB.out⟩
  have d2b : decide ((512 : Int) < (l1.length : Int)) = false := decide_eq_false (by omega)
  have HX : Aside0 ((if chkL30 l1 = 0 then (if ord30 l1 = true then (if l1.all (kno30 l1) = true then 0 else 6) else 5) else chkL30 l1) = r) := ⟨by have := HH.out; unfold rchkP at this; rw [if_neg (by omega), if_neg d2] at this; exact this⟩
  have HN : Aside0 (l1.length ≤ 512) := ⟨by omega⟩
  clear HH d0 d1 d2
  go_wp2
  go_loopg [25] l1.length (fun kq v25 W => ∃ (i : Nat), v25 = .int .i64 (i : Int) ∧ Aside0 (i + kq = l1.length) ∧ Aside0 (chkL30 l1 = chkL30 (l1.drop i)) ∧ Aside0 (W.heap[g0]? = some (.cells #[.int .i64 a0, .slice A1 l1.length c1] 24 (0, 0))) ∧ Aside0 (Below w.heap.size w W))
  case atStart => exact ⟨0, rfl, ⟨by omega⟩, ⟨by rw [List.drop_zero]⟩, B0, HB⟩
  case round =>
    clear HB B0 hc0
    obtain ⟨i, rfl, HK, HS, B0, HB⟩ := hrel
    have hc0 := blk_cell B0.out
    cases gk with
    | succ k1 =>
      have hi : i < l1.length := by have := HK.out; omega
      have hlt : decide (i < l1.length) = true := by simp; exact hi
      obtain ⟨adx, e0x, hx0, hx1, hx2, hx3, hx4, hx5, hx6, hx7, hx8, hx9, hx10, hx11, hx12⟩ := at_T30 HR.out (i : Int) (by omega) (by omega)
      cases e0x
      rw [Int.toNat_natCast] at hx0 hx1 hx2 hx3 hx4 hx5 hx6 hx7 hx8 hx9 hx10 hx11 hx12
      rw [rd30_at hi] at hx0 hx1 hx2 hx3 hx4 hx5 hx6 hx7 hx8 hx9 hx10 hx11 hx12
      replace hx0 := (HB.out.cell (World.block_lt_of_cell? w _ hx0)).trans hx0
      replace hx1 := (HB.out.cell (World.block_lt_of_cell? w _ hx1)).trans hx1
      replace hx2 := (HB.out.cell (World.block_lt_of_cell? w _ hx2)).trans hx2
      replace hx3 := (HB.out.cell (World.block_lt_of_cell? w _ hx3)).trans hx3
      replace hx4 := (HB.out.cell (World.block_lt_of_cell? w _ hx4)).trans hx4
      replace hx5 := (HB.out.cell (World.block_lt_of_cell? w _ hx5)).trans hx5
      replace hx6 := (HB.out.cell (World.block_lt_of_cell? w _ hx6)).trans hx6
      replace hx7 := (HB.out.cell (World.block_lt_of_cell? w _ hx7)).trans hx7
      replace hx8 := (HB.out.cell (World.block_lt_of_cell? w _ hx8)).trans hx8
      replace hx9 := (HB.out.cell (World.block_lt_of_cell? w _ hx9)).trans hx9
      replace hx10 := (HB.out.cell (World.block_lt_of_cell? w _ hx10)).trans hx10
      replace hx11 := (HB.out.cell (World.block_lt_of_cell? w _ hx11)).trans hx11
      replace hx12 := (HB.out.cell (World.block_lt_of_cell? w _ hx12)).trans hx12
      have q0 : (0 ≤ ((i : Nat) : Int)) = True := by simp
      have q1 : (((i : Nat) : Int) < (l1.length : Int)) = True := by simp; exact hi
      have HD := Aside0.mk (List.drop_eq_getElem_cons hi)
      generalize l1[i]'hi = x at hx0 hx1 hx2 hx3 hx4 hx5 hx6 hx7 hx8 hx9 hx10 hx11 hx12 HD
      have HI := Aside0.mk hi
      obtain ⟨v, hv⟩ : ∃ v, v = chk30 x := ⟨_, rfl⟩
      have HQ := Aside0.mk (check_eq 0 x.f0.f0 x.f0.f1 x.f1 x.f2.f0 x.f2.f1 x.f3 x.f4.f0 x.f4.f1 x.f4.f2 x.f4.f3 x.f4.f4 x.f4.f5 x.f4.f6)
      rw [show chkE x.f0.f0 x.f0.f1 x.f1 x.f2.f0 x.f2.f1 x.f3 x.f4.f0 x.f4.f1 x.f4.f2 x.f4.f3 x.f4.f4 x.f4.f5 x.f4.f6 = v from hv.symm] at HQ
      have HV2 := Aside0.mk hv
      clear hi hv
      go_upto_region 8 with (fail)
      have HB1 : Aside0 (Below w.heap.size w (wr.alloc (.cells #[.int .i64 x.f0.f0, .int .i64 x.f0.f1, .int .i64 x.f1, .int .i64 x.f2.f0, .int .i64 x.f2.f1, .bool x.f3, .int .i64 x.f4.f0, .int .i64 x.f4.f1, .int .i64 x.f4.f2, .int .i64 x.f4.f3, .int .i64 x.f4.f4, .int .i64 x.f4.f5, .int .i64 x.f4.f6] 30))) := ⟨below_alloc HB.out _⟩
      have B01 : Aside0 ((wr.alloc (.cells #[.int .i64 x.f0.f0, .int .i64 x.f0.f1, .int .i64 x.f1, .int .i64 x.f2.f0, .int .i64 x.f2.f1, .bool x.f3, .int .i64 x.f4.f0, .int .i64 x.f4.f1, .int .i64 x.f4.f2, .int .i64 x.f4.f3, .int .i64 x.f4.f4, .int .i64 x.f4.f5, .int .i64 x.f4.f6] 30)).heap[g0]? = some (.cells #[.int .i64 a0, .slice (some adx) l1.length c1] 24 (0, 0))) := ⟨blk_alloc B0.out _⟩
      have B4 : Aside0 ((wr.alloc (.cells #[.int .i64 x.f0.f0, .int .i64 x.f0.f1, .int .i64 x.f1, .int .i64 x.f2.f0, .int .i64 x.f2.f1, .bool x.f3, .int .i64 x.f4.f0, .int .i64 x.f4.f1, .int .i64 x.f4.f2, .int .i64 x.f4.f3, .int .i64 x.f4.f4, .int .i64 x.f4.f5, .int .i64 x.f4.f6] 30)).heap[wr.heap.size]? = some (.cells #[.int .i64 x.f0.f0, .int .i64 x.f0.f1, .int .i64 x.f1, .int .i64 x.f2.f0, .int .i64 x.f2.f1, .bool x.f3, .int .i64 x.f4.f0, .int .i64 x.f4.f1, .int .i64 x.f4.f2, .int .i64 x.f4.f3, .int .i64 x.f4.f4, .int .i64 x.f4.f5, .int .i64 x.f4.f6] 30 (0, 0))) := ⟨blk_new _ _⟩
      generalize (wr.alloc (.cells #[.int .i64 x.f0.f0, .int .i64 x.f0.f1, .int .i64 x.f1, .int .i64 x.f2.f0, .int .i64 x.f2.f1, .bool x.f3, .int .i64 x.f4.f0, .int .i64 x.f4.f1, .int .i64 x.f4.f2, .int .i64 x.f4.f3, .int .i64 x.f4.f4, .int .i64 x.f4.f5, .int .i64 x.f4.f6] 30)) = W1 at HB1 B01 B4 ⊢
      generalize wr.heap.size = g4 at B4 ⊢
      clear HB B0 hc0 hx0 hx1 hx2 hx3 hx4 hx5 hx6 hx7 hx8 hx9 hx10 hx11 hx12
      have hc4 := blk_cell B4.out
      by_cases hz : v = 0
      · subst hz
        have HS2 : Aside0 (chkL30 l1 = chkL30 (l1.drop (i + 1))) := ⟨by rw [HS.out, HD.out]; show (if chk30 x = 0 then _ else _) = _; rw [if_pos HV2.out.symm]⟩
        go_wp2_with (first | ((with_reducible refine gate_callee (f := 54) rfl ?_); refine goesL_ (some 30) rfl rfl Try.func54 (by kernel_rfl) rfl #[.agg #[.int .i64 x.f0.f0, .int .i64 x.f0.f1, .int .i64 x.f1, .int .i64 x.f2.f0, .int .i64 x.f2.f1, .bool x.f3, .int .i64 x.f4.f0, .int .i64 x.f4.f1, .int .i64 x.f4.f2, .int .i64 x.f4.f3, .int .i64 x.f4.f4, .int .i64 x.f4.f5, .int .i64 x.f4.f6]] rfl (by (try simp only [List.map_toArray, List.map_cons, List.map_nil]); first | done | (go_simp; done) | rfl) ?_; refine (edits_Check.calls _ _ _ _ _ _ _ _ _ _ _ _ _ _ _ _ HQ.out).mono ?_; rintro e w2 ⟨rfl, hb⟩; refine ⟨_, rfl, ?_⟩; have HB2 := Aside0.mk (below_step (hU HB1.out) hb); have B02 := Aside0.mk (blk_below B01.out hb); clear hb))
        go_roundg k1
        case measure => have := HK.out; omega
        case rel => exact ⟨i + 1, by first | (simp; done) | (simp; unfold wrap64; have := HN.out; have := HI.out; omega), ⟨by have := HK.out; omega⟩, HS2, B02, HB2⟩
      · have hr : v = r := by
          have h := HX.out
          have h3 : chkL30 l1 = v := by rw [HS.out, HD.out]; show (if chk30 x = 0 then _ else _) = _; rw [if_neg (by rw [← HV2.out]; exact hz), HV2.out]
          rw [h3, if_neg hz] at h
          exact h
        subst hr
        have hz2 : (v != 0) = true := by simp; exact hz
        go_wp2_with (first | ((with_reducible refine gate_callee (f := 54) rfl ?_); refine goesL_ (some 30) rfl rfl Try.func54 (by kernel_rfl) rfl #[.agg #[.int .i64 x.f0.f0, .int .i64 x.f0.f1, .int .i64 x.f1, .int .i64 x.f2.f0, .int .i64 x.f2.f1, .bool x.f3, .int .i64 x.f4.f0, .int .i64 x.f4.f1, .int .i64 x.f4.f2, .int .i64 x.f4.f3, .int .i64 x.f4.f4, .int .i64 x.f4.f5, .int .i64 x.f4.f6]] rfl (by (try simp only [List.map_toArray, List.map_cons, List.map_nil]); first | done | (go_simp; done) | rfl) ?_; refine (edits_Check.calls _ _ _ _ _ _ _ _ _ _ _ _ _ _ _ _ HQ.out).mono ?_; rintro e w2 ⟨rfl, hb⟩; refine ⟨_, rfl, ?_⟩; have HB2 := Aside0.mk (below_step (hU HB1.out) hb); have B02 := Aside0.mk (blk_below B01.out hb); clear hb))
        (try rw [Exit.noGoto_ret])
        go_ret
        exact ⟨rfl, HB2.out⟩
    | zero =>
      have hi : i = l1.length := by have := HK.out; omega
      have hlt : decide (i < l1.length) = false := by simp; omega
      have H2 : Aside0 ((if ord30 l1 = true then (if l1.all (kno30 l1) = true then 0 else 6) else 5) = r) := ⟨by have h := HX.out; rw [HS.out, hi, List.drop_length, if_pos (show chkL30 [] = 0 from rfl)] at h; exact h⟩
      clear HX HS HK hi
      go_wp2
      clear hlt
      go_loopg [6] l1.length (fun kq v6 W => ∃ (i : Nat) (X : Int), v6 = .int .i64 X ∧ Aside0 (X = (i : Int) + 1) ∧ Aside0 (l1.length ≤ i + 1 + kq) ∧ Aside0 (i ≤ l1.length) ∧ Aside0 (ord30 l1 = ord30 (l1.drop i)) ∧ Aside0 (W.heap[g0]? = some (.cells #[.int .i64 a0, .slice A1 l1.length c1] 24 (0, 0))) ∧ Aside0 (Below w.heap.size w W))
      case atStart => exact ⟨0, 1, rfl, ⟨by omega⟩, ⟨by omega⟩, ⟨by omega⟩, ⟨by rw [List.drop_zero]⟩, B0, HB⟩
      case round =>
       clear HB B0 hc0
       obtain ⟨i, X, rfl, HX, HK, HI, HS, B0, HB⟩ := hrel
       have hc0 := blk_cell B0.out
       by_cases hi : i + 1 < l1.length
       · have hlt : decide (X < (l1.length : Int)) = true := by have := HX.out; simp; omega
         have hi0 : i < l1.length := by omega
         have hX : X = ((i + 1 : Nat) : Int) := by have := HX.out; omega
         obtain ⟨J, hJ⟩ : ∃ J : Int, J = (i : Int) := ⟨_, rfl⟩
         have hwJ : wrap64 (X - 1) = J := by have := HN.out; unfold wrap64; omega
         have hX0 : 0 ≤ X := by omega
         have hX1 : X < (l1.length : Int) := by omega
         have hJ0 : 0 ≤ J := by omega
         have hJ1 : J < (l1.length : Int) := by omega
         obtain ⟨adx, e0x, hx0, hx1, hx2, hx3, hx4, hx5, hx6, hx7, hx8, hx9, hx10, hx11, hx12⟩ := at_T30 HR.out J hJ0 hJ1
         cases e0x
         obtain ⟨ady, e0y, hy0, hy1, hy2, hy3, hy4, hy5, hy6, hy7, hy8, hy9, hy10, hy11, hy12⟩ := at_T30 HR.out X hX0 hX1
         cases e0y
         have hx_ : rd_T30 l1 J = l1[i] := by rw [hJ]; exact rd30_at hi0
         have hy_ : rd_T30 l1 X = l1[i + 1] := by rw [hX]; exact rd30_at hi
         have HD := Aside0.mk (List.drop_eq_getElem_cons hi0)
         have HD2 := Aside0.mk (List.drop_eq_getElem_cons hi)
         rw [← hx_] at HD
         rw [← hy_] at HD2
         rw [show (i + 1 : Nat) = i + 1 from rfl] at HD2
         generalize rd_T30 l1 J = x at hx0 hx1 hx2 hx3 hx4 hx5 hx6 hx7 hx8 hx9 hx10 hx11 hx12 HD
         generalize rd_T30 l1 X = y at hy0 hy1 hy2 hy3 hy4 hy5 hy6 hy7 hy8 hy9 hy10 hy11 hy12 HD2
         have hwx0 := hx0
         have hwx1 := hx1
         have hwy0 := hy0
         have hwy1 := hy1
         replace hx0 := (HB.out.cell (World.block_lt_of_cell? w _ hx0)).trans hx0
         replace hx1 := (HB.out.cell (World.block_lt_of_cell? w _ hx1)).trans hx1
         replace hy0 := (HB.out.cell (World.block_lt_of_cell? w _ hy0)).trans hy0
         replace hy1 := (HB.out.cell (World.block_lt_of_cell? w _ hy1)).trans hy1
         clear hx2 hx3 hx4 hx5 hx6 hx7 hx8 hx9 hx10 hx11 hx12 hy2 hy3 hy4 hy5 hy6 hy7 hy8 hy9 hy10 hy11 hy12
         have q0 : (0 ≤ J) = True := eq_true hJ0
         have q1 : (J < (l1.length : Int)) = True := eq_true hJ1
         have q2 : (0 ≤ X) = True := eq_true hX0
         have q3 : (X < (l1.length : Int)) = True := eq_true hX1
         have HXi := Aside0.mk hX
         clear hX0 hX1 hJ0 hJ1 hX hJ hx_ hy_ hi0
         obtain ⟨b, hb0⟩ : ∃ b, b = less26 x.f0 y.f0 := ⟨_, rfl⟩
         have HQ := Aside0.mk (eless_eq x.f0.f0 x.f0.f1 y.f0.f0 y.f0.f1)
         rw [show lessP x.f0.f0 x.f0.f1 y.f0.f0 y.f0.f1 = b from hb0.symm] at HQ
         have HS2 : Aside0 (ord30 l1 = (b && ord30 (l1.drop (i + 1)))) := ⟨by rw [HS.out, HD.out, HD2.out]; show (less26 x.f0 y.f0 && _) = _; rw [hb0]⟩
         have HI2 := Aside0.mk hi
         clear hb0 hi
         go_upto_region 15 with (fail)
         refine start_ (n := 15) (S := fun w' => w'.cell? ⟨g0, 1, none⟩ = some (.slice (some adx) l1.length c1) ∧ w'.cell? (adx.add (J.toNat * 13)) = some (.int .i64 x.f0.f0) ∧ w'.cell? ⟨(adx.add (J.toNat * 13)).block, (adx.add (J.toNat * 13)).off + 1, none⟩ = some (.int .i64 x.f0.f1) ∧ w'.cell? (adx.add (X.toNat * 13)) = some (.int .i64 y.f0.f0) ∧ w'.cell? ⟨(adx.add (X.toNat * 13)).block, (adx.add (X.toNat * 13)).off + 1, none⟩ = some (.int .i64 y.f0.f1)) (ds := []) (bs 15 0) rfl rfl (by kernel_rfl) ⟨(blk_cell B0.out 1).trans rfl, hx0, hx1, hy0, hy1⟩ (fun hHeld => ?_)
         refine puA 0 42 (bs 15 1) ?_
         refine tkA 1 43 (bs 15 3) hHeld ?_ (hy := Or.inl ⟨by rfl, by rintro w' ⟨s0, s1, s2, s3, s4⟩; go_simp; with_reducible rfl⟩)
         refine puA 2 44 (bs 15 7) ?_
         refine puA 3 45 (bs 15 15) ?_
         refine puA 4 46 (bs 15 31) ?_
         refine puA 5 47 (bs 15 63) ?_
         refine tkA 6 48 (bs 15 127) hHeld ?_ (hy := Or.inl ⟨by rfl, by rintro w' ⟨s0, s1, s2, s3, s4⟩; go_simp; with_reducible rfl⟩)
         refine puA 7 49 (bs 15 255) ?_
         refine tkA 8 50 (bs 15 511) hHeld ?_ (hy := Or.inl ⟨by rfl, by rintro w' ⟨s0, s1, s2, s3, s4⟩; go_simp; with_reducible rfl⟩)
         refine puA 9 51 (bs 15 1023) ?_
         refine puA 10 52 (bs 15 2047) ?_
         refine puA 11 53 (bs 15 4095) ?_
         refine tkA 12 54 (bs 15 8191) hHeld ?_ (hy := Or.inl ⟨by rfl, by rintro w' ⟨s0, s1, s2, s3, s4⟩; go_simp; with_reducible rfl⟩)
         refine one_ (i := 13) (N := some 55) (bs 15 16383) rfl rfl (by kernel_rfl) (by decide) (fun K hK => ?_)
         refine goes_ Try.func75 (by kernel_rfl) rfl #[.agg #[.int .i64 x.f0.f0, .int .i64 x.f0.f1], .agg #[.int .i64 y.f0.f0, .int .i64 y.f0.f1]] (by rfl) rfl rfl (by (try simp only [List.map_toArray, List.map_cons, List.map_nil]); first | done | (go_simp; done) | rfl) ?_
         refine (edits_Less.calls _ _ _ _ b _ HQ.out).mono ?_
         rintro e w2 ⟨rfl, hb⟩
         refine ⟨_, rfl, ?_⟩
         have HB2 := Aside0.mk (below_step (hU HB.out) hb)
         have B02 := Aside0.mk (blk_below (bU B0.out) hb)
         clear hb
         refine hK.out _ _ ⟨(blk_cell B02.out 1).trans rfl, hbC HB2 hwx0, hbC HB2 hwx1, hbC HB2 hwy0, hbC HB2 hwy1⟩ (fun hHeld => ?_)
         clear hK K
         refine nmA 55 ?_
         refine puA 14 56 (bs 15 32767) ?_
         refine done_ (by kernel_rfl) ?_
         clear HB B0 hc0 hwx0 hwx1 hwy0 hwy1 hx0 hx1 hy0 hy1
         have hc0 := blk_cell B02.out
         cases b
         · have hr : r = 5 := by
             have h := H2.out
             rw [HS2.out, Bool.false_and, if_neg (by decide)] at h
             exact h.symm
           subst hr
           go_wp2
           (try rw [Exit.noGoto_ret])
           go_ret
           exact ⟨rfl, HB2.out⟩
         · go_wp2
           cases gk with
           | zero => have := HK.out; have := HI2.out; omega
           | succ k1 =>
             go_roundg k1
             case measure => have := HK.out; omega
             case rel => exact ⟨i + 1, _, rfl, ⟨by have := HXi.out; have := HN.out; have := HI2.out; unfold wrap64; omega⟩, ⟨by have := HK.out; omega⟩, ⟨by have := HI2.out; omega⟩, ⟨by rw [HS2.out, Bool.true_and]⟩, B02, HB2⟩
       · have hlt : decide (X < (l1.length : Int)) = false := by have := HX.out; simp; omega
         have h1 : ord30 l1 = true := by
           rw [HS.out]
           have : (l1.drop i).length ≤ 1 := by rw [List.length_drop]; omega
           match hd : l1.drop i, this with
           | [], _ => rfl
           | [a], _ => rfl
           | a :: b :: l, h => simp at h
         have H3 : Aside0 ((if l1.all (kno30 l1) = true then 0 else 6) = r) := ⟨by rw [← H2.out, if_pos h1]⟩
         clear HX HK HI HS H2 h1 hi
         go_wp2_with (first | ((with_reducible refine gate_callee (f := 57) rfl ?_); refine goesL_ (some 59) rfl rfl Try.func57 (by kernel_rfl) rfl #[.slice A1 l1.length c1] rfl (by (try simp only [List.map_toArray, List.map_cons, List.map_nil]); first | done | (go_simp; done) | rfl) ?_; refine (founders_calls A1 c1 l1 _ (Kd.C_below HR.out (hU HB.out)) HC.out (by have := HN.out; omega) HV.out).mono ?_; rintro e w2 ⟨B, D, rfl, ho, hs, hB, hb⟩; refine ⟨_, rfl, ?_⟩; have HO := Aside0.mk ho; have HS := Aside0.mk hs; have HB2 := Aside0.mk (below_step (hU HB.out) hb); have B02 := Aside0.mk (blk_below (bU B0.out) hb); clear ho hs hb hB; clear HB B0 hc0; have hc0 := blk_cell B02.out))
         clear hlt
         go_loopg [63] l1.length (fun kq v63 W => ∃ (i : Nat), v63 = .int .i64 (i : Int) ∧ Aside0 (i + kq = l1.length) ∧ Aside0 (l1.all (kno30 l1) = (l1.drop i).all (kno30 l1)) ∧ Aside0 (World.ownsMap (H := Unit) W Try.prog 82 (plainElem Try.prog 4) B l1.length D) ∧ Aside0 (W.heap[g0]? = some (.cells #[.int .i64 a0, .slice A1 l1.length c1] 24 (0, 0))) ∧ Aside0 (Below w.heap.size w W))
         case atStart => exact ⟨0, rfl, ⟨by omega⟩, ⟨by rw [List.drop_zero]⟩, HO, B02, HB2⟩
         case round =>
          clear HB2 B02 hc0 HO
          obtain ⟨i, rfl, HK, HT, HO, B0, HB⟩ := hrel
          have hc0 := blk_cell B0.out
          cases gk with
          | zero =>
            have hi : i = l1.length := by have := HK.out; omega
            have hlt : decide (i < l1.length) = false := by simp; omega
            have hr : r = 0 := by
              have h := H3.out
              rw [HT.out, hi, List.drop_length, if_pos (show ([] : List S30).all (kno30 l1) = true from rfl)] at h
              exact h.symm
            subst hr
            clear HK HT hi
            go_wp2
            go_ret
            exact ⟨rfl, HB.out⟩
          | succ k1 =>
            have hi : i < l1.length := by have := HK.out; omega
            have hlt : decide (i < l1.length) = true := by simp; exact hi
            obtain ⟨adx, e0x, hx0, hx1, hx2, hx3, hx4, hx5, hx6, hx7, hx8, hx9, hx10, hx11, hx12⟩ := at_T30 HR.out (i : Int) (by omega) (by omega)
            cases e0x
            rw [Int.toNat_natCast] at hx0 hx1 hx2 hx3 hx4 hx5 hx6 hx7 hx8 hx9 hx10 hx11 hx12
            rw [rd30_at hi] at hx0 hx1 hx2 hx3 hx4 hx5 hx6 hx7 hx8 hx9 hx10 hx11 hx12
            replace hx0 := (HB.out.cell (World.block_lt_of_cell? w _ hx0)).trans hx0
            replace hx1 := (HB.out.cell (World.block_lt_of_cell? w _ hx1)).trans hx1
            replace hx2 := (HB.out.cell (World.block_lt_of_cell? w _ hx2)).trans hx2
            replace hx3 := (HB.out.cell (World.block_lt_of_cell? w _ hx3)).trans hx3
            replace hx4 := (HB.out.cell (World.block_lt_of_cell? w _ hx4)).trans hx4
            replace hx5 := (HB.out.cell (World.block_lt_of_cell? w _ hx5)).trans hx5
            replace hx6 := (HB.out.cell (World.block_lt_of_cell? w _ hx6)).trans hx6
            replace hx7 := (HB.out.cell (World.block_lt_of_cell? w _ hx7)).trans hx7
            replace hx8 := (HB.out.cell (World.block_lt_of_cell? w _ hx8)).trans hx8
            replace hx9 := (HB.out.cell (World.block_lt_of_cell? w _ hx9)).trans hx9
            replace hx10 := (HB.out.cell (World.block_lt_of_cell? w _ hx10)).trans hx10
            replace hx11 := (HB.out.cell (World.block_lt_of_cell? w _ hx11)).trans hx11
            replace hx12 := (HB.out.cell (World.block_lt_of_cell? w _ hx12)).trans hx12
            have q0 : (0 ≤ ((i : Nat) : Int)) = True := by simp
            have q1 : (((i : Nat) : Int) < (l1.length : Int)) = True := by simp; exact hi
            have HD := Aside0.mk (List.drop_eq_getElem_cons hi)
            have HE := Aside0.mk (HV.out _ (List.getElem_mem hi))
            generalize l1[i]'hi = x at hx0 hx1 hx2 hx3 hx4 hx5 hx6 hx7 hx8 hx9 hx10 hx11 hx12 HD HE
            have HI := Aside0.mk hi
            obtain ⟨b, hb0⟩ : ∃ b, b = kno30 l1 x := ⟨_, rfl⟩
            have HAT : Aside0 (D.atKey (kS x.f1 x.f2.f0 x.f2.f1) (.lit (.bool false)) = .lit (.bool b)) := ⟨by rw [HS.out x.f1 x.f2.f0 x.f2.f1 HE.out.1 HE.out.2.1 HE.out.2.2, hb0]; rfl⟩
            have HS2 : Aside0 (l1.all (kno30 l1) = (b && (l1.drop (i + 1)).all (kno30 l1))) := ⟨by rw [HT.out, HD.out, List.all_cons, hb0]⟩
            clear hi hb0
            go_upto_region 21 with (fail)
            have HB1 : Aside0 (Below w.heap.size w (wr.alloc (.cells #[.int .i64 x.f0.f0, .int .i64 x.f0.f1, .int .i64 x.f1, .int .i64 x.f2.f0, .int .i64 x.f2.f1, .bool x.f3, .int .i64 x.f4.f0, .int .i64 x.f4.f1, .int .i64 x.f4.f2, .int .i64 x.f4.f3, .int .i64 x.f4.f4, .int .i64 x.f4.f5, .int .i64 x.f4.f6] 30))) := ⟨below_alloc HB.out _⟩
            have B01 : Aside0 ((wr.alloc (.cells #[.int .i64 x.f0.f0, .int .i64 x.f0.f1, .int .i64 x.f1, .int .i64 x.f2.f0, .int .i64 x.f2.f1, .bool x.f3, .int .i64 x.f4.f0, .int .i64 x.f4.f1, .int .i64 x.f4.f2, .int .i64 x.f4.f3, .int .i64 x.f4.f4, .int .i64 x.f4.f5, .int .i64 x.f4.f6] 30)).heap[g0]? = some (.cells #[.int .i64 a0, .slice (some adx) l1.length c1] 24 (0, 0))) := ⟨blk_alloc B0.out _⟩
            have B9 : Aside0 ((wr.alloc (.cells #[.int .i64 x.f0.f0, .int .i64 x.f0.f1, .int .i64 x.f1, .int .i64 x.f2.f0, .int .i64 x.f2.f1, .bool x.f3, .int .i64 x.f4.f0, .int .i64 x.f4.f1, .int .i64 x.f4.f2, .int .i64 x.f4.f3, .int .i64 x.f4.f4, .int .i64 x.f4.f5, .int .i64 x.f4.f6] 30)).heap[wr.heap.size]? = some (.cells #[.int .i64 x.f0.f0, .int .i64 x.f0.f1, .int .i64 x.f1, .int .i64 x.f2.f0, .int .i64 x.f2.f1, .bool x.f3, .int .i64 x.f4.f0, .int .i64 x.f4.f1, .int .i64 x.f4.f2, .int .i64 x.f4.f3, .int .i64 x.f4.f4, .int .i64 x.f4.f5, .int .i64 x.f4.f6] 30 (0, 0))) := ⟨blk_new _ _⟩
            have HO1 : Aside0 (World.ownsMap (H := Unit) (wr.alloc (.cells #[.int .i64 x.f0.f0, .int .i64 x.f0.f1, .int .i64 x.f1, .int .i64 x.f2.f0, .int .i64 x.f2.f1, .bool x.f3, .int .i64 x.f4.f0, .int .i64 x.f4.f1, .int .i64 x.f4.f2, .int .i64 x.f4.f3, .int .i64 x.f4.f4, .int .i64 x.f4.f5, .int .i64 x.f4.f6] 30)) Try.prog 82 (plainElem Try.prog 4) B l1.length D) := ⟨HO.out.alloc _⟩
            generalize (wr.alloc (.cells #[.int .i64 x.f0.f0, .int .i64 x.f0.f1, .int .i64 x.f1, .int .i64 x.f2.f0, .int .i64 x.f2.f1, .bool x.f3, .int .i64 x.f4.f0, .int .i64 x.f4.f1, .int .i64 x.f4.f2, .int .i64 x.f4.f3, .int .i64 x.f4.f4, .int .i64 x.f4.f5, .int .i64 x.f4.f6] 30)) = W1 at HB1 B01 B9 HO1 ⊢
            generalize wr.heap.size = g9 at B9 ⊢
            clear HB B0 hc0 HO hx0 hx1 hx2 hx3 hx4 hx5 hx6 hx7 hx8 hx9 hx10 hx11 hx12
            have hc9 := blk_cell B9.out
            cases b
            · have hr : r = 6 := by
                have h := H3.out
                rw [HS2.out, Bool.false_and, if_neg (by decide)] at h
                exact h.symm
              subst hr
              go_wp2_with (first | ((with_reducible refine gate_dst (N := 73) rfl ?_); refine wpList_lookup_bool _ rfl _ _ 79 rfl 82 4 lawS Try.underlying79 Try.underlying4 (zeroB _) B l1.length D rfl HO1.out _ _ rfl (keyOf_S HE.out.1 HE.out.2.1 HE.out.2.2) _ HAT.out ?_))
              (try rw [Exit.noGoto_ret])
              go_ret
              exact ⟨rfl, HB1.out⟩
            · have HT2 : Aside0 (l1.all (kno30 l1) = (l1.drop (i + 1)).all (kno30 l1)) := ⟨by rw [HS2.out, Bool.true_and]⟩
              go_wp2_with (first | ((with_reducible refine gate_dst (N := 73) rfl ?_); refine wpList_lookup_bool _ rfl _ _ 79 rfl 82 4 lawS Try.underlying79 Try.underlying4 (zeroB _) B l1.length D rfl HO1.out _ _ rfl (keyOf_S HE.out.1 HE.out.2.1 HE.out.2.2) _ HAT.out ?_))
              go_roundg k1
              case measure => have := HK.out; omega
              case rel => exact ⟨i + 1, by first | (simp; done) | (simp; unfold wrap64; have := HN.out; have := HI.out; omega), ⟨by have := HK.out; omega⟩, HT2, HO1, B01, HB1⟩
end Go.Proofs.Yteopkkoblbmggaa.P
end
