/- Texts of this claim in one: JComp, Range, P61; no condition. -/
import Derived.Deep.Light
import Derived.WalkSpells
import Derived.Test.YteopkkoblbmggaaYAI
import Derived.Test.YteopkkoblbmggaaYAK
import Derived.RangeFuncNested
import Derived.RangeFuncBox
import Derived.RangeFuncCalls
import Derived.Test.YteopkkoblbmggaaYAD
import Derived.Test.YteopkkoblbmggaaYAH
section
set_option linter.unusedVariables false
set_option linter.unusedSimpArgs false
namespace Go.Proofs.Yteopkkoblbmggaa.P
open Go.RowKit Go.Shelf Go.Maps Go.Proofs.YteopkkoblbmggaaW.PrintWords Go.Proofs.YteopkkoblbmggaaW.PrintLast Go.Proofs.YteopkkoblbmggaaW.PrintMore
/-- The first and the last of the first j edits that are of a sign. -/
def fstF (l : List S30) : Nat → Int → Int → Option Nat
  | 0, _, _ => none
  | j + 1, c, d => match fstF l j c d with
    | some i => some i
    | none => if h : j < l.length then (if l[j].f2.f0 = c ∧ l[j].f2.f1 = d then some j else none) else none
def lstF (l : List S30) : Nat → Int → Int → Option Nat
  | 0, _, _ => none
  | j + 1, c, d => if h : j < l.length then (if l[j].f2.f0 = c ∧ l[j].f2.f1 = d then some j else lstF l j c d) else lstF l j c d
theorem fst_new {l : List S30} {j : Nat} (h : j < l.length) (hn : fstF l j l[j].f2.f0 l[j].f2.f1 = none) : (fun c d => if c = l[j].f2.f0 ∧ d = l[j].f2.f1 then some j else fstF l j c d) = fstF l (j + 1) := by
  funext c d
  simp only [fstF, dif_pos h]
  by_cases e : c = l[j].f2.f0 ∧ d = l[j].f2.f1
  · obtain ⟨rfl, rfl⟩ := e
    rw [hn]
    (try simp)
  · rw [if_neg e]
    have e2 : ¬ (l[j].f2.f0 = c ∧ l[j].f2.f1 = d) := fun q => e ⟨q.1.symm, q.2.symm⟩
    rw [if_neg e2]
    cases fstF l j c d <;> rfl
theorem fst_old {l : List S30} {j : Nat} (h : j < l.length) (hn : (fstF l j l[j].f2.f0 l[j].f2.f1).isSome = true) : fstF l j = fstF l (j + 1) := by
  funext c d
  simp only [fstF, dif_pos h]
  by_cases e : l[j].f2.f0 = c ∧ l[j].f2.f1 = d
  · obtain ⟨rfl, rfl⟩ := e
    cases hq : fstF l j l[j].f2.f0 l[j].f2.f1 with
    | none => rw [hq] at hn; cases hn
    | some i => rfl
  · rw [if_neg e]
    cases fstF l j c d <;> rfl
theorem lst_new {l : List S30} {j : Nat} (h : j < l.length) : (fun c d => if c = l[j].f2.f0 ∧ d = l[j].f2.f1 then some j else lstF l j c d) = lstF l (j + 1) := by
  funext c d
  simp only [lstF, dif_pos h]
  by_cases e : c = l[j].f2.f0 ∧ d = l[j].f2.f1
  · rw [if_pos e, if_pos ⟨e.1.symm, e.2.symm⟩]
  · rw [if_neg e, if_neg (fun q => e ⟨q.1.symm, q.2.symm⟩)]
/-- Which edits Compact keeps. -/
def kpC (l : List S30) (i : Nat) : Bool := if h : i < l.length then ((((fstF l l.length l[i].f2.f0 l[i].f2.f1).getD 0 : Nat) : Int) == (i : Int) || (((lstF l l.length l[i].f2.f0 l[i].f2.f1).getD 0 : Nat) : Int) == (i : Int)) else false
def journal_Compact.f (k : Nat) (a0 : Int) (l1 : List S30) : Option (List Int × Int) := if l1.length ≤ 1000000 then wrA k (kpC l1) a0 l1 else none
theorem journal_Compact.mono : ∀ a0 a1 k, LeO (journal_Compact.f k a0 a1) (journal_Compact.f (k + 1) a0 a1) := fun a0 a1 k r h => by
  unfold journal_Compact.f at h ⊢
  split at h
  · rename_i hl
    rw [if_pos hl]
    exact wrA_mono k _ a0 a1 r h
  · cases h
set_option maxHeartbeats 16000000 in
set_option maxRecDepth 100000 in
/-- The function that Compact hands on. -/
theorem compact1_calls (i : Nat) (x : S30) (hx : okE30 x) (p4 p5 m4 m5 n : Nat) (D4 D5 : DataW Unit) (v4 v5 : Int) (W : World) (hp4 : W.heap[p4]? = some (.cells #[.map (some m4)] 121 (0, 0))) (hp5 : W.heap[p5]? = some (.cells #[.map (some m5)] 121 (0, 0)))
    (ho4 : World.ownsMap (H := Unit) W Try.prog 26 (plainElem Try.prog 3) m4 n D4) (ho5 : World.ownsMap (H := Unit) W Try.prog 26 (plainElem Try.prog 3) m5 n D5)
    (hv4 : D4.atKey (kT x.f2.f0 x.f2.f1) (.lit (.int .i64 0)) = .lit (.int .i64 v4)) (hv5 : D5.atKey (kT x.f2.f0 x.f2.f1) (.lit (.int .i64 0)) = .lit (.int .i64 v5)) :
    Calls Try.prog 92 (#[.int .i64 i, .agg (cE x).toArray] ++ #[.pointer (some ⟨p4, 0, none⟩), .pointer (some ⟨p5, 0, none⟩)]) W fun e W' => e = .returned (.bool (v4 == (i : Int) || v5 == (i : Int))) ∧ Below W.heap.size W W' := by
  show Calls Try.prog 92 #[.int .i64 i, .agg #[.int .i64 x.f0.f0, .int .i64 x.f0.f1, .int .i64 x.f1, .int .i64 x.f2.f0, .int .i64 x.f2.f1, .bool x.f3, .int .i64 x.f4.f0, .int .i64 x.f4.f1, .int .i64 x.f4.f2, .int .i64 x.f4.f3, .int .i64 x.f4.f4, .int .i64 x.f4.f5, .int .i64 x.f4.f6], .pointer (some ⟨p4, 0, none⟩), .pointer (some ⟨p5, 0, none⟩)] W _
  have HB := Aside0.mk (Below.refl W.heap.size W)
  have B4 := Aside0.mk hp4
  have B5 := Aside0.mk hp5
  have O4 := Aside0.mk ho4
  have O5 := Aside0.mk ho5
  have V4 := Aside0.mk hv4
  have V5 := Aside0.mk hv5
  have HE := Aside0.mk hx
  have hu30 := Try.underlying30
  clear hp4 hp5 ho4 ho5 hv4 hv5 hx
  obtain ⟨b4, hb4⟩ : ∃ b, (v4 == (i : Int)) = b := ⟨_, rfl⟩
  cases b4
  · obtain ⟨b5, hb5⟩ : ∃ b, (v5 == (i : Int)) = b := ⟨_, rfl⟩
    go_enter Try.func92, Try.ntmps92
    go_wp2_with (first | ((with_reducible refine gate_dst (N := 5) rfl ?_); refine box_event ?hg (N := 5) ?hd (cs := #[.int .i64 x.f0.f0, .int .i64 x.f0.f1, .int .i64 x.f1, .int .i64 x.f2.f0, .int .i64 x.f2.f1, .bool x.f3, .int .i64 x.f4.f0, .int .i64 x.f4.f1, .int .i64 x.f4.f2, .int .i64 x.f4.f3, .int .i64 x.f4.f4, .int .i64 x.f4.f5, .int .i64 x.f4.f6]) (t := 30) ?hr ?_; (case hd => rfl); (case hg => rfl); (case hr => first | (go_simp; done) | (go_simp; rfl)); intro g5 hg W5 hbox hb; replace B4 := Aside0.mk (blk_below (bU B4.out) hb); replace B5 := Aside0.mk (blk_below (bU B5.out) hb); replace O4 := Aside0.mk (ownsMap_below O4.out hb); replace O5 := Aside0.mk (ownsMap_below O5.out hb); replace HB := Aside0.mk (below_step (hU HB.out) hb); have hcx := blk_cell hbox; have hc4 := blk_cell B4.out; have hc5 := blk_cell B5.out; clear hb hbox hg) | ((with_reducible refine gate_dst (N := 10) rfl ?_); refine wpList_lookup_I _ rfl _ _ 121 rfl 26 3 lawT Try.underlying121 Try.underlying3 (zeroI _) m4 n D4 rfl O4.out (.agg #[.int .i64 x.f2.f0, .int .i64 x.f2.f1]) _ rfl (keyOf_T HE.out.2.1 HE.out.2.2) v4 V4.out ?_) | ((with_reducible refine gate_dst (N := 17) rfl ?_); refine gate_guard (by rfl) ?_; refine wpList_lookup_I _ rfl _ _ 121 rfl 26 3 lawT Try.underlying121 Try.underlying3 (zeroI _) m5 n D5 rfl O5.out (.agg #[.int .i64 x.f2.f0, .int .i64 x.f2.f1]) _ rfl (keyOf_T HE.out.2.1 HE.out.2.2) v5 V5.out ?_))
    go_ret
    exact ⟨by rw [hb4, hb5]; rfl, hU HB.out⟩
  · go_enter Try.func92, Try.ntmps92
    go_wp2_with (first | ((with_reducible refine gate_dst (N := 5) rfl ?_); refine box_event ?hg (N := 5) ?hd (cs := #[.int .i64 x.f0.f0, .int .i64 x.f0.f1, .int .i64 x.f1, .int .i64 x.f2.f0, .int .i64 x.f2.f1, .bool x.f3, .int .i64 x.f4.f0, .int .i64 x.f4.f1, .int .i64 x.f4.f2, .int .i64 x.f4.f3, .int .i64 x.f4.f4, .int .i64 x.f4.f5, .int .i64 x.f4.f6]) (t := 30) ?hr ?_; (case hd => rfl); (case hg => rfl); (case hr => first | (go_simp; done) | (go_simp; rfl)); intro g5 hg W5 hbox hb; replace B4 := Aside0.mk (blk_below (bU B4.out) hb); replace B5 := Aside0.mk (blk_below (bU B5.out) hb); replace O4 := Aside0.mk (ownsMap_below O4.out hb); replace O5 := Aside0.mk (ownsMap_below O5.out hb); replace HB := Aside0.mk (below_step (hU HB.out) hb); have hcx := blk_cell hbox; have hc4 := blk_cell B4.out; have hc5 := blk_cell B5.out; clear hb hbox hg) | ((with_reducible refine gate_dst (N := 10) rfl ?_); refine wpList_lookup_I _ rfl _ _ 121 rfl 26 3 lawT Try.underlying121 Try.underlying3 (zeroI _) m4 n D4 rfl O4.out (.agg #[.int .i64 x.f2.f0, .int .i64 x.f2.f1]) _ rfl (keyOf_T HE.out.2.1 HE.out.2.2) v4 V4.out ?_))
    go_ret
    exact ⟨by rw [hb4]; rfl, hU HB.out⟩
set_option maxHeartbeats 16000000 in
set_option maxRecDepth 100000 in
theorem journal_Compact.calls (k : Nat) (a0 : Int) (A1 : Option Addr) (c1 : Nat) (l1 : List S30) (r0 : List Int) (r1 : Int) (w : World) (hr1 : Kd.C k30 w A1 l1.length l1) (hc1 : l1.length ≤ c1) (h : journal_Compact.f k a0 l1 = some (r0, r1)) :
    Calls Try.prog 46 #[.agg #[.int .i64 a0, .slice A1 l1.length c1]] w fun e w' => ∃ v0_ : Value, e = .returned (.tuple #[v0_, .int .i64 r1]) ∧ Kd.R (Kd.int .u8) 5 w' w.heap.size (fun _ => True) v0_ r0 ∧ Below w.heap.size w w' := by
  unfold journal_Compact.f at h
  by_cases hl : l1.length ≤ 1000000
  rotate_left
  · rw [if_neg hl] at h; cases h
  rw [if_pos hl] at h
  have hv : ∀ e ∈ l1, okE30 e := by
    unfold wrA at h
    by_cases hv : ∀ e ∈ l1, okE30 e
    · exact hv
    · rw [if_neg hv] at h; cases h
  have HR := Aside0.mk hr1
  have HC := Aside0.mk hc1
  have HL := Aside0.mk hl
  have HV := Aside0.mk hv
  have HH := Aside0.mk h
  have HB := Aside0.mk (Below.refl w.heap.size w)
  have hu24 := Try.underlying24
  have hu30 := Try.underlying30
  have hmm := @run_makeMap Try.prog
  clear hr1 hc1 hl hv h
  go_enter Try.func46, Try.ntmps46
  go_upto_region 2 with (first | ((with_reducible refine gate_dst (N := 1) rfl ?_); refine box_event ?hg (N := 1) ?hd (cs := #[.int .i64 a0, .slice A1 l1.length c1]) (t := 24) ?hr ?_; (case hd => rfl); (case hg => rfl); (case hr => first | (go_simp; done) | (go_simp; rfl)); intro g1 hg W1 hbox hb; have hge_ := below_size (hU HB.out); rw [← hg] at hge_; have G1 := Aside0.mk hge_; clear hge_; replace HB := Aside0.mk (below_step (hU HB.out) hb); have B1 := Aside0.mk hbox; clear hb hbox hg) | ((with_reducible refine gate_dst (N := 10) rfl ?_); refine map_event (P := Try.prog) 26 (plainElem Try.prog 3) ?hg ?hr ?_; (case hg => rfl); (case hr => first | (go_simp; done) | (go_simp; rfl)); intro m4 hg V4 hown hb; have hge_ := below_size (hU HB.out); rw [← hg] at hge_; have GM4 := Aside0.mk hge_; clear hge_; replace B1 := Aside0.mk (blk_below (bU B1.out) hb); replace HB := Aside0.mk (below_step (hU HB.out) hb); have O4 := Aside0.mk hown; clear hb hown hg) | ((with_reducible refine gate_dst (N := 11) rfl ?_); refine map_event (P := Try.prog) 26 (plainElem Try.prog 3) ?hg ?hr ?_; (case hg => rfl); (case hr => first | (go_simp; done) | (go_simp; rfl)); intro m5 hg V5 hown hb; have hlt_ := O4.out.lt; rw [← hg] at hlt_; have NM := Aside0.mk (Nat.ne_of_lt hlt_); clear hlt_; have hge_ := below_size (hU HB.out); rw [← hg] at hge_; have GM5 := Aside0.mk hge_; clear hge_; replace B1 := Aside0.mk (blk_below (bU B1.out) hb); replace O4 := Aside0.mk (ownsMap_below O4.out hb); replace HB := Aside0.mk (below_step (hU HB.out) hb); have O5 := Aside0.mk hown; clear hb hown hg) | ((with_reducible refine gate_dst (N := 4) rfl ?_); refine box_event ?hg (N := 4) ?hd (cs := #[.map none]) (t := 121) ?hr ?_; (case hd => rfl); (case hg => rfl); (case hr => first | (go_simp; done) | (go_simp; rfl)); intro g4 hg W4 hbox hb; have hne_ := Nat.ne_of_lt (blk_lt (bU B1.out)); rw [← hg] at hne_; have N1_4 := Aside0.mk hne_; clear hne_; replace B1 := Aside0.mk (blk_below (bU B1.out) hb); replace O4 := Aside0.mk (ownsMap_below O4.out hb); replace O5 := Aside0.mk (ownsMap_below O5.out hb); have hge_ := below_size (hU HB.out); rw [← hg] at hge_; have G4 := Aside0.mk hge_; clear hge_; replace HB := Aside0.mk (below_step (hU HB.out) hb); have B4 := Aside0.mk hbox; clear hb hbox hg) | ((with_reducible refine gate_dst (N := 5) rfl ?_); refine box_event ?hg (N := 5) ?hd (cs := #[.map none]) (t := 121) ?hr ?_; (case hd => rfl); (case hg => rfl); (case hr => first | (go_simp; done) | (go_simp; rfl)); intro g5 hg W5 hbox hb; have hne_ := Nat.ne_of_lt (blk_lt (bU B1.out)); rw [← hg] at hne_; have N1_5 := Aside0.mk hne_; clear hne_; replace B1 := Aside0.mk (blk_below (bU B1.out) hb); have hne_ := Nat.ne_of_lt (blk_lt (bU B4.out)); rw [← hg] at hne_; have N4_5 := Aside0.mk hne_; clear hne_; replace B4 := Aside0.mk (blk_below (bU B4.out) hb); replace O4 := Aside0.mk (ownsMap_below O4.out hb); replace O5 := Aside0.mk (ownsMap_below O5.out hb); have hge_ := below_size (hU HB.out); rw [← hg] at hge_; have G5 := Aside0.mk hge_; clear hge_; replace HB := Aside0.mk (below_step (hU HB.out) hb); have B5 := Aside0.mk hbox; clear hb hbox hg; have hc1 := blk_cell B1.out; have hc4 := blk_cell B4.out; have hf4 := blk_frozen B4.out; have hc5 := blk_cell B5.out; have hf5 := blk_frozen B5.out; have n45 := N4_5.out; have n54 := Ne.symm N4_5.out))
  have b4 := blk_far (p := ⟨g5, 0, none⟩) (blk_put (cs' := #[.map (some m4)]) B4.out 0 (.map (some m4)) rfl) N4_5.out (.map (some m5))
  have b5 := blk_put (cs' := #[.map (some m5)]) (blk_far (p := ⟨g4, 0, none⟩) B5.out N4_5.out.symm (.map (some m4))) 0 (.map (some m5)) rfl
  have b1 := blk_far (p := ⟨g5, 0, none⟩) (blk_far (p := ⟨g4, 0, none⟩) B1.out N1_4.out (.map (some m4))) N1_5.out (.map (some m5))
  have hm4 := (O4.out.setCell (a := ⟨g4, 0, none⟩) (Ne.symm (ne_map O4.out B4.out)) (.map (some m4))).setCell (a := ⟨g5, 0, none⟩) (Ne.symm (ne_map O4.out B5.out)) (.map (some m5))
  have hm5 := (O5.out.setCell (a := ⟨g4, 0, none⟩) (Ne.symm (ne_map O5.out B4.out)) (.map (some m4))).setCell (a := ⟨g5, 0, none⟩) (Ne.symm (ne_map O5.out B5.out)) (.map (some m5))
  have hbb := (HB.out.setCell (p := ⟨g4, 0, none⟩) G4.out (.map (some m4))).setCell (p := ⟨g5, 0, none⟩) G5.out (.map (some m5))
  generalize ((W5.setCell ⟨g4, 0, none⟩ (.map (some m4))).setCell ⟨g5, 0, none⟩ (.map (some m5))) = W6 at b4 b5 b1 hm4 hm5 hbb ⊢
  clear B1 B4 B5 O4 O5 HB hc1 hc4 hf4 hc5 hf5
  have B1 := Aside0.mk b1
  have B4 := Aside0.mk b4
  have B5 := Aside0.mk b5
  have O4 := Aside0.mk hm4
  have O5 := Aside0.mk hm5
  have HB := Aside0.mk hbb
  clear b1 b4 b5 hm4 hm5 hbb n45 n54
  have hc1 := blk_cell B1.out
  go_wp2
  go_loopg [15] l1.length (fun kq v15 W => ∃ (i : Nat) (D4 D5 : DataW Unit), v15 = .int .i64 (i : Int) ∧ Aside0 (i + kq = l1.length) ∧ Aside0 (World.ownsMap W Try.prog 26 (plainElem Try.prog 3) m4 i D4) ∧ Aside0 (World.ownsMap W Try.prog 26 (plainElem Try.prog 3) m5 i D5) ∧ Aside0 (SaysI D4 (fstF l1 i)) ∧ Aside0 (SaysI D5 (lstF l1 i)) ∧ Aside0 (W.heap[g1]? = some (.cells #[.int .i64 a0, .slice A1 l1.length c1] 24 (0, 0))) ∧ Aside0 (W.heap[g4]? = some (.cells #[.map (some m4)] 121 (0, 0))) ∧ Aside0 (W.heap[g5]? = some (.cells #[.map (some m5)] 121 (0, 0))) ∧ Aside0 (Below w.heap.size w W))
  case atStart => exact ⟨0, _, _, rfl, ⟨by omega⟩, O4, O5, ⟨saysI_empty⟩, ⟨saysI_empty⟩, B1, B4, B5, HB⟩
  case round =>
    clear HB B1 B4 B5 O4 O5 hc1
    obtain ⟨i, D4, D5, rfl, HK, O4, O5, S4, S5, B1, B4, B5, HB⟩ := hrel
    cases gk with
    | zero =>
      have hi : i = l1.length := by have := HK.out; omega
      have hlt : decide (i < l1.length) = false := by simp; omega
      have hc1 := blk_cell B1.out
      have hs4 := S4.out
      have hs5 := S5.out
      rw [hi] at hs4 hs5
      have T4 := Aside0.mk hs4
      have T5 := Aside0.mk hs5
      have HF : Aside0 (∀ W, Below wr.heap.size wr W → ∀ j (h : j < l1.length), Calls Try.prog 92 (#[.int .i64 j, .agg (cE (l1[j]'h)).toArray] ++ #[.pointer (some ⟨g4, 0, none⟩), .pointer (some ⟨g5, 0, none⟩)]) W fun e W' => e = .returned (.bool (kpC l1 j)) ∧ Below W.heap.size W W') := ⟨fun W hb j hj => by
        have hok := HV.out _ (List.getElem_mem hj)
        have := compact1_calls j (l1[j]'hj) hok g4 g5 m4 m5 i D4 D5 _ _ W (blk_below B4.out hb) (blk_below B5.out hb) (ownsMap_below O4.out hb) (ownsMap_below O5.out hb) (T4.out _ _ hok.2.1 hok.2.2).1 (T5.out _ _ hok.2.1 hok.2.2).1
        unfold kpC
        rw [dif_pos hj]
        exact this⟩
      clear hi hs4 hs5
      go_wp2_with (first | ((with_reducible refine gate_callee (f := 90) rfl ?_); refine goesL_ (some 40) rfl rfl Try.func90 (by kernel_rfl) rfl #[.agg #[.int .i64 a0, .slice A1 l1.length c1], .func (.func 92) #[] #[.pointer (some ⟨g4, 0, none⟩), .pointer (some ⟨g5, 0, none⟩)]] rfl (by (try simp only [List.map_toArray, List.map_cons, List.map_nil]); first | done | (go_simp; done) | rfl) ?_; refine (written_calls 92 (eg_of Try.func92 (by kernel_rfl) rfl) #[.pointer (some ⟨g4, 0, none⟩), .pointer (some ⟨g5, 0, none⟩)] k (kpC l1) a0 A1 c1 l1 r0 r1 _ (Kd.C_below HR.out (hU HB.out)) HC.out HF.out HH.out).mono ?_; rintro e w2 ⟨v3, rfl, ho, hb⟩; refine ⟨_, rfl, ?_⟩; have HO := Aside0.mk (Kd.R_lower ho (below_size (hU HB.out))); replace HB := Aside0.mk (below_step (hU HB.out) hb); clear hb ho))
      go_ret2
      exact ⟨_, rfl, HO.out, hU HB.out⟩
    | succ k1 =>
      have hi : i < l1.length := by have := HK.out; omega
      have hlt : decide (i < l1.length) = true := by simp; exact hi
      obtain ⟨adx, e0x, hx0, hx1, hx2, hx3, hx4, hx5, hx6, hx7, hx8, hx9, hx10, hx11, hx12⟩ := at_T30 HR.out (i : Int) (by omega) (by omega)
      cases e0x
      rw [Int.toNat_natCast] at hx0 hx1 hx2 hx3 hx4 hx5 hx6 hx7 hx8 hx9 hx10 hx11 hx12
      rw [rd30_at hi] at hx0 hx1 hx2 hx3 hx4 hx5 hx6 hx7 hx8 hx9 hx10 hx11 hx12
      replace hx0 := (HB.out.cell (World.block_lt_of_cell? w _ hx0)).trans hx0
      replace hx1 := (HB.out.cell (World.block_lt_of_cell? w _ hx1)).trans hx1
      replace hx2 := (HB.out.cell (World.block_lt_of_cell? w _ hx2)).trans hx2
      replace hx3 := (HB.out.cell (World.block_lt_of_cell? w _ hx3)).trans hx3
      replace hx4 := (HB.out.cell (World.block_lt_of_cell? w _ hx4)).trans hx4
      replace hx5 := (HB.out.cell (World.block_lt_of_cell? w _ hx5)).trans hx5
      replace hx6 := (HB.out.cell (World.block_lt_of_cell? w _ hx6)).trans hx6
      replace hx7 := (HB.out.cell (World.block_lt_of_cell? w _ hx7)).trans hx7
      replace hx8 := (HB.out.cell (World.block_lt_of_cell? w _ hx8)).trans hx8
      replace hx9 := (HB.out.cell (World.block_lt_of_cell? w _ hx9)).trans hx9
      replace hx10 := (HB.out.cell (World.block_lt_of_cell? w _ hx10)).trans hx10
      replace hx11 := (HB.out.cell (World.block_lt_of_cell? w _ hx11)).trans hx11
      replace hx12 := (HB.out.cell (World.block_lt_of_cell? w _ hx12)).trans hx12
      have q0 : (0 ≤ ((i : Nat) : Int)) = True := by simp
      have q1 : (((i : Nat) : Int) < (l1.length : Int)) = True := by simp; exact hi
      have HE := Aside0.mk (HV.out _ (List.getElem_mem hi))
      have hn := @fst_new l1 i hi
      have ho := @fst_old l1 i hi
      have hln := @lst_new l1 i hi
      generalize l1[i]'hi = x at hx0 hx1 hx2 hx3 hx4 hx5 hx6 hx7 hx8 hx9 hx10 hx11 hx12 HE hn ho hln
      have HI := Aside0.mk hi
      have FN := Aside0.mk hn
      have FO := Aside0.mk ho
      have LN := Aside0.mk hln
      clear hi hn ho hln
      go_upto_region 5 with (fail)
      have HB1 : Aside0 (Below w.heap.size w (wr.alloc (.cells #[.int .i64 x.f0.f0, .int .i64 x.f0.f1, .int .i64 x.f1, .int .i64 x.f2.f0, .int .i64 x.f2.f1, .bool x.f3, .int .i64 x.f4.f0, .int .i64 x.f4.f1, .int .i64 x.f4.f2, .int .i64 x.f4.f3, .int .i64 x.f4.f4, .int .i64 x.f4.f5, .int .i64 x.f4.f6] 30))) := ⟨below_alloc HB.out _⟩
      have B7 : Aside0 ((wr.alloc (.cells #[.int .i64 x.f0.f0, .int .i64 x.f0.f1, .int .i64 x.f1, .int .i64 x.f2.f0, .int .i64 x.f2.f1, .bool x.f3, .int .i64 x.f4.f0, .int .i64 x.f4.f1, .int .i64 x.f4.f2, .int .i64 x.f4.f3, .int .i64 x.f4.f4, .int .i64 x.f4.f5, .int .i64 x.f4.f6] 30)).heap[wr.heap.size]? = some (.cells #[.int .i64 x.f0.f0, .int .i64 x.f0.f1, .int .i64 x.f1, .int .i64 x.f2.f0, .int .i64 x.f2.f1, .bool x.f3, .int .i64 x.f4.f0, .int .i64 x.f4.f1, .int .i64 x.f4.f2, .int .i64 x.f4.f3, .int .i64 x.f4.f4, .int .i64 x.f4.f5, .int .i64 x.f4.f6] 30 (0, 0))) := ⟨blk_new _ _⟩
      have B11 : Aside0 ((wr.alloc (.cells #[.int .i64 x.f0.f0, .int .i64 x.f0.f1, .int .i64 x.f1, .int .i64 x.f2.f0, .int .i64 x.f2.f1, .bool x.f3, .int .i64 x.f4.f0, .int .i64 x.f4.f1, .int .i64 x.f4.f2, .int .i64 x.f4.f3, .int .i64 x.f4.f4, .int .i64 x.f4.f5, .int .i64 x.f4.f6] 30)).heap[g1]? = some (.cells #[.int .i64 a0, .slice (some adx) l1.length c1] 24 (0, 0))) := ⟨blk_alloc B1.out _⟩
      have B41 : Aside0 ((wr.alloc (.cells #[.int .i64 x.f0.f0, .int .i64 x.f0.f1, .int .i64 x.f1, .int .i64 x.f2.f0, .int .i64 x.f2.f1, .bool x.f3, .int .i64 x.f4.f0, .int .i64 x.f4.f1, .int .i64 x.f4.f2, .int .i64 x.f4.f3, .int .i64 x.f4.f4, .int .i64 x.f4.f5, .int .i64 x.f4.f6] 30)).heap[g4]? = some (.cells #[.map (some m4)] 121 (0, 0))) := ⟨blk_alloc B4.out _⟩
      have B51 : Aside0 ((wr.alloc (.cells #[.int .i64 x.f0.f0, .int .i64 x.f0.f1, .int .i64 x.f1, .int .i64 x.f2.f0, .int .i64 x.f2.f1, .bool x.f3, .int .i64 x.f4.f0, .int .i64 x.f4.f1, .int .i64 x.f4.f2, .int .i64 x.f4.f3, .int .i64 x.f4.f4, .int .i64 x.f4.f5, .int .i64 x.f4.f6] 30)).heap[g5]? = some (.cells #[.map (some m5)] 121 (0, 0))) := ⟨blk_alloc B5.out _⟩
      have O41 : Aside0 (World.ownsMap (H := Unit) (wr.alloc (.cells #[.int .i64 x.f0.f0, .int .i64 x.f0.f1, .int .i64 x.f1, .int .i64 x.f2.f0, .int .i64 x.f2.f1, .bool x.f3, .int .i64 x.f4.f0, .int .i64 x.f4.f1, .int .i64 x.f4.f2, .int .i64 x.f4.f3, .int .i64 x.f4.f4, .int .i64 x.f4.f5, .int .i64 x.f4.f6] 30)) Try.prog 26 (plainElem Try.prog 3) m4 i D4) := ⟨O4.out.alloc _⟩
      have O51 : Aside0 (World.ownsMap (H := Unit) (wr.alloc (.cells #[.int .i64 x.f0.f0, .int .i64 x.f0.f1, .int .i64 x.f1, .int .i64 x.f2.f0, .int .i64 x.f2.f1, .bool x.f3, .int .i64 x.f4.f0, .int .i64 x.f4.f1, .int .i64 x.f4.f2, .int .i64 x.f4.f3, .int .i64 x.f4.f4, .int .i64 x.f4.f5, .int .i64 x.f4.f6] 30)) Try.prog 26 (plainElem Try.prog 3) m5 i D5) := ⟨O5.out.alloc _⟩
      generalize (wr.alloc (.cells #[.int .i64 x.f0.f0, .int .i64 x.f0.f1, .int .i64 x.f1, .int .i64 x.f2.f0, .int .i64 x.f2.f1, .bool x.f3, .int .i64 x.f4.f0, .int .i64 x.f4.f1, .int .i64 x.f4.f2, .int .i64 x.f4.f3, .int .i64 x.f4.f4, .int .i64 x.f4.f5, .int .i64 x.f4.f6] 30)) = W1 at HB1 B7 B11 B41 B51 O41 O51 ⊢
      generalize wr.heap.size = g7 at B7 ⊢
      clear HB B1 B4 B5 O4 O5 hx0 hx1 hx2 hx3 hx4 hx5 hx6 hx7 hx8 hx9 hx10 hx11 hx12
      have hc7 := blk_cell B7.out
      have hc4 := blk_cell B41.out
      have hc5 := blk_cell B51.out
      obtain ⟨sb, hsb⟩ : ∃ sb, fstF l1 i x.f2.f0 x.f2.f1 = sb := ⟨_, rfl⟩
      have HAT : Aside0 (D4.atKey (kT x.f2.f0 x.f2.f1) (.lit (.int .i64 0)) = .lit (.int .i64 ((sb.getD 0 : Nat) : Int)) ∧ Maps.has D4 (kT x.f2.f0 x.f2.f1) = sb.isSome) := ⟨by have := S4.out _ _ HE.out.2.1 HE.out.2.2; rw [hsb] at this; exact this⟩
      have HP5 : Aside0 (SaysI (D5.put (kT x.f2.f0 x.f2.f1) (.lit (.int .i64 (i : Int)))) (lstF l1 (i + 1))) := ⟨by have := saysI_put S5.out O51.out.isMap HE.out.2.1 HE.out.2.2 i; rw [LN.out] at this; exact this⟩
      cases sb with
      | none =>
        have HP4 : Aside0 (SaysI (D4.put (kT x.f2.f0 x.f2.f1) (.lit (.int .i64 (i : Int)))) (fstF l1 (i + 1))) := ⟨by have := saysI_put S4.out O41.out.isMap HE.out.2.1 HE.out.2.2 i; rw [FN.out hsb] at this; exact this⟩
        clear hsb
        have HA1 := Aside0.mk (show D4.atKey (kT x.f2.f0 x.f2.f1) (.lit (.int .i64 0)) = .lit (.int .i64 0) from HAT.out.1)
        have HA2 := Aside0.mk (show Maps.has D4 (kT x.f2.f0 x.f2.f1) = false from HAT.out.2)
        go_wp2_with (first | ((with_reducible refine gate_dst (N := 24) rfl ?_); refine wpList_lookup_okI _ rfl _ _ 121 rfl 26 3 lawT Try.underlying121 Try.underlying3 (zeroI _) m4 i D4 rfl O41.out (.agg #[.int .i64 x.f2.f0, .int .i64 x.f2.f1]) _ rfl (keyOf_T HE.out.2.1 HE.out.2.2) 0 HA1.out false HA2.out ?_) | ((with_reducible refine gate_upd (x := 31) rfl ?_); refine wpList_mapUpdate_own _ rfl _ _ _ 121 rfl 26 3 lawT Try.underlying121 _ m4 i D4 rfl O41.out (by unfold maxLen; have := HL.out; have := HI.out; omega) (.agg #[.int .i64 x.f2.f0, .int .i64 x.f2.f1]) (.int .i64 (i : Int)) _ rfl rfl (keyOf_T HE.out.2.1 HE.out.2.2) _ [] (plainElem_int Try.underlying3 (okN_small i (by have := HL.out; have := HI.out; omega))) ?_; intro w1 hown1 hgrow1; have O42 := Aside0.mk hown1; have O51' : Aside0 (World.ownsMap (H := Unit) w1 Try.prog 26 (plainElem Try.prog 3) m5 i D5) := ⟨O51.out.kept hgrow1 (fun e => NM.out (Option.some.inj e).symm)⟩; have B12 := Aside0.mk (blk_map B11.out O41.out hgrow1); have B42 := Aside0.mk (blk_map B41.out O41.out hgrow1); have B52 := Aside0.mk (blk_map B51.out O41.out hgrow1); have HB2 := Aside0.mk (HB1.out.grown hgrow1 (below_size HB1.out) (fun j hj => by cases hj; exact GM4.out)); have B72 := Aside0.mk (blk_map B7.out O41.out hgrow1); clear hown1 hgrow1 hc7 hc4 hc5; have hc7 := blk_cell B72.out; have hc5 := blk_cell B52.out) | ((with_reducible refine gate_upd (x := 35) rfl ?_); refine wpList_mapUpdate_own _ rfl _ _ _ 121 rfl 26 3 lawT Try.underlying121 _ m5 i D5 rfl O51'.out (by unfold maxLen; have := HL.out; have := HI.out; omega) (.agg #[.int .i64 x.f2.f0, .int .i64 x.f2.f1]) (.int .i64 (i : Int)) _ rfl rfl (keyOf_T HE.out.2.1 HE.out.2.2) _ [] (plainElem_int Try.underlying3 (okN_small i (by have := HL.out; have := HI.out; omega))) ?_; intro w2 hown1 hgrow1; have O52 := Aside0.mk hown1; have B13 := Aside0.mk (blk_map B12.out O51'.out hgrow1); have B43 := Aside0.mk (blk_map B42.out O51'.out hgrow1); have B53 := Aside0.mk (blk_map B52.out O51'.out hgrow1); have HB3 := Aside0.mk (HB2.out.grown hgrow1 (below_size HB2.out) (fun j hj => by cases hj; exact GM5.out)); replace O42 := Aside0.mk (O42.out.kept hgrow1 (fun e => NM.out (Option.some.inj e))); clear hown1 hgrow1))
        go_roundg k1
        case measure => have := HK.out; omega
        case rel => exact ⟨i + 1, _, _, by first | (simp; done) | (simp; unfold wrap64; have := HL.out; have := HI.out; omega), ⟨by have := HK.out; omega⟩, O42, O52, HP4, HP5, B13, B43, B53, HB3⟩
      | some j =>
        have HP4 : Aside0 (SaysI D4 (fstF l1 (i + 1))) := ⟨by rw [← FO.out (by rw [hsb]; rfl)]; exact S4.out⟩
        clear hsb
        have HA1 := Aside0.mk (show D4.atKey (kT x.f2.f0 x.f2.f1) (.lit (.int .i64 0)) = .lit (.int .i64 (j : Int)) from HAT.out.1)
        have HA2 := Aside0.mk (show Maps.has D4 (kT x.f2.f0 x.f2.f1) = true from HAT.out.2)
        have HB2 := HB1
        have B12 := B11
        have B42 := B41
        have B52 := B51
        have O42 : Aside0 (World.ownsMap (H := Unit) W1 Try.prog 26 (plainElem Try.prog 3) m4 (i + 1) D4) := ⟨O41.out.mono (Nat.le_succ _)⟩
        have O51' := O51
        go_wp2_with (first | ((with_reducible refine gate_dst (N := 24) rfl ?_); refine wpList_lookup_okI _ rfl _ _ 121 rfl 26 3 lawT Try.underlying121 Try.underlying3 (zeroI _) m4 i D4 rfl O41.out (.agg #[.int .i64 x.f2.f0, .int .i64 x.f2.f1]) _ rfl (keyOf_T HE.out.2.1 HE.out.2.2) (j : Int) HA1.out true HA2.out ?_) | ((with_reducible refine gate_upd (x := 35) rfl ?_); refine wpList_mapUpdate_own _ rfl _ _ _ 121 rfl 26 3 lawT Try.underlying121 _ m5 i D5 rfl O51'.out (by unfold maxLen; have := HL.out; have := HI.out; omega) (.agg #[.int .i64 x.f2.f0, .int .i64 x.f2.f1]) (.int .i64 (i : Int)) _ rfl rfl (keyOf_T HE.out.2.1 HE.out.2.2) _ [] (plainElem_int Try.underlying3 (okN_small i (by have := HL.out; have := HI.out; omega))) ?_; intro w2 hown1 hgrow1; have O52 := Aside0.mk hown1; have B13 := Aside0.mk (blk_map B12.out O51'.out hgrow1); have B43 := Aside0.mk (blk_map B42.out O51'.out hgrow1); have B53 := Aside0.mk (blk_map B52.out O51'.out hgrow1); have HB3 := Aside0.mk (HB2.out.grown hgrow1 (below_size HB2.out) (fun j hj => by cases hj; exact GM5.out)); have O43 := Aside0.mk (O42.out.kept hgrow1 (fun e => NM.out (Option.some.inj e))); clear hown1 hgrow1))
        go_roundg k1
        case measure => have := HK.out; omega
        case rel => exact ⟨i + 1, _, _, by first | (simp; done) | (simp; unfold wrap64; have := HL.out; have := HI.out; omega), ⟨by have := HK.out; omega⟩, O43, O52, HP4, HP5, B13, B43, B53, HB3⟩
end Go.Proofs.Yteopkkoblbmggaa.P
end
section
set_option linter.unusedVariables false
namespace Go.Proofs.Yteopkkoblbmggaa.P
open Go Go.RowKit
/-- What the iterator's call owes: each yield is made where Cx holds. -/
def SeqTold {α : Type} (F : Fence) (n : Nat) (P : Program) (g : Nat) (lb : Array Value) (encs : α → Array Value) (Cx : List α → α → World → Prop) (Kp : World → World → Prop) (S Sp : List α → Prop) (N : Nat) (w : World) : Prop :=
  ∀ (l : Nat) (J Jx : List α → World → Prop) (W : World), Below w.heap.size w W → AbidesFrom W.heap.size J → AbidesFrom W.heap.size Jx →
    (∀ pre x W1, J pre W1 → Cx pre x W1 → pre.length < N → YieldAt F (n - 1) P l (encs x) W1 fun e W' =>
      (e = .returned (.bool true) ∧ J (pre ++ [x]) W' ∧ Kp W1 W') ∨ (e = .returned (.bool false) ∧ Jx (pre ++ [x]) W')) →
    J [] W →
    CallsIn F n P g (#[.func (.yield l) #[] #[]] ++ lb) W fun e W' => (∃ v, e = .returned v) ∧ ((∃ xs, S xs ∧ J xs W') ∨ (∃ pre, Sp pre ∧ Jx pre W'))
variable {F : Fence} {n : Nat} {P : Program} {w : World}
theorem rangeFunc_told {α : Type} {g : Operand} {ps : Array Tmp} {assign body : Code} {Q : Exit → Act → World → Prop} {a : Act} {w : World}
    (hro : F.round = none) (h1 : 1 ≤ n) {gf : Nat} {lb : Array Value} (hg : a.eval g = .func (.func gf) #[] lb) (hFg : F.fn gf) (eg : ∀ args w, (callFunc gf args).run P w = .ok (.enter gf args) w)
    {encs : α → Array Value} {Kp : World → World → Prop} {S Sp : List α → Prop} {N : Nat} {w0 : World} {Cx : List α → α → World → Prop} (hseq : SeqTold F (n - 1) P gf lb encs Cx Kp S Sp N w0)
    (hKt : ∀ {A B C : World}, Kp A B → Kp B C → Kp A C) (hKb : ∀ (W : World) (l : Nat) (o o' : Obj), w.heap.size ≤ l → W.heap[l]? = some o → o.isCells = false → o.isWalk = false → Kp W (W.putObj l o')) (hb0 : Below w0.heap.size w0 w) (hps : ∀ x, (encs x).size = ps.size)
    (I : List α → World → Prop) (Ix : Code → List α → World → Prop) (hI : OwnFrom w.heap.size I) (hIx : ∀ c, OwnFrom w.heap.size (Ix c)) (h0 : I [] w) (Ax : List α → α → Act → World → Prop) (hAx : ∀ pre x a', OwnFrom w.heap.size (fun (_ : Unit) W => Ax pre x a' W))
    (hassign : ∀ (l : Nat) (pre : List α) (x : α) (W : World) (K : Act → World → Prop), I pre W → Cx pre x W → (∀ a' W', KeepsFrom w.heap.size W W' → Kp W W' → I pre W' → Ax pre x a' W' → K a' W') →
      assign.wpIn (F.inRound l) (n - 1 - 1) P (Exit.then K (fun _ _ _ => False)) { tmps := (ps.zip (encs x)).foldl (fun t (p, v) => t.setIfInBounds p v) a.tmps, defers := [] } W)
    (hbody : ∀ (l : Nat) (pre : List α) (x : α) (a' : Act) (W : World), w.heap.size ≤ l → (∃ r, W.heap[l]? = some (.loop r)) → I pre W → Ax pre x a' W → pre.length < N → body.wpIn (F.inRound l) (n - 1 - 1) P (ownPostG w.heap.size Kp I Ix (pre ++ [x]) W) a' W)
    (hdone : ∀ (D : Nat) (xs : List α) (W : World), w.heap.size ≤ D → S xs → I xs W → W.heap[D]? = some (.deferred (some [])) → Q .normal { a with defers := { target := .collected D, args := #[] } :: a.defers } W)
    (hstop : ∀ (D : Nat) (c : Code) (pre : List α) (W : World), w.heap.size ≤ D → Sp pre → Ix c pre W → W.heap[D]? = some (.deferred (some [])) → c.wpIn F n P Q { a with defers := { target := .collected D, args := #[] } :: a.defers } W) :
    (Code.rangeFunc g ps assign body).wpIn F n P Q a w := by
  refine wpIn_rangeFunc ?_
  intro fn hfn
  rw [hro]
  obtain ⟨rec, hrec⟩ : ∃ rec : LoopState → Option Code → Loop, rec = fun st pe => { state := st, pending := pe, fn, tmps := a.tmps, params := ps, assign, body, defers := w.heap.size } := ⟨_, rfl⟩
  obtain ⟨W1, hW1⟩ : ∃ W1, (w.alloc (.deferred (some []))).alloc (.loop (rec .ready none)) = W1 := ⟨_, rfl⟩
  have hL1 : W1.heap[w.heap.size + 1]? = some (.loop (rec .ready none)) := by
    rw [← hW1]; have := World.alloc_heap_new (w.alloc (.deferred (some []))) (.loop (rec .ready none)); rwa [World.size_alloc] at this
  have hK1 : W1.heap[w.heap.size]? = some (.deferred (some [])) := by
    rw [← hW1]; exact (Below.heap_alloc _ _ _ (by simp)).trans (World.alloc_heap_new w _)
  have hI1 : I [] W1 := by rw [← hW1]; exact hI.alloc _ (hI.alloc _ h0)
  have hb1 : Below w0.heap.size w0 W1 := by
    rw [← hW1]; exact hb0.trans ((((Below.refl _ w).alloc (Nat.le_refl _) _).alloc (by simp) _).mono hb0.size)
  refine ⟨w.heap.size + 1, [{ target := .collected w.heap.size, args := #[] }], W1, { target := .fn (.func gf) lb, args := #[.func (.yield (w.heap.size + 1)) #[] #[]] }, W1, gf,
    #[.func (.yield (w.heap.size + 1)) #[] #[]] ++ lb, W1, ?_, ?_, ?_, ?_, fun _ => h1, ?_⟩
  · rw [← hW1, hrec]; exact run_enterLoop_outer _ _ _ _ _
  · simp only [resolve, hg]
    simp [go_sem]
  · intro f' hf'; simp [Target.leads] at hf'; subst hf'; exact hFg
  · simp [invoke, go_sem, eg]
  ·
    have hnw : ∀ {A B : World} {row : Option Nat}, (∀ r, row = some r → W1.heap.size ≤ r ∧ ∃ o : Obj, A.heap[r]? = some o ∧ o.isWalk = true) → (∀ r, row = some r → w.heap.size ≤ r ∧ ∃ o : Obj, A.heap[r]? = some o ∧ o.isCells = false) :=
      fun hr r e => by obtain ⟨hB, o, ho, hw⟩ := hr r e; exact ⟨by rw [← hW1] at hB; simp at hB; omega, o, ho, Obj.not_cells_of_walk hw⟩
    refine (hseq (w.heap.size + 1)
      (fun pre W => I pre W ∧ W.heap[w.heap.size + 1]? = some (.loop (rec .ready none)) ∧ W.heap[w.heap.size]? = some (.deferred (some [])))
      (fun pre W => ∃ c, Ix c pre W ∧ W.heap[w.heap.size + 1]? = some (.loop (rec .done (some c))) ∧ W.heap[w.heap.size]? = some (.deferred (some [])))
      W1 hb1
      (fun s A B row hs hg' hr => ⟨hI s A B row hs.1 hg' (hnw (B := B) hr), (grownBy_keeps hg' (fun r e => (hr r e).2) hs.2.1 rfl).trans hs.2.1, (grownBy_keeps hg' (fun r e => (hr r e).2) hs.2.2 rfl).trans hs.2.2⟩)
      (fun s A B row hs hg' hr => by
        obtain ⟨c, hc, hl, hk⟩ := hs
        exact ⟨c, hIx c s A B row hc hg' (hnw (B := B) hr), (grownBy_keeps hg' (fun r e => (hr r e).2) hl rfl).trans hl, (grownBy_keeps hg' (fun r e => (hr r e).2) hk rfl).trans hk⟩)
      ?_ ⟨hI1, hL1, hK1⟩).mono ?_
    ·
      rintro pre x W ⟨hi, hl, hk⟩ hcx hlen
      have hlt : w.heap.size + 1 < W.heap.size := (Array.getElem?_eq_some_iff.1 hl).1
      have hy := run_yield (P := P) (args := encs x) hl (by rw [hrec]; exact hps x)
      rw [hrec] at hy
      refine ⟨fn, _, assign, body, hy, roundIn_of_wpIn hfn (hassign _ pre x W _ hi hcx ?_)⟩
      clear hy hcx
      intro a' Wa hkfa hkpa hia hax
      replace hl := hkfa.same _ _ (by omega) hl rfl
      replace hk := hkfa.same _ _ (Nat.le_refl _) hk rfl
      replace hlt : w.heap.size + 1 < Wa.heap.size := (Array.getElem?_eq_some_iff.1 hl).1
      replace hi := hia
      clear hia
      revert hkpa hkfa
      generalize W = Wb
      intro hkfa hkpa
      obtain ⟨W, rfl⟩ : ∃ W, W = Wa := ⟨_, rfl⟩
      refine ⟨_, run_beginRound hl (by rw [hrec]), ?_⟩
      have hl2 : (W.putObj (w.heap.size + 1) (.loop { rec .ready none with state := .busy })).heap[w.heap.size + 1]? = some (.loop { rec .ready none with state := .busy }) := World.putObj_heap_same hlt
      have hk2 : (W.putObj (w.heap.size + 1) (.loop { rec .ready none with state := .busy })).heap[w.heap.size]? = some (.deferred (some [])) := (World.putObj_heap_other (by omega)).trans hk
      have hw2 : Kp W (W.putObj (w.heap.size + 1) (.loop { rec .ready none with state := .busy })) := hKb _ _ _ _ (by omega) hl rfl rfl
      refine wpIn_mono (hbody _ pre x a' _ (by omega) ⟨_, hl2⟩ (hI.putObj _ hi (by omega) hl rfl) ((hAx pre x a').putObj (s := ()) _ hax (by omega) hl rfl) hlen) ?_
      have fin : ∀ (jump : Option Code) (W3 : World), KeepsFrom w.heap.size (W.putObj (w.heap.size + 1) (.loop { rec .ready none with state := .busy })) W3 →
          (Instr.endRound (w.heap.size + 1) jump).run P W3 = .ok (.bool jump.isNone) (W3.putObj (w.heap.size + 1) (.loop (rec (if jump.isNone then .ready else .done) jump))) ∧
          W3.heap[w.heap.size + 1]? = some (.loop { rec .ready none with state := .busy }) ∧
          (W3.putObj (w.heap.size + 1) (.loop (rec (if jump.isNone then .ready else .done) jump))).heap[w.heap.size + 1]? = some (.loop (rec (if jump.isNone then .ready else .done) jump)) ∧
          (W3.putObj (w.heap.size + 1) (.loop (rec (if jump.isNone then .ready else .done) jump))).heap[w.heap.size]? = some (.deferred (some [])) := fun jump W3 hk3 => by
        have hl3 := hk3.same _ _ (by omega) hl2 rfl
        have := run_endRound (P := P) jump hl3
        rw [hrec] at this ⊢
        exact ⟨this, by rw [hrec] at hl3; exact hl3, World.putObj_heap_same (Array.getElem?_eq_some_iff.1 hl3).1, (World.putObj_heap_other (by omega)).trans (hk3.same _ _ (Nat.le_refl _) hk2 rfl)⟩
      rintro e a3 W3 hp
      cases e with
      | normal =>
        obtain ⟨hk3, hkp3, hi3⟩ := hp
        obtain ⟨hr, hl3, hl4, hk4⟩ := fin none W3 hk3
        exact ⟨_, _, hr, .inl ⟨rfl, ⟨hI.putObj _ hi3 (by omega) hl3 rfl, hl4, hk4⟩, hKt hkpa (hKt (hKt hw2 hkp3) (hKb _ _ _ _ (by omega) hl3 rfl rfl))⟩⟩
      | ret =>
        obtain ⟨hk3, hi3⟩ := hp
        obtain ⟨hr, hl3, hl4, hk4⟩ := fin (some .ret) W3 hk3
        exact ⟨_, _, hr, .inr ⟨rfl, .ret, (hIx _).putObj _ hi3 (by omega) hl3 rfl, hl4, hk4⟩⟩
      | exit id =>
        obtain ⟨hk3, hi3⟩ := hp
        obtain ⟨hr, hl3, hl4, hk4⟩ := fin (some (.exit id)) W3 hk3
        exact ⟨_, _, hr, .inr ⟨rfl, .exit id, (hIx _).putObj _ hi3 (by omega) hl3 rfl, hl4, hk4⟩⟩
      | goto t =>
        obtain ⟨hk3, hi3⟩ := hp
        obtain ⟨hr, hl3, hl4, hk4⟩ := fin (some (.goto t)) W3 hk3
        exact ⟨_, _, hr, .inr ⟨rfl, .goto t, (hIx _).putObj _ hi3 (by omega) hl3 rfl, hl4, hk4⟩⟩
      | panic ch => exact hp.elim
      | outgrown => exact hp.elim
    ·
      rintro e W2 ⟨⟨v, rfl⟩, (⟨xs, hS, hi, hl, hk⟩ | ⟨pre, hSp, c, hi, hl, hk⟩)⟩
      · exact ⟨none, _, by have := run_endLoop (P := P) hl (by rw [hrec]; simp); rw [hrec] at this; exact this, hdone _ xs _ (Nat.le_refl _) hS (hI.putObj _ hi (by omega) hl rfl) ((World.putObj_heap_other (by omega)).trans hk)⟩
      · exact ⟨some c, _, by have := run_endLoop (P := P) hl (by rw [hrec]; simp); rw [hrec] at this; exact this, hstop _ c pre _ (Nat.le_refl _) hSp ((hIx c).putObj _ hi (by omega) hl rfl) ((World.putObj_heap_other (by omega)).trans hk)⟩
end Go.Proofs.Yteopkkoblbmggaa.P
end
section
namespace Go.Proofs.Yteopkkoblbmggaa.P
open Go.RowKit Go.Proofs.YteopkkoblbmggaaW.PrintWords Go.Proofs.YteopkkoblbmggaaW.PrintLast Go.Proofs.YteopkkoblbmggaaW.PrintMore
attribute [local go_sem] max2_int min2_int max_two min_two max_three min_three max_four min_four
set_option linter.unusedVariables false
set_option linter.unusedSimpArgs false
/-! ### wire_TakeInt: function 148 -/
mutual
def wire_TakeInt.j1 : Nat → List Int → Int → Option (Int × Int × Int)
 | 0, _, _ => none
 | k + 1, x0, x5 => wire_TakeInt.l0 k x0 x5 0 x5 0
def wire_TakeInt.l0 : Nat → List Int → Int → Int → Int → Int → Option (Int × Int × Int)
 | 0, _, _, _, _, _ => none
 | k + 1, x0, x5, x6, x37, x38 => if x38 < x37 then (if 0 ≤ x38 then (if x38 < (x0.length : Int) then (if 0 ≤ (wrap64 (7 * x38)) then (wire_TakeInt.l0 k x0 x5 (Go.bits .or .u64 x6 (shl .u64 (IntKind.u64.wrap (Go.bits .and .u8 (rd x0 x38) 127)) (wrap64 (7 * x38)))) x37 (wrap64 (x38 + 1))) else (none)) else (none)) else (none)) else (if (Go.bits .and .u64 x6 1) = 1 then (some (wrap64 (Go.bits .xor .u64 18446744073709551615 (x6 / 2)), x5, 0)) else (some (wrap64 (x6 / 2), x5, 0)))
def wire_TakeInt.j0 : Nat → List Int → Int → Bool → Option (Int × Int × Int)
 | 0, _, _, _ => none
 | k + 1, x0, x5, x13 => if x13 = true then (some (0, 0, 12)) else (if x5 > 1 then (if 0 ≤ (wrap64 (x5 - 1)) then (if (wrap64 (x5 - 1)) < (x0.length : Int) then (if (rd x0 (wrap64 (x5 - 1))) = 0 then (some (0, 0, 2)) else (wire_TakeInt.j1 k x0 x5)) else (none)) else (none)) else (wire_TakeInt.j1 k x0 x5))
end
def wire_TakeInt.f (k : Nat) (l0 : List Int) : Option (Int × Int × Int) := (wire_length.f k l0).bind fun t1096 => (if t1096 = 0 then (some (0, 0, 13)) else (if t1096 > 10 then (wire_TakeInt.j0 k l0 t1096 true) else (if t1096 = 10 then (if 9 < (l0.length : Int) then (wire_TakeInt.j0 k l0 t1096 (decide ((rd l0 9) > 1))) else (none)) else (wire_TakeInt.j0 k l0 t1096 false))))
theorem wire_TakeInt.mono_l : ∀ k, (∀ y0 y1, LeO (wire_TakeInt.j1 k y0 y1) (wire_TakeInt.j1 (k + 1) y0 y1)) ∧ (∀ y0 y1 y2 y3 y4, LeO (wire_TakeInt.l0 k y0 y1 y2 y3 y4) (wire_TakeInt.l0 (k + 1) y0 y1 y2 y3 y4)) ∧ (∀ y0 y1 y2, LeO (wire_TakeInt.j0 k y0 y1 y2) (wire_TakeInt.j0 (k + 1) y0 y1 y2))
 | 0 => ⟨fun _ _ r h => by simp [wire_TakeInt.j1] at h, fun _ _ _ _ _ r h => by simp [wire_TakeInt.l0] at h, fun _ _ _ r h => by simp [wire_TakeInt.j0] at h⟩
 | k + 1 => by
  obtain ⟨ih0, ih1, ih2⟩ := wire_TakeInt.mono_l k
  refine ⟨?_, ?_, ?_⟩
  ·intro y0 y1
   unfold wire_TakeInt.j1
   repeat' first
   | (with_reducible exact ih0 _ _)
   | (with_reducible exact ih1 _ _ _ _ _)
   | (with_reducible exact ih2 _ _ _)
   | (with_reducible exact wire_length.mono _ _)
   | (with_reducible exact LeO.refl _)
   | (with_reducible exact LeO.none _)
   | (with_reducible refine LeO.ite ?_ ?_)
   | (with_reducible refine LeO.bind ?_ (fun _ => ?_))
   | exact ih0 _ _
   | exact ih1 _ _ _ _ _
   | exact ih2 _ _ _
   | exact wire_length.mono _ _
   | exact LeO.none _
   | refine LeO.ite ?_ ?_
   | refine LeO.bind ?_ (fun _ => ?_)
  ·intro y0 y1 y2 y3 y4
   unfold wire_TakeInt.l0
   repeat' first
   | (with_reducible exact ih0 _ _)
   | (with_reducible exact ih1 _ _ _ _ _)
   | (with_reducible exact ih2 _ _ _)
   | (with_reducible exact wire_length.mono _ _)
   | (with_reducible exact LeO.refl _)
   | (with_reducible exact LeO.none _)
   | (with_reducible refine LeO.ite ?_ ?_)
   | (with_reducible refine LeO.bind ?_ (fun _ => ?_))
   | exact ih0 _ _
   | exact ih1 _ _ _ _ _
   | exact ih2 _ _ _
   | exact wire_length.mono _ _
   | exact LeO.none _
   | refine LeO.ite ?_ ?_
   | refine LeO.bind ?_ (fun _ => ?_)
  ·intro y0 y1 y2
   unfold wire_TakeInt.j0
   repeat' first
   | (with_reducible exact ih0 _ _)
   | (with_reducible exact ih1 _ _ _ _ _)
   | (with_reducible exact ih2 _ _ _)
   | (with_reducible exact wire_length.mono _ _)
   | (with_reducible exact LeO.refl _)
   | (with_reducible exact LeO.none _)
   | (with_reducible refine LeO.ite ?_ ?_)
   | (with_reducible refine LeO.bind ?_ (fun _ => ?_))
   | exact ih0 _ _
   | exact ih1 _ _ _ _ _
   | exact ih2 _ _ _
   | exact wire_length.mono _ _
   | exact LeO.none _
   | refine LeO.ite ?_ ?_
   | refine LeO.bind ?_ (fun _ => ?_)
theorem wire_TakeInt.mono : ∀ a0 k, LeO (wire_TakeInt.f k a0) (wire_TakeInt.f (k + 1) a0) := by
 intro a0 k
 obtain ⟨ih0, ih1, ih2⟩ := wire_TakeInt.mono_l k
 unfold wire_TakeInt.f
 repeat' first
   | (with_reducible exact ih0 _ _)
   | (with_reducible exact ih1 _ _ _ _ _)
   | (with_reducible exact ih2 _ _ _)
   | (with_reducible exact wire_length.mono _ _)
   | (with_reducible exact LeO.refl _)
   | (with_reducible exact LeO.none _)
   | (with_reducible refine LeO.ite ?_ ?_)
   | (with_reducible refine LeO.bind ?_ (fun _ => ?_))
   | exact ih0 _ _
   | exact ih1 _ _ _ _ _
   | exact ih2 _ _ _
   | exact wire_length.mono _ _
   | exact LeO.none _
   | refine LeO.ite ?_ ?_
   | refine LeO.bind ?_ (fun _ => ?_)
set_option maxHeartbeats 8000000 in
set_option maxRecDepth 100000 in
theorem wire_TakeInt.calls (k : Nat) (A0 : Option Addr) (c0 : Nat) (l0 : List Int) (r1 : Int) (r2 : Int) (r3 : Int) (w : World) (hr0 : Kd.C (Kd.int .u8) w A0 l0.length l0) (hc0 : l0.length ≤ c0) (h : wire_TakeInt.f k l0 = some (r1, r2, r3)) :
  Calls Try.prog 148 #[.slice A0 l0.length c0] w fun e w' => e = .returned (.tuple #[.int .i64 r1, .int .i64 r2, .int .i64 r3]) ∧ Drawn0 w w' := by
 have HR0 := Aside0.mk hr0
 have HC0 := Aside0.mk hc0
 clear hr0 hc0
 have H : ((wire_length.f k l0).bind fun t1096 => (if t1096 = 0 then (some (0, 0, 13)) else (if t1096 > 10 then (wire_TakeInt.j0 k l0 t1096 true) else (if t1096 = 10 then (if 9 < (l0.length : Int) then (wire_TakeInt.j0 k l0 t1096 (decide ((rd l0 9) > 1))) else (none)) else (wire_TakeInt.j0 k l0 t1096 false))))) = some (r1, r2, r3) := h
 clear h
 replace H := Option.bind_eq_some_iff.mp H
 obtain ⟨t1096, A20, H⟩ := H
 try dsimp only at H
 have A2 := Aside0.mk A20
 clear A20
 have HC3 := Aside0.mk H
 clear H
 go_enter Try.func148, Try.ntmps148
 go_upto_block 0 with (first | ((with_reducible refine gate_callee (f := 171) rfl ?_); refine goesL_ (some 9) rfl rfl Try.func171 (by kernel_rfl) rfl #[.slice A0 l0.length c0] rfl (by (try simp only [List.map_toArray, List.map_cons, List.map_nil]); first | done | rfl | (simp only [List.length_drop, List.length_take]; rfl)) ?_; (with_reducible refine (wire_length.calls k _ _ l0 t1096 _ ?side1 ?side2 A2.out).mono ?_); (case side1 => repeat (first | exact HR0.out | (with_reducible refine Kd.C_alloc ?_ _) | (with_reducible refine Kd.C_drewN ?_ _) | (with_reducible refine Kd.C_drew ?_))); (case side2 => exact HC0.out); rintro e w' ⟨rfl, ⟨nd, rfl⟩⟩; refine ⟨_, rfl, ?_⟩))
 (try simp only [Act.put, List.setIfInBounds_toArray, List.set_cons_zero, List.set_cons_succ])
 go_cut [] (fun wc => ∃ (kq : Nat), Aside0 (wire_TakeInt.j1 kq l0 t1096 = some (r1, r2, r3)) ∧ Aside0 (kq ≤ k) ∧ Drawn0 w wc)
 case first =>
  have H := HC3.out
  clear HC3
  by_cases c4 : t1096 = 0
  ·rw [if_pos c4] at H
   have c4b0 : (t1096 == 0) = true := beq_iff_eq.mpr c4
   have c4b1 : (t1096 != 0) = false := bne_eq_false_iff_eq.mpr c4
   clear c4
   (first | rw [c4b0] | (simp only [i64_w, i32_w]; rw [c4b0]) | skip)
   simp only [Option.some.injEq, Prod.mk.injEq] at H
   obtain ⟨rfl, rfl, rfl⟩ := H
   go_wp2
   go_ret3
   exact ⟨by first | rfl | (simp; done) | (simp [*]; done), by repeat (first | exact Drawn0.refl _ | apply Drawn0.step)⟩
  ·rw [if_neg c4] at H
   have c4b0 : (t1096 == 0) = false := beq_eq_false_iff_ne.mpr c4
   have c4b1 : (t1096 != 0) = true := bne_iff_ne.mpr c4
   (first | rw [c4b0] | (simp only [i64_w, i32_w]; rw [c4b0]) | skip)
   have HC5 := Aside0.mk H
   clear H
   go_upto_region 4 with (fail)
   go_cut [13] (fun v13 wc => ∃ (kq : Nat) (x13_4 : Bool), v13 = .bool x13_4 ∧ Aside0 (wire_TakeInt.j0 kq l0 t1096 x13_4 = some (r1, r2, r3)) ∧ Aside0 (kq ≤ k) ∧ Drawn0 w wc)
   case first =>
    have H := HC5.out
    clear HC5
    by_cases c6 : t1096 > 10
    ·rw [if_pos c6] at H
     have c6b0 : decide (10 < t1096) = true := decide_eq_true c6
     clear c6
     (first | rw [c6b0] | (simp only [i64_w, i32_w]; rw [c6b0]) | skip)
     have H' := Aside0.mk H
     clear H
     go_wp2
     go_meet
     case rel => exact ⟨_, (true), (by first | rfl | (simp; done) | (simp [*]; done)), H', ⟨by first | omega | exact Nat.le_refl _⟩, by repeat (first | exact Drawn0.refl _ | apply Drawn0.step)⟩
    ·rw [if_neg c6] at H
     have c6b0 : decide (10 < t1096) = false := decide_eq_false c6
     clear c6
     (first | rw [c6b0] | (simp only [i64_w, i32_w]; rw [c6b0]) | skip)
     by_cases c7 : t1096 = 10
     ·rw [if_pos c7] at H
      have c7b0 : (t1096 == 10) = true := beq_iff_eq.mpr c7
      have c7b1 : (t1096 != 10) = false := bne_eq_false_iff_eq.mpr c7
      clear c7
      by_cases c8 : 9 < (l0.length : Int)
      rotate_left
      ·rw [if_neg c8] at H
       exact absurd H (by simp)
      rw [if_pos c8] at H
      have c8b0 : decide (9 < (l0.length : Int)) = true := decide_eq_true c8
      have c8b1 : decide (9 < l0.length) = true := decide_eq_true (by omega)
      clear c8
      have H' := Aside0.mk H
      clear H
      have p1097 : 0 ≤ (9 : Int) := (by omega)
      have q1097 : 9 < (l0.length : Int) := of_decide_eq_true (by first | (with_reducible assumption) | assumption)
      obtain ⟨ad1097, e1097, hx1097_0⟩ := Kd.at_int HR0.out 9 p1097 q1097
      cases e1097
      (try simp only [show (9 : Int).toNat = 9 from rfl, Nat.reduceMul, Nat.reduceEqDiff, Go.Addr.add, ↓reduceIte] at hx1097_0)
      have qi1097 : (9 < l0.length) = True := eq_true (by omega)
      (try rw [show ((9 : Int)).toNat = 9 from rfl] at hx1097_0)
      replace p1097 := eq_true p1097
      replace q1097 := eq_true q1097
      go_wp2
      go_meet
      case rel => exact ⟨_, (decide ((rd l0 9) > 1)), (by first | rfl | (simp; done) | (simp [*]; done)), H', ⟨by first | omega | exact Nat.le_refl _⟩, by repeat (first | exact Drawn0.refl _ | apply Drawn0.step)⟩
     ·rw [if_neg c7] at H
      have c7b0 : (t1096 == 10) = false := beq_eq_false_iff_ne.mpr c7
      have c7b1 : (t1096 != 10) = true := bne_iff_ne.mpr c7
      have H' := Aside0.mk H
      clear H
      go_wp2
      go_meet
      case rel => exact ⟨_, (false), (by first | rfl | (simp; done) | (simp [*]; done)), H', ⟨by first | omega | exact Nat.le_refl _⟩, by repeat (first | exact Drawn0.refl _ | apply Drawn0.step)⟩
   case rest =>
    clear HC5
    try clear c1
    try clear p1
    try clear q1
    try clear hx1
    try clear qi1
    try clear p2
    try clear c4
    try clear c4b0
    try clear c4b1
    try clear c6
    try clear c6b0
    try clear c7
    try clear c7b0
    try clear c7b1
    try clear c8
    try clear c8b0
    try clear c8b1
    try clear hx1097_0
    try clear p1097
    try clear q1097
    obtain ⟨kq, x13_4, rfl, HA, HJ4, ⟨mc4, rfl⟩⟩ := hcut
    cases kq with
    | zero => exact absurd HA.out (by simp [wire_TakeInt.j0])
    | succ kj4 =>
     have H := HA.out
     clear HA
     simp only [wire_TakeInt.j0] at H
     by_cases c9 : x13_4 = true
     ·subst c9
      have H1 : (some (0, 0, 12)) = some (r1, r2, r3) := by rw [if_pos rfl] at H; exact H
      clear H
      have H := H1
      clear H1
      simp only [Option.some.injEq, Prod.mk.injEq] at H
      obtain ⟨rfl, rfl, rfl⟩ := H
      go_wp2
      go_ret3
      exact ⟨by first | rfl | (simp; done) | (simp [*]; done), by repeat (first | exact Drawn0.refl _ | apply Drawn0.step)⟩
     ·replace c9 := Bool.eq_false_iff.mpr c9
      subst c9
      rw [if_neg (show ¬ (false = true) by decide)] at H
      by_cases c10 : t1096 > 1
      ·rw [if_pos c10] at H
       have c10b0 : decide (1 < t1096) = true := decide_eq_true c10
       clear c10
       obtain ⟨ji11, hji11⟩ : ∃ j_ : Int, (wrap64 (t1096 - 1)) = j_ := ⟨_, rfl⟩
       replace H : (if 0 ≤ (ji11) then (if (ji11) < (l0.length : Int) then (if (rd l0 (ji11)) = 0 then (some (0, 0, 2)) else (wire_TakeInt.j1 kj4 l0 t1096)) else (none)) else (none)) = some (r1, r2, r3) := by first | (rw [hji11] at H; exact H) | (simp only [hji11] at H ⊢; exact H)
       have hji11w : (IntKind.i64.wrap (t1096 - 1)) = ji11 := (i64_w _).trans hji11
       by_cases c12 : 0 ≤ (ji11)
       rotate_left
       ·rw [if_neg c12] at H
        exact absurd H (by simp)
       rw [if_pos c12] at H
       have c12b0 : decide (0 ≤ (ji11)) = true := decide_eq_true c12
       clear c12
       by_cases c13 : (ji11) < (l0.length : Int)
       rotate_left
       ·rw [if_neg c13] at H
        exact absurd H (by simp)
       rw [if_pos c13] at H
       have c13b0 : decide ((ji11) < (l0.length : Int)) = true := decide_eq_true c13
       clear c13
       by_cases c14 : (rd l0 (ji11)) = 0
       ·rw [if_pos c14] at H
        have c14b0 : ((rd l0 (ji11)) == 0) = true := beq_iff_eq.mpr c14
        have c14b1 : ((rd l0 (ji11)) != 0) = false := bne_eq_false_iff_eq.mpr c14
        clear c14
        simp only [Option.some.injEq, Prod.mk.injEq] at H
        obtain ⟨rfl, rfl, rfl⟩ := H
        have p1098 : 0 ≤ ((ji11) : Int) := of_decide_eq_true (by first | (with_reducible assumption) | assumption)
        have q1098 : (ji11) < (l0.length : Int) := of_decide_eq_true (by first | (with_reducible assumption) | assumption)
        obtain ⟨ad1098, e1098, hx1098_0⟩ := Kd.at_int HR0.out (ji11) p1098 q1098
        cases e1098
        replace p1098 := eq_true p1098
        replace q1098 := eq_true q1098
        go_wp2
        go_ret3
        exact ⟨by first | rfl | (simp; done) | (simp only [← hji11] <;> (first | rfl | simp)) | (simp [*]; done), by repeat (first | exact Drawn0.refl _ | apply Drawn0.step)⟩
       ·rw [if_neg c14] at H
        have c14b0 : ((rd l0 (ji11)) == 0) = false := beq_eq_false_iff_ne.mpr c14
        have c14b1 : ((rd l0 (ji11)) != 0) = true := bne_iff_ne.mpr c14
        have H' := Aside0.mk H
        clear H
        have p1098 : 0 ≤ ((ji11) : Int) := of_decide_eq_true (by first | (with_reducible assumption) | assumption)
        have q1098 : (ji11) < (l0.length : Int) := of_decide_eq_true (by first | (with_reducible assumption) | assumption)
        obtain ⟨ad1098, e1098, hx1098_0⟩ := Kd.at_int HR0.out (ji11) p1098 q1098
        cases e1098
        replace p1098 := eq_true p1098
        replace q1098 := eq_true q1098
        go_wp2
        go_meet
        case rel => exact ⟨_, H', ⟨by have := HJ4.out; first | omega | exact Nat.le_refl _⟩, by repeat (first | exact Drawn0.refl _ | apply Drawn0.step)⟩
      ·rw [if_neg c10] at H
       have c10b0 : decide (1 < t1096) = false := decide_eq_false c10
       clear c10
       have H' := Aside0.mk H
       clear H
       go_wp2
       go_meet
       case rel => exact ⟨_, H', ⟨by have := HJ4.out; first | omega | exact Nat.le_refl _⟩, by repeat (first | exact Drawn0.refl _ | apply Drawn0.step)⟩
 case rest =>
  clear HC3
  try clear c1
  try clear p1
  try clear q1
  try clear hx1
  try clear qi1
  try clear p2
  try clear c4
  try clear c4b0
  try clear c4b1
  try clear c6
  try clear c6b0
  try clear p6
  try clear c7
  try clear c7b0
  try clear c7b1
  try clear c8
  try clear c8b0
  try clear c8b1
  try clear c9
  try clear c10
  try clear c10b0
  try clear p10
  try clear q10
  try clear hx10
  try clear qi10
  try clear c12
  try clear c12b0
  try clear c13
  try clear c13b0
  try clear c14
  try clear c14b0
  try clear c14b1
  try clear hx1097_0
  try clear hx1098_0
  try clear p1
  try clear p1097
  try clear p1098
  try clear p2
  try clear q1
  try clear q1097
  try clear q1098
  obtain ⟨kq, HA, HJ2, ⟨mc2, rfl⟩⟩ := hcut
  cases kq with
  | zero => exact absurd HA.out (by simp [wire_TakeInt.j1])
  | succ kj2 =>
   have H := HA.out
   clear HA
   simp only [wire_TakeInt.j1] at H
   have H' := Aside0.mk H
   clear H
   go_wp2
   go_loopg [6, 38] kj2 (fun kq v6 v38 w' => ∃ (x6_2 : Int) (x38_2 : Int), v6 = .int .u64 x6_2 ∧ v38 = .int .i64 x38_2 ∧ Aside0 (wire_TakeInt.l0 kq l0 t1096 x6_2 t1096 x38_2 = some (r1, r2, r3)) ∧ Aside0 (kq ≤ kj2) ∧ Drawn0 w w')
   case atStart => exact ⟨(0), (0), (by first | rfl | (simp; done) | (simp [*]; done)), (by first | rfl | (simp; done) | (simp [*]; done)), H', ⟨Nat.le_refl _⟩, by repeat (first | exact Drawn0.refl _ | apply Drawn0.step)⟩
   case round =>
    clear H'
    try clear c1
    try clear p1
    try clear q1
    try clear hx1
    try clear qi1
    try clear c2
    try clear p2
    try clear c4
    try clear c4b0
    try clear c4b1
    try clear c6
    try clear c6b0
    try clear p6
    try clear c7
    try clear c7b0
    try clear c7b1
    try clear c8
    try clear c8b0
    try clear c8b1
    try clear c9
    try clear c10
    try clear c10b0
    try clear p10
    try clear q10
    try clear hx10
    try clear qi10
    try clear c12
    try clear c12b0
    try clear c13
    try clear c13b0
    try clear c14
    try clear c14b0
    try clear c14b1
    try clear hx1097_0
    try clear hx1098_0
    try clear p1
    try clear p10
    try clear p1097
    try clear p1098
    try clear p2
    try clear p6
    try clear q1
    try clear q10
    try clear q1097
    try clear q1098
    obtain ⟨x6_2, x38_2, rfl, rfl, HA, HK2, ⟨m2, rfl⟩⟩ := hrel
    cases gk with
    | zero => exact absurd HA.out (by simp [wire_TakeInt.l0])
    | succ k2 =>
     have H := HA.out
     clear HA
     simp only [wire_TakeInt.l0] at H
     by_cases c15 : x38_2 < t1096
     ·rw [if_pos c15] at H
      have c15b0 : decide (x38_2 < t1096) = true := decide_eq_true c15
      clear c15
      by_cases c16 : 0 ≤ x38_2
      rotate_left
      ·rw [if_neg c16] at H
       exact absurd H (by simp)
      rw [if_pos c16] at H
      have c16b0 : decide (0 ≤ x38_2) = true := decide_eq_true c16
      clear c16
      by_cases c17 : x38_2 < (l0.length : Int)
      rotate_left
      ·rw [if_neg c17] at H
       exact absurd H (by simp)
      rw [if_pos c17] at H
      have c17b0 : decide (x38_2 < (l0.length : Int)) = true := decide_eq_true c17
      clear c17
      obtain ⟨ji18, hji18⟩ : ∃ j_ : Int, (wrap64 (7 * x38_2)) = j_ := ⟨_, rfl⟩
      replace H : (if 0 ≤ (ji18) then (wire_TakeInt.l0 k2 l0 t1096 (Go.bits .or .u64 x6_2 (shl .u64 (IntKind.u64.wrap (Go.bits .and .u8 (rd l0 x38_2) 127)) (ji18))) t1096 (wrap64 (x38_2 + 1))) else (none)) = some (r1, r2, r3) := by first | (rw [hji18] at H; exact H) | (simp only [hji18] at H ⊢; exact H)
      have hji18w : (IntKind.i64.wrap (7 * x38_2)) = ji18 := (i64_w _).trans hji18
      by_cases c19 : 0 ≤ (ji18)
      rotate_left
      ·rw [if_neg c19] at H
       exact absurd H (by simp)
      rw [if_pos c19] at H
      have c19b0 := eq_true c19
      have c19b1 : decide (0 ≤ (ji18)) = true := decide_eq_true c19
      clear c19
      obtain ⟨ji20, hji20⟩ : ∃ j_ : Int, (shl .u64 (IntKind.u64.wrap (Go.bits .and .u8 (rd l0 x38_2) 127)) (ji18)) = j_ := ⟨_, rfl⟩
      replace H : (wire_TakeInt.l0 k2 l0 t1096 (Go.bits .or .u64 x6_2 (ji20)) t1096 (wrap64 (x38_2 + 1))) = some (r1, r2, r3) := by first | (rw [hji20] at H; exact H) | (simp only [hji20] at H ⊢; exact H)
      have hji20_ : (IntKind.u64.wrap ((IntKind.u64.wrap (Go.bits .and .u8 (rd l0 x38_2) 127)) * 2 ^ min (ji18).toNat 64)) = ji20 := hji20
      have hji20z : (ji18) ≤ 64 → (IntKind.u64.wrap ((IntKind.u64.wrap (Go.bits .and .u8 (rd l0 x38_2) 127)) * 2 ^ (ji18).toNat)) = ji20 := shl_small hji20
      have H' := Aside0.mk H
      clear H
      have p1099 : 0 ≤ (x38_2 : Int) := of_decide_eq_true (by first | (with_reducible assumption) | assumption)
      have q1099 : x38_2 < (l0.length : Int) := of_decide_eq_true (by first | (with_reducible assumption) | assumption)
      obtain ⟨ad1099, e1099, hx1099_0⟩ := Kd.at_int HR0.out x38_2 p1099 q1099
      cases e1099
      replace p1099 := eq_true p1099
      replace q1099 := eq_true q1099
      go_wp2
      go_roundg k2
      case measure => have := HJ2.out; have := HK2.out; omega
      case rel => exact ⟨(Go.bits .or .u64 x6_2 (ji20)), (wrap64 (x38_2 + 1)), (by first | rfl | (simp; done) | (simp only [← hji20] <;> (first | rfl | simp)) | (simp [*]; done)), (by first | rfl | (simp; done) | (simp [*]; done)), H', ⟨by have := HJ2.out; have := HK2.out; omega⟩, by repeat (first | exact Drawn0.refl _ | apply Drawn0.step)⟩
     ·rw [if_neg c15] at H
      have c15b0 : decide (x38_2 < t1096) = false := decide_eq_false c15
      clear c15
      by_cases c21 : (Go.bits .and .u64 x6_2 1) = 1
      ·rw [if_pos c21] at H
       have c21b0 : ((Go.bits .and .u64 x6_2 1) == 1) = true := beq_iff_eq.mpr c21
       have c21b1 : ((Go.bits .and .u64 x6_2 1) != 1) = false := bne_eq_false_iff_eq.mpr c21
       clear c21
       simp only [Option.some.injEq, Prod.mk.injEq] at H
       obtain ⟨rfl, rfl, rfl⟩ := H
       go_wp2
       go_ret3
       exact ⟨by first | rfl | (simp; done) | (simp [*]; done), by repeat (first | exact Drawn0.refl _ | apply Drawn0.step)⟩
      ·rw [if_neg c21] at H
       have c21b0 : ((Go.bits .and .u64 x6_2 1) == 1) = false := beq_eq_false_iff_ne.mpr c21
       have c21b1 : ((Go.bits .and .u64 x6_2 1) != 1) = true := bne_iff_ne.mpr c21
       simp only [Option.some.injEq, Prod.mk.injEq] at H
       obtain ⟨rfl, rfl, rfl⟩ := H
       go_wp2
       go_ret3
       exact ⟨by first | rfl | (simp; done) | (simp [*]; done), by repeat (first | exact Drawn0.refl _ | apply Drawn0.step)⟩
end Go.Proofs.Yteopkkoblbmggaa.P
end
