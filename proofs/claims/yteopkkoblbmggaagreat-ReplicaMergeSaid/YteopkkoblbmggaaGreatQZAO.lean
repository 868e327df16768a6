/- Texts of this claim in one: VPStaff; no condition. -/
import Derived.Test.YteopkkoblbmggaaGreatQZAE
import Derived.Test.YteopkkoblbmggaaGreatQZAF
import Derived.Test.YteopkkoblbmggaaGreatQZAH
import Derived.Test.YteopkkoblbmggaaGreatQZAM
import Derived.Test.YteopkkoblbmggaaGreatQZAL
import Derived.Test.YteopkkoblbmggaaGreatQZAN
import Derived.Test.YteopkkoblbmggaaGreatQZAK
import Derived.Test.YteopkkoblbmggaaGreatQZAJ
section
set_option linter.unusedVariables false
set_option linter.unusedSimpArgs false
namespace Go.Proofs.YteopkkoblbmggaaGreat.P
open Go.RowKit Go.Shelf Go.Maps Go.Proofs.YteopkkoblbmggaaGreatW.PrintWords Go.Proofs.YteopkkoblbmggaaGreatW.PrintLast Go.Proofs.YteopkkoblbmggaaGreatW.PrintMore
attribute [local go_sem] YW YY Y19 Y1a YM YN YX YZ
theorem Y1I {α β : Type} {d : Kd α} {d' : Kd β} {e e' base : Nat} {ok ok' : Nat → Prop} {W : World} {v v' : Value} {xs : List α} {ys : List β} (h : d.R e W base ok v xs) (h' : d'.R e' W base ok' v' ys) (ht : e' ≠ e) : ∀ k, v.ownBlock = some k → some k ≠ v'.ownBlock := fun k hk => by
  obtain ⟨cells, hc⟩ := Y2G h.2.choose_spec.1 k hk; exact Y4R h'.2.choose_spec.1 hc ht
def stO (l : List S52) (a2 a3 : Int) (x : SG) (q : List S42 × List S46) : List S42 × List S46 :=
  if (x.p != a2) = true ∨ ((lasF l l.length x.p x.c x.d).getD z52).f3 = true then q
  else if decide (a3 < wrap64 (((lasF l l.length x.p x.c x.d).getD z52).f4.f2 + ((lasF l l.length x.p x.c x.d).getD z52).f4.f3)) = true ∨ decide ((256 : Int) ≤ (q.1.length : Int)) = true ∨ meetP q.1 ((lasF l l.length x.p x.c x.d).getD z52).f4 = true then (q.1, q.2 ++ [⟨x.c, x.d⟩])
  else (q.1 ++ [((lasF l l.length x.p x.c x.d).getD z52).f4], q.2)
def stS (l : List S52) (a2 a3 : Int) (s : List SG) : Nat → List S42 × List S46
  | 0 => ([], [])
  | j + 1 => if h : j < s.length then stO l a2 a3 s[j] (stS l a2 a3 s j) else stS l a2 a3 s j
theorem Y5X (l : List S52) (a2 a3 : Int) (x : SG) (q : List S42 × List S46) : (stO l a2 a3 x q).1.length ≤ q.1.length + 1 ∧ (stO l a2 a3 x q).2.length ≤ q.2.length + 1 := by
  unfold stO
  split
  · exact ⟨by omega, by omega⟩
  · split <;> simp
theorem Y3l (l : List S52) (a2 a3 : Int) (s : List SG) : ∀ j, (stS l a2 a3 s j).1.length ≤ j ∧ (stS l a2 a3 s j).2.length ≤ j
  | 0 => ⟨by simp [stS], by simp [stS]⟩
  | j + 1 => by
    have ih := Y3l l a2 a3 s j; unfold stS
    split
    · rename_i h
      have := Y5X l a2 a3 s[j] (stS l a2 a3 s j); exact ⟨by omega, by omega⟩
    · exact ⟨by omega, by omega⟩
def stfP (l : List S52) (a2 a3 : Int) : List S42 × List S46 := stS l a2 a3 (isrt ltG (sgF l l.length)) (isrt ltG (sgF l l.length)).length
def stfE (a2 a3 : Int) : Int := if a2 < 0 ∨ 12 ≤ a2 then 33 else if a3 < 1 ∨ 8192 < a3 then 1 else 0
theorem Y3T : ∀ {l : List S52}, Y1N l = 0 → ∀ e ∈ l, chk52 e = 0
  | [], _, _, h => by simp at h
  | x :: t, h, e, he => by
    unfold Y1N at h
    split at h
    · rename_i h0
      rcases List.mem_cons.1 he with rfl | he
      · exact h0
      · exact Y3T h e he
    · rename_i h0; exact absurd h h0
theorem Y5l {d : Int} {l : List S52} (h : rchkP d l = 0) : ∀ e ∈ l, chk52 e = 0 := by
  refine Y3T ?_; unfold rchkP at h
  split at h
  · cases h
  · split at h
    · cases h
    · split at h
      · assumption
      · rename_i hc; exact absurd h hc
theorem Y5G {e : S52} (h : chk52 e = 0) (hd : e.f3 = false) : 0 ≤ e.f4.f2 ∧ 1 ≤ e.f4.f3 ∧ e.f4.f2 + e.f4.f3 ≤ 8192 := by
  unfold chk52 chkE at h; rw [hd] at h
  split at h
  · cases h
  · split at h
    · cases h
    · rw [if_neg (by decide)] at h
      unfold chkP at h
      split at h
      · cases h
      · split at h
        · cases h
        · split at h
          · cases h
          · omega
theorem Y3e {l : List S52} {p c d : Int} {y : S52} : ∀ {j : Nat}, lasF l j p c d = some y → y ∈ l ∧ p = y.f1 ∧ c = y.f2.f0 ∧ d = y.f2.f1
  | 0, h => by simp [lasF] at h
  | j + 1, h => by
    unfold lasF at h
    split at h
    · rename_i hj
      split at h
      · rename_i hq
        obtain rfl := Option.some.inj h; exact ⟨List.getElem_mem hj, hq⟩
      · exact Y3e h
    · exact Y3e h
theorem Y2A {l : List S52} {p c d : Int} : ∀ {j : Nat} (i : Nat) (hi : i < l.length), i < j → p = l[i].f1 ∧ c = l[i].f2.f0 ∧ d = l[i].f2.f1 → ∃ y, lasF l j p c d = some y
  | 0, _, _, h, _ => absurd h (Nat.not_lt_zero _)
  | j + 1, i, hi, h, hq => by
    unfold lasF
    split
    · rename_i hj
      split
      · exact ⟨_, rfl⟩
      · rename_i hn
        rcases Nat.lt_or_ge i j with g | g
        · exact Y2A i hi g hq
        · have : i = j := by omega
          subst this; exact absurd hq hn
    · rename_i hj
      exact Y2A i hi (by omega) hq
theorem Y5N {l : List S52} {x : SG} (h : x ∈ sgF l l.length) : ∃ y, lasF l l.length x.p x.c x.d = some y ∧ y ∈ l := by
  obtain ⟨e, he, rfl⟩ := Y2c h; obtain ⟨i, hi, rfl⟩ := List.getElem_of_mem he; obtain ⟨y, hy⟩ := Y2A (p := l[i].f1) (c := l[i].f2.f0) (d := l[i].f2.f1) i hi hi ⟨rfl, rfl, rfl⟩; exact ⟨y, hy, (Y3e hy).1⟩
def okY (t : S42) : Prop := 0 ≤ t.f2 ∧ 1 ≤ t.f3 ∧ t.f2 + t.f3 ≤ 8192
def Apart (tk : List S42) : Prop := (∀ t ∈ tk, okY t) ∧ tk.Pairwise (fun t x => meet1 x t = false)
theorem Y59 {a : Int} (h0 : 0 ≤ a) (h1 : a ≤ 8192) : wrap64 a = a := by unfold wrap64; omega
theorem Y4s {tk : List S42} (h : Apart tk) : OneEq ltY tk := by
  intro a ha b hb h1 h2; obtain ⟨i, hi, rfl⟩ := List.getElem_of_mem ha; obtain ⟨j, hj, rfl⟩ := List.getElem_of_mem hb
  simp [ltY, lessB] at h1 h2
  have va := h.1 _ (List.getElem_mem hi); have vb := h.1 _ (List.getElem_mem hj); have hp := List.pairwise_iff_getElem.1 h.2
  have key : ∀ (x y : S42), okY x → okY y → x.f2 = y.f2 → x.f1 = y.f1 → meet1 y x = true := by
    intro x y vx vy e1 e2; obtain ⟨q1, q2, q3⟩ := vx; obtain ⟨r1, r2, r3⟩ := vy; simp only [meet1, Y59 (show 0 ≤ y.f2 + y.f3 by omega) (by omega), Y59 (show 0 ≤ x.f2 + x.f3 by omega) (by omega), Bool.and_eq_true, beq_iff_eq, decide_eq_true_eq]; omega
  rcases Nat.lt_trichotomy i j with q | q | q
  · have := hp i j hi hj q
    rw [key _ _ va vb (by omega) (by omega)] at this; cases this
  · subst q; rfl
  · have := hp j i hj hi q
    rw [key _ _ vb va (by omega) (by omega)] at this; cases this
theorem Y41 {tk : List S42} {x : S42} (h : Apart tk) (hx : okY x) (hm : meetP tk x = false) : Apart (tk ++ [x]) := by
  refine ⟨fun t ht => ?_, ?_⟩
  · rcases List.mem_append.1 ht with ht | ht
    · exact h.1 t ht
    · obtain rfl : t = x := by simpa using ht
      exact hx
  · rw [List.pairwise_append]
    refine ⟨h.2, by simp, fun a ha b hb => ?_⟩; obtain rfl : b = x := by simpa using hb
    cases hq : meet1 b a with
    | false => rfl
    | true =>
      have : meetP tk b = true := List.any_eq_true.2 ⟨a, ha, hq⟩; rw [hm] at this; cases this
theorem Y57 {d : Int} {l : List S52} (h : rchkP d l = 0) (a2 a3 : Int) (x : SG) (hx : x ∈ sgF l l.length) (q : List S42 × List S46) (hq : Apart q.1) : Apart (stO l a2 a3 x q).1 := by
  obtain ⟨y, hy, hm⟩ := Y5N hx; unfold stO; rw [hy, Option.getD_some]
  split
  · exact hq
  · rename_i h1
    split
    · exact hq
    · rename_i h2
      refine Y41 hq ?_ ?_
      · have hf : y.f3 = false := by
          cases hb : y.f3
          · rfl
          · exact absurd (Or.inr hb) h1
        exact Y5G (Y5l h y hm) hf
      · cases hb : meetP q.1 y.f4
        · rfl
        · exact absurd (Or.inr (Or.inr hb)) h2
theorem Y2K {d : Int} {l : List S52} (h : rchkP d l = 0) (a2 a3 : Int) : ∀ j, Apart (stS l a2 a3 (isrt ltG (sgF l l.length)) j).1
  | 0 => ⟨by simp [stS], by simp [stS]⟩
  | j + 1 => by
    unfold stS
    split
    · rename_i hj
      exact Y57 h a2 a3 _ ((Y23 ltG _).mem_iff.1 (List.getElem_mem hj)) _ (Y2K h a2 a3 j)
    · exact Y2K h a2 a3 j
theorem oneY {d : Int} {l : List S52} (h : rchkP d l = 0) (a2 a3 : Int) : OneEq ltY (stfP l a2 a3).1 := Y4s (Y2K h a2 a3 _)
def Y1z.f (a0 : Int) (l1 : List S52) (a2 a3 : Int) : Option (List S42 × List S46 × Int) :=
  if ∀ e ∈ l1, okE52 e then (if rchkP a0 l1 = 0 then (if stfE a2 a3 = 0 then some (isrt ltY (stfP l1 a2 a3).1, (stfP l1 a2 a3).2, 0) else some ([], [], stfE a2 a3)) else some ([], [], rchkP a0 l1)) else none
set_option maxHeartbeats 16000000 in
set_option maxRecDepth 100000 in
theorem Y1z.calls (a0 : Int) (A1 : Option Addr) (c1 : Nat) (l1 : List S52) (a2 a3 : Int) (r0 : List S42) (r1 : List S46) (r2 : Int) (w : World) (hr1 : Kd.C k52 w A1 l1.length l1) (hc1 : l1.length ≤ c1) (h : Y1z.f a0 l1 a2 a3 = some (r0, r1, r2)) :
    Calls Tryz.prog 14 #[.agg #[.int .i64 a0, .slice A1 l1.length c1], .int .i64 a2, .int .i64 a3] w fun e w' => ∃ v0_ v1_ : Value, e = .returned (.tuple #[v0_, v1_, .int .i64 r2]) ∧ Kd.R k42 42 w' w.heap.size (fun _ => True) v0_ r0 ∧ Kd.R k46 46 w' w.heap.size (fun _ => True) v1_ r1 ∧ Below w.heap.size w w' := by
  unfold Y1z.f at h; by_cases hv : ∀ e ∈ l1, okE52 e
  rotate_left
  · rw [if_neg hv] at h; cases h
  rw [if_pos hv] at h; have HR := Y0.mk hr1; have HC := Y0.mk hc1; have HV := Y0.mk hv; have HB := Y0.mk (Below.refl w.heap.size w); have hu24 := Tryz.underlying24; have hu46 := Tryz.underlying46; have hu42 := Tryz.underlying42; have hu52 := Tryz.underlying52; have huS := Tryz.underlying67; obtain ⟨cv, hcv⟩ : ∃ c, rchkP a0 l1 = c := ⟨_, rfl⟩; have HQ : Y0 (Yv.f a0 l1 = some cv) := ⟨by unfold Yv.f; rw [if_pos hv, hcv]⟩; rw [hcv] at h; by_cases hz : cv = 0
  rotate_left
  · rw [if_neg hz] at h
    simp only [Option.some.injEq, Prod.mk.injEq] at h; obtain ⟨rfl, rfl, rfl⟩ := h; have hz2 : (cv != 0) = true := by simp; exact hz
    clear hr1 hc1 hv hcv hz; go_enter Tryz.func14, Tryz.ntmps14
    go_wp2_with (first | ((with_reducible refine Yf (N := 3) rfl ?_); refine Yi ?hg (N := 3) ?hd (cs := #[.int .i64 a0, .slice A1 l1.length c1]) (t := 24) ?hr ?_; (case hd => rfl); (case hg => rfl); (case hr => first | (go_simp; done) | (go_simp; rfl)); intro g3 hg W3 hbox hb; replace HB := Y0.mk (Y5 (hU HB.out) hb); have B3 := Y0.mk hbox; clear hb hbox hg; have hc3 := Y2 B3.out; have hf3 := Y4 B3.out) | ((with_reducible refine Ye (f := 15) rfl ?_); refine YU (some 19) rfl rfl Tryz.func15 (by kernel_rfl) rfl #[.agg #[.int .i64 a0, .slice A1 l1.length c1]] rfl (by (try simp only [List.map_toArray, List.map_cons, List.map_nil]); first | done | (go_simp; done) | rfl) ?_; refine (Yv.calls a0 A1 c1 l1 _ _ (Kd.C_below HR.out (hU HB.out)) HC.out HQ.out).mono ?_; rintro e w2 ⟨rfl, hb⟩; refine ⟨_, rfl, ?_⟩; replace B3 := Y0.mk (Y3 (bU B3.out) hb); replace HB := Y0.mk (Y5 (hU HB.out) hb); clear hb; clear hc3 hf3; have hc3 := Y2 B3.out; have hf3 := Y4 B3.out))
    go_ret3
    exact ⟨_, _, rfl, Kd.R_nil _ _ _ _ _, Kd.R_nil _ _ _ _ _, hU HB.out⟩
  subst hz; rw [if_pos rfl] at h; have HL := Y0.mk (show l1.length ≤ 1000000 from Nat.le_trans (Y3h hcv) (by omega)); have H1 := Y0.mk (oneS hcv l1.length); have h2 := oneY hcv a2 a3; clear hr1 hc1 hv hcv; unfold stfE at h; obtain ⟨p1, hp1⟩ : ∃ b, decide (a2 < 0) = b := ⟨_, rfl⟩; obtain ⟨p2, hp2⟩ : ∃ b, decide (12 ≤ a2) = b := ⟨_, rfl⟩; obtain ⟨p3, hp3⟩ : ∃ b, decide (a3 < 1) = b := ⟨_, rfl⟩; obtain ⟨p4, hp4⟩ : ∃ b, decide (8192 < a3) = b := ⟨_, rfl⟩; by_cases e1 : a2 < 0 ∨ 12 ≤ a2
  · rw [if_pos e1, if_neg (by decide)] at h
    simp only [Option.some.injEq, Prod.mk.injEq] at h; obtain ⟨rfl, rfl, rfl⟩ := h; cases p1
    · cases p2
      · simp at hp1 hp2; omega
      · go_enter Tryz.func14, Tryz.ntmps14
        go_wp2_with (first | ((with_reducible refine Yf (N := 3) rfl ?_); refine Yi ?hg (N := 3) ?hd (cs := #[.int .i64 a0, .slice A1 l1.length c1]) (t := 24) ?hr ?_; (case hd => rfl); (case hg => rfl); (case hr => first | (go_simp; done) | (go_simp; rfl)); intro g3 hg W3 hbox hb; replace HB := Y0.mk (Y5 (hU HB.out) hb); have B3 := Y0.mk hbox; clear hb hbox hg; have hc3 := Y2 B3.out; have hf3 := Y4 B3.out) | ((with_reducible refine Ye (f := 15) rfl ?_); refine YU (some 19) rfl rfl Tryz.func15 (by kernel_rfl) rfl #[.agg #[.int .i64 a0, .slice A1 l1.length c1]] rfl (by (try simp only [List.map_toArray, List.map_cons, List.map_nil]); first | done | (go_simp; done) | rfl) ?_; refine (Yv.calls a0 A1 c1 l1 _ _ (Kd.C_below HR.out (hU HB.out)) HC.out HQ.out).mono ?_; rintro e w2 ⟨rfl, hb⟩; refine ⟨_, rfl, ?_⟩; replace B3 := Y0.mk (Y3 (bU B3.out) hb); replace HB := Y0.mk (Y5 (hU HB.out) hb); clear hb; clear hc3 hf3; have hc3 := Y2 B3.out; have hf3 := Y4 B3.out))
        go_ret3
        exact ⟨_, _, rfl, Kd.R_nil _ _ _ _ _, Kd.R_nil _ _ _ _ _, hU HB.out⟩
    · go_enter Tryz.func14, Tryz.ntmps14
      go_wp2_with (first | ((with_reducible refine Yf (N := 3) rfl ?_); refine Yi ?hg (N := 3) ?hd (cs := #[.int .i64 a0, .slice A1 l1.length c1]) (t := 24) ?hr ?_; (case hd => rfl); (case hg => rfl); (case hr => first | (go_simp; done) | (go_simp; rfl)); intro g3 hg W3 hbox hb; replace HB := Y0.mk (Y5 (hU HB.out) hb); have B3 := Y0.mk hbox; clear hb hbox hg; have hc3 := Y2 B3.out; have hf3 := Y4 B3.out) | ((with_reducible refine Ye (f := 15) rfl ?_); refine YU (some 19) rfl rfl Tryz.func15 (by kernel_rfl) rfl #[.agg #[.int .i64 a0, .slice A1 l1.length c1]] rfl (by (try simp only [List.map_toArray, List.map_cons, List.map_nil]); first | done | (go_simp; done) | rfl) ?_; refine (Yv.calls a0 A1 c1 l1 _ _ (Kd.C_below HR.out (hU HB.out)) HC.out HQ.out).mono ?_; rintro e w2 ⟨rfl, hb⟩; refine ⟨_, rfl, ?_⟩; replace B3 := Y0.mk (Y3 (bU B3.out) hb); replace HB := Y0.mk (Y5 (hU HB.out) hb); clear hb; clear hc3 hf3; have hc3 := Y2 B3.out; have hf3 := Y4 B3.out))
      go_ret3
      exact ⟨_, _, rfl, Kd.R_nil _ _ _ _ _, Kd.R_nil _ _ _ _ _, hU HB.out⟩
  rw [if_neg e1] at h; have p1f : p1 = false := by rw [← hp1]; simp; omega
  have p2f : p2 = false := by rw [← hp2]; simp; omega
  subst p1f p2f; by_cases e2 : a3 < 1 ∨ 8192 < a3
  · rw [if_pos e2, if_neg (by decide)] at h
    simp only [Option.some.injEq, Prod.mk.injEq] at h; obtain ⟨rfl, rfl, rfl⟩ := h; cases p3
    · cases p4
      · simp at hp3 hp4; omega
      · go_enter Tryz.func14, Tryz.ntmps14
        go_wp2_with (first | ((with_reducible refine Yf (N := 3) rfl ?_); refine Yi ?hg (N := 3) ?hd (cs := #[.int .i64 a0, .slice A1 l1.length c1]) (t := 24) ?hr ?_; (case hd => rfl); (case hg => rfl); (case hr => first | (go_simp; done) | (go_simp; rfl)); intro g3 hg W3 hbox hb; replace HB := Y0.mk (Y5 (hU HB.out) hb); have B3 := Y0.mk hbox; clear hb hbox hg; have hc3 := Y2 B3.out; have hf3 := Y4 B3.out) | ((with_reducible refine Ye (f := 15) rfl ?_); refine YU (some 19) rfl rfl Tryz.func15 (by kernel_rfl) rfl #[.agg #[.int .i64 a0, .slice A1 l1.length c1]] rfl (by (try simp only [List.map_toArray, List.map_cons, List.map_nil]); first | done | (go_simp; done) | rfl) ?_; refine (Yv.calls a0 A1 c1 l1 _ _ (Kd.C_below HR.out (hU HB.out)) HC.out HQ.out).mono ?_; rintro e w2 ⟨rfl, hb⟩; refine ⟨_, rfl, ?_⟩; replace B3 := Y0.mk (Y3 (bU B3.out) hb); replace HB := Y0.mk (Y5 (hU HB.out) hb); clear hb; clear hc3 hf3; have hc3 := Y2 B3.out; have hf3 := Y4 B3.out))
        go_ret3
        exact ⟨_, _, rfl, Kd.R_nil _ _ _ _ _, Kd.R_nil _ _ _ _ _, hU HB.out⟩
    · go_enter Tryz.func14, Tryz.ntmps14
      go_wp2_with (first | ((with_reducible refine Yf (N := 3) rfl ?_); refine Yi ?hg (N := 3) ?hd (cs := #[.int .i64 a0, .slice A1 l1.length c1]) (t := 24) ?hr ?_; (case hd => rfl); (case hg => rfl); (case hr => first | (go_simp; done) | (go_simp; rfl)); intro g3 hg W3 hbox hb; replace HB := Y0.mk (Y5 (hU HB.out) hb); have B3 := Y0.mk hbox; clear hb hbox hg; have hc3 := Y2 B3.out; have hf3 := Y4 B3.out) | ((with_reducible refine Ye (f := 15) rfl ?_); refine YU (some 19) rfl rfl Tryz.func15 (by kernel_rfl) rfl #[.agg #[.int .i64 a0, .slice A1 l1.length c1]] rfl (by (try simp only [List.map_toArray, List.map_cons, List.map_nil]); first | done | (go_simp; done) | rfl) ?_; refine (Yv.calls a0 A1 c1 l1 _ _ (Kd.C_below HR.out (hU HB.out)) HC.out HQ.out).mono ?_; rintro e w2 ⟨rfl, hb⟩; refine ⟨_, rfl, ?_⟩; replace B3 := Y0.mk (Y3 (bU B3.out) hb); replace HB := Y0.mk (Y5 (hU HB.out) hb); clear hb; clear hc3 hf3; have hc3 := Y2 B3.out; have hf3 := Y4 B3.out))
      go_ret3
      exact ⟨_, _, rfl, Kd.R_nil _ _ _ _ _, Kd.R_nil _ _ _ _ _, hU HB.out⟩
  rw [if_neg e2, if_pos rfl] at h; have p3f : p3 = false := by rw [← hp3]; simp; omega
  have p4f : p4 = false := by rw [← hp4]; simp; omega
  subst p3f p4f; simp only [Option.some.injEq, Prod.mk.injEq] at h; obtain ⟨rfl, rfl, rfl⟩ := h; have H2 := Y0.mk h2; have HSL : Y0 ((isrt ltG (sgF l1 l1.length)).length ≤ l1.length) := ⟨by rw [(Y23 ltG _).length_eq]; exact Y3k _ _⟩
  have HSO : Y0 (∀ x ∈ (isrt ltG (sgF l1 l1.length)), okN x.p ∧ okN x.c ∧ okN x.d) := ⟨fun x hx => by
    obtain ⟨e, he, rfl⟩ := Y2c ((Y23 ltG _).mem_iff.1 hx)
    exact HV.out e he⟩
  clear h2 e1 e2; go_enter Tryz.func14, Tryz.ntmps14
  go_wp2_with (first | ((with_reducible refine Yf (N := 3) rfl ?_); refine Yi ?hg (N := 3) ?hd (cs := #[.int .i64 a0, .slice A1 l1.length c1]) (t := 24) ?hr ?_; (case hd => rfl); (case hg => rfl); (case hr => first | (go_simp; done) | (go_simp; rfl)); intro g3 hg W3 hbox hb; replace HB := Y0.mk (Y5 (hU HB.out) hb); have B3 := Y0.mk hbox; clear hb hbox hg; have hc3 := Y2 B3.out; have hf3 := Y4 B3.out) | ((with_reducible refine Ye (f := 15) rfl ?_); refine YU (some 19) rfl rfl Tryz.func15 (by kernel_rfl) rfl #[.agg #[.int .i64 a0, .slice A1 l1.length c1]] rfl (by (try simp only [List.map_toArray, List.map_cons, List.map_nil]); first | done | (go_simp; done) | rfl) ?_; refine (Yv.calls a0 A1 c1 l1 _ _ (Kd.C_below HR.out (hU HB.out)) HC.out HQ.out).mono ?_; rintro e w2 ⟨rfl, hb⟩; refine ⟨_, rfl, ?_⟩; replace B3 := Y0.mk (Y3 (bU B3.out) hb); replace HB := Y0.mk (Y5 (hU HB.out) hb); clear hb; clear hc3 hf3; have hc3 := Y2 B3.out; have hf3 := Y4 B3.out) | ((with_reducible refine Ye (f := 33) rfl ?_); refine YU (some 37) rfl rfl Tryz.func33 (by kernel_rfl) rfl #[.agg #[.int .i64 a0, .slice A1 l1.length c1]] rfl (by (try simp only [List.map_toArray, List.map_cons, List.map_nil]); first | done | (go_simp; done) | rfl) ?_; refine (Y2Y a0 A1 c1 l1 _ (Kd.C_below HR.out (hU HB.out)) HC.out HL.out HV.out H1.out).mono ?_; rintro e w3 ⟨m, vs, D, rfl, hge, hom, hsy, hos, hb⟩; refine ⟨_, rfl, ?_⟩; have OM := Y0.mk hom; have SY := Y0.mk hsy; have HG := Y0.mk (Kd.R_lower hos (Ym (hU HB.out))); clear hom hsy hos hge; replace HB := Y0.mk (Y5 (hU HB.out) hb); clear hb hc3 hf3 B3; obtain ⟨As, cs, es⟩ := Kd.R_slice HG.out; subst es))
  go_loopg [12, 13, 42] (isrt ltG (sgF l1 l1.length)).length (fun kq v12 v13 v42 W => ∃ (i : Nat) (u12 u13 : Value), v12 = u12 ∧ v13 = u13 ∧ v42 = .int .i64 (i : Int) ∧ Y0 (i + kq = (isrt ltG (sgF l1 l1.length)).length) ∧ Y0 (World.ownsMap W Tryz.prog 67 rV m l1.length D) ∧ Y0 (kG.R 67 W w.heap.size (fun _ => True) (.slice As (isrt ltG (sgF l1 l1.length)).length cs) (isrt ltG (sgF l1 l1.length))) ∧ Y0 (k42.R 42 W w.heap.size (fun _ => True) u12 (stS l1 a2 a3 (isrt ltG (sgF l1 l1.length)) i).1) ∧ Y0 (k46.R 46 W w.heap.size (fun _ => True) u13 (stS l1 a2 a3 (isrt ltG (sgF l1 l1.length)) i).2) ∧ Y0 (Below w.heap.size w W))
  case atStart => exact ⟨0, _, _, rfl, rfl, rfl, ⟨by omega⟩, OM, HG, ⟨Kd.R_nil _ _ _ _ _⟩, ⟨Kd.R_nil _ _ _ _ _⟩, HB⟩
  case round =>
    clear HB OM HG; obtain ⟨i, u12, u13, rfl, rfl, rfl, HK, OM, HG, HT, HP, HB⟩ := hrel; cases gk with
    | zero =>
      have hi : i = (isrt ltG (sgF l1 l1.length)).length := by have := HK.out; omega
      subst hi; have hlt : decide ((isrt ltG (sgF l1 l1.length)).length < (isrt ltG (sgF l1 l1.length)).length) = false := by simp
      have HTL : Y0 ((stS l1 a2 a3 (isrt ltG (sgF l1 l1.length)) (isrt ltG (sgF l1 l1.length)).length).1.length < 4611686018427387904) := ⟨by have := (Y3l l1 a2 a3 (isrt ltG (sgF l1 l1.length)) (isrt ltG (sgF l1 l1.length)).length).1; have := HSL.out; have := HL.out; omega⟩; go_wp2_with (first | ((with_reducible refine Ye (f := 35) rfl ?_); refine YU (some 87) rfl rfl Tryz.func35 (by kernel_rfl) rfl #[u12, .func (.func 36) #[] #[]] rfl (by (try simp only [List.map_toArray, List.map_cons, List.map_nil]); first | done | rfl) ?_; (refine (Y55 HT.out H2.out HTL.out).mono ?_); rintro e W2 ⟨rfl, ho, hg⟩; refine ⟨_, rfl, ?_⟩; have HB2 := Y0.mk (HB.out.grown hg (Ym HB.out) (fun j hj => Y1L HT.out.2.choose_spec.1 j hj)); have HT2 := Y0.mk ho; have HP2 := Y0.mk (Kd.R_grown2 HP.out rfl hg (Y1I HT.out HP.out (by decide))); clear ho hg))
      go_ret3
      exact ⟨u12, u13, rfl, HT2.out, HP2.out, HB2.out⟩
    | succ k1 =>
      have hi : i < (isrt ltG (sgF l1 l1.length)).length := by have := HK.out; omega
      have hlt : decide (i < (isrt ltG (sgF l1 l1.length)).length) = true := by simp; exact hi
      obtain ⟨adx, x, e0x, hxs, hx0, hx1, hx2⟩ := at_G ((Kd.R_reads' HG.out).2.2) i hi; cases e0x
      have q0 : (0 ≤ ((i : Nat) : Int)) = True := by simp
      have q1 : (((i : Nat) : Int) < ((isrt ltG (sgF l1 l1.length)).length : Int)) = True := by simp; exact hi
      have HE := Y0.mk (HSO.out x (List.mem_of_getElem? hxs))
      have HS0 : Y0 (stS l1 a2 a3 (isrt ltG (sgF l1 l1.length)) (i + 1) = stO l1 a2 a3 x (stS l1 a2 a3 (isrt ltG (sgF l1 l1.length)) i)) := ⟨by
        have hx : (isrt ltG (sgF l1 l1.length))[i] = x := by rw [List.getElem?_eq_getElem hi] at hxs; exact Option.some.inj hxs
        rw [stS, dif_pos hi, hx]⟩
      have HTL : Y0 ((stS l1 a2 a3 (isrt ltG (sgF l1 l1.length)) i).1.length ≤ 1000000) := ⟨by have := (Y3l l1 a2 a3 (isrt ltG (sgF l1 l1.length)) i).1; have := HSL.out; have := HL.out; omega⟩; have HPL : Y0 ((stS l1 a2 a3 (isrt ltG (sgF l1 l1.length)) i).2.length ≤ 1000000) := ⟨by have := (Y3l l1 a2 a3 (isrt ltG (sgF l1 l1.length)) i).2; have := HSL.out; have := HL.out; omega⟩; have HI := Y0.mk hi; unfold stO at HS0; obtain ⟨tk, htk⟩ : ∃ t, (stS l1 a2 a3 (isrt ltG (sgF l1 l1.length)) i).1 = t := ⟨_, rfl⟩; obtain ⟨pk, hpk⟩ : ∃ t, (stS l1 a2 a3 (isrt ltG (sgF l1 l1.length)) i).2 = t := ⟨_, rfl⟩; have hpr : stS l1 a2 a3 (isrt ltG (sgF l1 l1.length)) i = (tk, pk) := by rw [← htk, ← hpk]
      rw [htk] at HT HTL; rw [hpk] at HP HPL; rw [hpr] at HS0; obtain ⟨y, hy⟩ : ∃ y, (lasF l1 l1.length x.p x.c x.d).getD z52 = y := ⟨_, rfl⟩; have HYE := Y0.mk hy; rw [hy] at HS0; obtain ⟨At, ct, et⟩ := Kd.R_slice HT.out; subst et; clear hi htk hpk hpr hxs hy; go_upto_region 14 with (fail)
      have HB1 : Y0 (Below w.heap.size w (wr.alloc (.cells #[.int .i64 x.p, .int .i64 x.c, .int .i64 x.d] 67))) := ⟨YA HB.out _⟩; have OM1 : Y0 (World.ownsMap (H := Value) (wr.alloc (.cells #[.int .i64 x.p, .int .i64 x.c, .int .i64 x.d] 67)) Tryz.prog 67 rV m l1.length D) := ⟨OM.out.alloc _⟩; have HG1 : Y0 (kG.R 67 (wr.alloc (.cells #[.int .i64 x.p, .int .i64 x.c, .int .i64 x.d] 67)) w.heap.size (fun _ => True) (.slice (some adx) (isrt ltG (sgF l1 l1.length)).length cs) (isrt ltG (sgF l1 l1.length))) := ⟨Kd.R_below HG.out (YA (Below.refl _ _) _)⟩; have HT1 : Y0 (k42.R 42 (wr.alloc (.cells #[.int .i64 x.p, .int .i64 x.c, .int .i64 x.d] 67)) w.heap.size (fun _ => True) (.slice At tk.length ct) tk) := ⟨Kd.R_below HT.out (YA (Below.refl _ _) _)⟩; have HP1 : Y0 (k46.R 46 (wr.alloc (.cells #[.int .i64 x.p, .int .i64 x.c, .int .i64 x.d] 67)) w.heap.size (fun _ => True) u13 pk) := ⟨Kd.R_below HP.out (YA (Below.refl _ _) _)⟩; have B15 : Y0 ((wr.alloc (.cells #[.int .i64 x.p, .int .i64 x.c, .int .i64 x.d] 67)).heap[wr.heap.size]? = some (.cells #[.int .i64 x.p, .int .i64 x.c, .int .i64 x.d] 67 (0, 0))) := ⟨Y1w _ _⟩; generalize (wr.alloc (.cells #[.int .i64 x.p, .int .i64 x.c, .int .i64 x.d] 67)) = W1 at HB1 OM1 HG1 HT1 HP1 B15 ⊢; generalize wr.heap.size = gB15 at B15 ⊢; clear HB OM HG HT HP; clear hx0 hx1 hx2; have hc15 := Y2 B15.out; go_upto_region 15 with (first | ((with_reducible refine Yf (N := 48) rfl ?_); refine Y2N _ rfl _ _ 62 rfl 67 52 lawS Tryz.underlying62 (zeroV _) m l1.length D rfl OM1.out (.agg #[.int .i64 x.p, .int .i64 x.c, .int .i64 x.d]) _ rfl (Y1D HE.out.1 HE.out.2.1 HE.out.2.2) y (by have := (SY.out _ _ _ HE.out.1 HE.out.2.1 HE.out.2.2).1; rw [HYE.out] at this; exact this) ?_; unfold vE))
      have HB2 : Y0 (Below w.heap.size w (W1.alloc (.cells #[.int .i64 y.f0.f0, .int .i64 y.f0.f1, .int .i64 y.f1, .int .i64 y.f2.f0, .int .i64 y.f2.f1, .bool y.f3, .int .i64 y.f4.f0, .int .i64 y.f4.f1, .int .i64 y.f4.f2, .int .i64 y.f4.f3, .int .i64 y.f4.f4, .int .i64 y.f4.f5, .int .i64 y.f4.f6] 52))) := ⟨YA HB1.out _⟩; have OM2 : Y0 (World.ownsMap (H := Value) (W1.alloc (.cells #[.int .i64 y.f0.f0, .int .i64 y.f0.f1, .int .i64 y.f1, .int .i64 y.f2.f0, .int .i64 y.f2.f1, .bool y.f3, .int .i64 y.f4.f0, .int .i64 y.f4.f1, .int .i64 y.f4.f2, .int .i64 y.f4.f3, .int .i64 y.f4.f4, .int .i64 y.f4.f5, .int .i64 y.f4.f6] 52)) Tryz.prog 67 rV m l1.length D) := ⟨OM1.out.alloc _⟩; have HG2 : Y0 (kG.R 67 (W1.alloc (.cells #[.int .i64 y.f0.f0, .int .i64 y.f0.f1, .int .i64 y.f1, .int .i64 y.f2.f0, .int .i64 y.f2.f1, .bool y.f3, .int .i64 y.f4.f0, .int .i64 y.f4.f1, .int .i64 y.f4.f2, .int .i64 y.f4.f3, .int .i64 y.f4.f4, .int .i64 y.f4.f5, .int .i64 y.f4.f6] 52)) w.heap.size (fun _ => True) (.slice (some adx) (isrt ltG (sgF l1 l1.length)).length cs) (isrt ltG (sgF l1 l1.length))) := ⟨Kd.R_below HG1.out (YA (Below.refl _ _) _)⟩; have HT2 : Y0 (k42.R 42 (W1.alloc (.cells #[.int .i64 y.f0.f0, .int .i64 y.f0.f1, .int .i64 y.f1, .int .i64 y.f2.f0, .int .i64 y.f2.f1, .bool y.f3, .int .i64 y.f4.f0, .int .i64 y.f4.f1, .int .i64 y.f4.f2, .int .i64 y.f4.f3, .int .i64 y.f4.f4, .int .i64 y.f4.f5, .int .i64 y.f4.f6] 52)) w.heap.size (fun _ => True) (.slice At tk.length ct) tk) := ⟨Kd.R_below HT1.out (YA (Below.refl _ _) _)⟩; have HP2 : Y0 (k46.R 46 (W1.alloc (.cells #[.int .i64 y.f0.f0, .int .i64 y.f0.f1, .int .i64 y.f1, .int .i64 y.f2.f0, .int .i64 y.f2.f1, .bool y.f3, .int .i64 y.f4.f0, .int .i64 y.f4.f1, .int .i64 y.f4.f2, .int .i64 y.f4.f3, .int .i64 y.f4.f4, .int .i64 y.f4.f5, .int .i64 y.f4.f6] 52)) w.heap.size (fun _ => True) u13 pk) := ⟨Kd.R_below HP1.out (YA (Below.refl _ _) _)⟩; have B152 : Y0 ((W1.alloc (.cells #[.int .i64 y.f0.f0, .int .i64 y.f0.f1, .int .i64 y.f1, .int .i64 y.f2.f0, .int .i64 y.f2.f1, .bool y.f3, .int .i64 y.f4.f0, .int .i64 y.f4.f1, .int .i64 y.f4.f2, .int .i64 y.f4.f3, .int .i64 y.f4.f4, .int .i64 y.f4.f5, .int .i64 y.f4.f6] 52)).heap[gB15]? = some (.cells #[.int .i64 x.p, .int .i64 x.c, .int .i64 x.d] 67 (0, 0))) := ⟨Y8 B15.out _⟩; have B16 : Y0 ((W1.alloc (.cells #[.int .i64 y.f0.f0, .int .i64 y.f0.f1, .int .i64 y.f1, .int .i64 y.f2.f0, .int .i64 y.f2.f1, .bool y.f3, .int .i64 y.f4.f0, .int .i64 y.f4.f1, .int .i64 y.f4.f2, .int .i64 y.f4.f3, .int .i64 y.f4.f4, .int .i64 y.f4.f5, .int .i64 y.f4.f6] 52)).heap[W1.heap.size]? = some (.cells #[.int .i64 y.f0.f0, .int .i64 y.f0.f1, .int .i64 y.f1, .int .i64 y.f2.f0, .int .i64 y.f2.f1, .bool y.f3, .int .i64 y.f4.f0, .int .i64 y.f4.f1, .int .i64 y.f4.f2, .int .i64 y.f4.f3, .int .i64 y.f4.f4, .int .i64 y.f4.f5, .int .i64 y.f4.f6] 52 (0, 0))) := ⟨Y1w _ _⟩; generalize (W1.alloc (.cells #[.int .i64 y.f0.f0, .int .i64 y.f0.f1, .int .i64 y.f1, .int .i64 y.f2.f0, .int .i64 y.f2.f1, .bool y.f3, .int .i64 y.f4.f0, .int .i64 y.f4.f1, .int .i64 y.f4.f2, .int .i64 y.f4.f3, .int .i64 y.f4.f4, .int .i64 y.f4.f5, .int .i64 y.f4.f6] 52)) = W2 at HB2 OM2 HG2 HT2 HP2 B152 B16 ⊢; generalize W1.heap.size = gB16 at B16 ⊢; clear HB1 OM1 HG1 HT1 HP1 B15; clear hc15; have hc15 := Y2 B152.out; have hc16 := Y2 B16.out; obtain ⟨b1, hb1⟩ : ∃ b, (x.p != a2) = b := ⟨_, rfl⟩; obtain ⟨b2, hb2⟩ : ∃ b, y.f3 = b := ⟨_, rfl⟩; obtain ⟨b3, hb3⟩ : ∃ b, decide (a3 < wrap64 (y.f4.f2 + y.f4.f3)) = b := ⟨_, rfl⟩; obtain ⟨b4, hb4⟩ : ∃ b, decide ((256 : Int) ≤ (tk.length : Int)) = b := ⟨_, rfl⟩; obtain ⟨b5, hb5⟩ : ∃ b, meetP tk y.f4 = b := ⟨_, rfl⟩; have HME := Y0.mk hb5; simp only [hb1, hb2, hb3, hb4, hb5] at HS0; clear hb5; cases b1
      rotate_left
      · have HST : Y0 (stS l1 a2 a3 (isrt ltG (sgF l1 l1.length)) (i + 1) = (tk, pk)) := ⟨by rw [HS0.out]; simp⟩
        go_wp2
        go_roundg k1
        case measure => have := HK.out; omega
        case rel => exact ⟨i + 1, _, _, rfl, rfl, by first | (simp; done) | (simp; unfold wrap64; have := HI.out; have := HSL.out; have := HL.out; omega), ⟨by have := HK.out; omega⟩, OM2, HG2, ⟨by rw [HST.out]; exact HT2.out⟩, ⟨by rw [HST.out]; exact HP2.out⟩, HB2⟩
      cases b2
      rotate_left
      · have HST : Y0 (stS l1 a2 a3 (isrt ltG (sgF l1 l1.length)) (i + 1) = (tk, pk)) := ⟨by rw [HS0.out]; simp⟩
        go_wp2
        go_roundg k1
        case measure => have := HK.out; omega
        case rel => exact ⟨i + 1, _, _, rfl, rfl, by first | (simp; done) | (simp; unfold wrap64; have := HI.out; have := HSL.out; have := HL.out; omega), ⟨by have := HK.out; omega⟩, OM2, HG2, ⟨by rw [HST.out]; exact HT2.out⟩, ⟨by rw [HST.out]; exact HP2.out⟩, HB2⟩
      go_upto_region 17 with (fail)
      have HB3 : Y0 (Below w.heap.size w (W2.alloc (.cells #[.int .i64 y.f4.f0, .int .i64 y.f4.f1, .int .i64 y.f4.f2, .int .i64 y.f4.f3, .int .i64 y.f4.f4, .int .i64 y.f4.f5, .int .i64 y.f4.f6] 42))) := ⟨YA HB2.out _⟩; have OM3 : Y0 (World.ownsMap (H := Value) (W2.alloc (.cells #[.int .i64 y.f4.f0, .int .i64 y.f4.f1, .int .i64 y.f4.f2, .int .i64 y.f4.f3, .int .i64 y.f4.f4, .int .i64 y.f4.f5, .int .i64 y.f4.f6] 42)) Tryz.prog 67 rV m l1.length D) := ⟨OM2.out.alloc _⟩; have HG3 : Y0 (kG.R 67 (W2.alloc (.cells #[.int .i64 y.f4.f0, .int .i64 y.f4.f1, .int .i64 y.f4.f2, .int .i64 y.f4.f3, .int .i64 y.f4.f4, .int .i64 y.f4.f5, .int .i64 y.f4.f6] 42)) w.heap.size (fun _ => True) (.slice (some adx) (isrt ltG (sgF l1 l1.length)).length cs) (isrt ltG (sgF l1 l1.length))) := ⟨Kd.R_below HG2.out (YA (Below.refl _ _) _)⟩; have HT3 : Y0 (k42.R 42 (W2.alloc (.cells #[.int .i64 y.f4.f0, .int .i64 y.f4.f1, .int .i64 y.f4.f2, .int .i64 y.f4.f3, .int .i64 y.f4.f4, .int .i64 y.f4.f5, .int .i64 y.f4.f6] 42)) w.heap.size (fun _ => True) (.slice At tk.length ct) tk) := ⟨Kd.R_below HT2.out (YA (Below.refl _ _) _)⟩; have HP3 : Y0 (k46.R 46 (W2.alloc (.cells #[.int .i64 y.f4.f0, .int .i64 y.f4.f1, .int .i64 y.f4.f2, .int .i64 y.f4.f3, .int .i64 y.f4.f4, .int .i64 y.f4.f5, .int .i64 y.f4.f6] 42)) w.heap.size (fun _ => True) u13 pk) := ⟨Kd.R_below HP2.out (YA (Below.refl _ _) _)⟩; have B153 : Y0 ((W2.alloc (.cells #[.int .i64 y.f4.f0, .int .i64 y.f4.f1, .int .i64 y.f4.f2, .int .i64 y.f4.f3, .int .i64 y.f4.f4, .int .i64 y.f4.f5, .int .i64 y.f4.f6] 42)).heap[gB15]? = some (.cells #[.int .i64 x.p, .int .i64 x.c, .int .i64 x.d] 67 (0, 0))) := ⟨Y8 B152.out _⟩; have B17 : Y0 ((W2.alloc (.cells #[.int .i64 y.f4.f0, .int .i64 y.f4.f1, .int .i64 y.f4.f2, .int .i64 y.f4.f3, .int .i64 y.f4.f4, .int .i64 y.f4.f5, .int .i64 y.f4.f6] 42)).heap[W2.heap.size]? = some (.cells #[.int .i64 y.f4.f0, .int .i64 y.f4.f1, .int .i64 y.f4.f2, .int .i64 y.f4.f3, .int .i64 y.f4.f4, .int .i64 y.f4.f5, .int .i64 y.f4.f6] 42 (0, 0))) := ⟨Y1w _ _⟩; generalize (W2.alloc (.cells #[.int .i64 y.f4.f0, .int .i64 y.f4.f1, .int .i64 y.f4.f2, .int .i64 y.f4.f3, .int .i64 y.f4.f4, .int .i64 y.f4.f5, .int .i64 y.f4.f6] 42)) = W3 at HB3 OM3 HG3 HT3 HP3 B153 B17 ⊢; generalize W2.heap.size = gB17 at B17 ⊢; clear HB2 OM2 HG2 HT2 HP2 B152; clear hc15 hc16 B16; have B173 := B17; have hc15 := Y2 B153.out; have hc17 := Y2 B173.out; cases b3
      · cases b4
        · cases b5
          · have HST : Y0 (stS l1 a2 a3 (isrt ltG (sgF l1 l1.length)) (i + 1) = (tk ++ [y.f4], pk)) := ⟨by rw [HS0.out]; simp⟩
            go_wp2_with (first | (go_at_call 34; refine (Y2C y.f4 HT3.out HTL.out).mono ?_; rintro e W4 ⟨rfl, hb⟩; (try dsimp only); rw [HME.out]; have HB4 := Y0.mk (Y5 HB3.out hb); have OM4 := Y0.mk (Y29 OM3.out hb); have HG4 := Y0.mk (Kd.R_below HG3.out hb); have HT4 := Y0.mk (Kd.R_below HT3.out hb); have HP4 := Y0.mk (Kd.R_below HP3.out hb); have B154 := Y0.mk (Y3 B153.out hb); have B174 := Y0.mk (Y3 B173.out hb); clear hb HB3 OM3 HG3 HT3 HP3 B153 B173 hc17 hc15; have hc17 := Y2 B174.out; have hc15 := Y2 B154.out) | ((with_reducible refine Y14 (b := .append) (xs := #[.tmp 81, .tmp 83]) rfl ?_); at_builtin; refine Kd.R_append k42 (w0 := w) w.heap.size rfl (.tmp 81) (.tmp 83) 35 42 (.agg #[(.int .i64 0), (.int .i64 0), (.int .i64 0), (.int .i64 0), (.int .i64 0), (.int .i64 0), (.int .i64 0)]) 56 rfl Tryz.underlying35 Y63 rfl (by decide) (by omega) (.slice At tk.length ct) tk y.f4 [.int .i64 y.f4.f0, .int .i64 y.f4.f1, .int .i64 y.f4.f2, .int .i64 y.f4.f3, .int .i64 y.f4.f4, .int .i64 y.f4.f5, .int .i64 y.f4.f6] (fun _ => True) (fun _ => False) rfl rfl ?aP (fun _ hk => hk.elim) ?aF ?aO ?aB ?aS ?aL ?_; (case aP => exact Y2k _ _ _ y.f4); (case aB => exact (hU HB4.out)); (case aF => exact fun _ _ => trivial); (case aO => exact (Kd.rU HT4.out)); (case aS => exact (Ym (hU HB4.out))); (case aL => have := HTL.out; omega); intro v6 W5 ho hb hg hat; have HB5 := Y0.mk hb; have HT5 := Y0.mk ho; have OM5 := Y0.mk (OM4.out.kept hg (Y1C OM4.out HT4.out)); have HG5 := Y0.mk (Kd.R_grown2 HG4.out rfl hg (Y1I HT4.out HG4.out (by decide))); have HP5 := Y0.mk (Kd.R_grown2 HP4.out rfl hg (Y1I HT4.out HP4.out (by decide))); clear ho hb hg hat))
            go_roundg k1
            case measure => have := HK.out; omega
            case rel => exact ⟨i + 1, _, _, rfl, rfl, by first | (simp; done) | (simp; unfold wrap64; have := HI.out; have := HSL.out; have := HL.out; omega), ⟨by have := HK.out; omega⟩, OM5, HG5, ⟨by rw [HST.out]; exact HT5.out⟩, ⟨by rw [HST.out]; exact HP5.out⟩, HB5⟩
          · have HST : Y0 (stS l1 a2 a3 (isrt ltG (sgF l1 l1.length)) (i + 1) = (tk, pk ++ [⟨x.c, x.d⟩])) := ⟨by rw [HS0.out]; simp⟩
            go_wp2_with (first | (go_at_call 34; refine (Y2C y.f4 HT3.out HTL.out).mono ?_; rintro e W4 ⟨rfl, hb⟩; (try dsimp only); rw [HME.out]; have HB4 := Y0.mk (Y5 HB3.out hb); have OM4 := Y0.mk (Y29 OM3.out hb); have HG4 := Y0.mk (Kd.R_below HG3.out hb); have HT4 := Y0.mk (Kd.R_below HT3.out hb); have HP4 := Y0.mk (Kd.R_below HP3.out hb); have B154 := Y0.mk (Y3 B153.out hb); have B174 := Y0.mk (Y3 B173.out hb); clear hb HB3 OM3 HG3 HT3 HP3 B153 B173 hc17 hc15; have hc17 := Y2 B174.out; have hc15 := Y2 B154.out) | ((with_reducible refine Y14 (b := .append) (xs := #[.tmp 76, .tmp 79]) rfl ?_); at_builtin; refine Kd.R_append k46 (w0 := w) w.heap.size rfl (.tmp 76) (.tmp 79) 36 46 (.agg #[(.int .i64 0), (.int .i64 0)]) 16 rfl Tryz.underlying36 Y4G rfl (by decide) (by omega) u13 pk (⟨x.c, x.d⟩ : S46) [.int .i64 x.c, .int .i64 x.d] (fun _ => True) (fun _ => False) rfl rfl ?aP (fun _ hk => hk.elim) ?aF ?aO ?aB ?aS ?aL ?_; (case aP => exact Y2l _ _ _ (⟨x.c, x.d⟩ : S46)); (case aB => exact (hU HB4.out)); (case aF => exact fun _ _ => trivial); (case aO => exact (Kd.rU HP4.out)); (case aS => exact (Ym (hU HB4.out))); (case aL => have := HPL.out; omega); intro v6 W5 ho hb hg hat; have HB5 := Y0.mk hb; have HP5 := Y0.mk ho; have OM5 := Y0.mk (OM4.out.kept hg (Y1C OM4.out HP4.out)); have HG5 := Y0.mk (Kd.R_grown2 HG4.out rfl hg (Y1I HP4.out HG4.out (by decide))); have HT5 := Y0.mk (Kd.R_grown2 HT4.out rfl hg (Y1I HP4.out HT4.out (by decide))); clear ho hb hg hat))
            go_roundg k1
            case measure => have := HK.out; omega
            case rel => exact ⟨i + 1, _, _, rfl, rfl, by first | (simp; done) | (simp; unfold wrap64; have := HI.out; have := HSL.out; have := HL.out; omega), ⟨by have := HK.out; omega⟩, OM5, HG5, ⟨by rw [HST.out]; exact HT5.out⟩, ⟨by rw [HST.out]; exact HP5.out⟩, HB5⟩
        · have HST : Y0 (stS l1 a2 a3 (isrt ltG (sgF l1 l1.length)) (i + 1) = (tk, pk ++ [⟨x.c, x.d⟩])) := ⟨by rw [HS0.out]; simp⟩
          go_wp2_with (first | ((with_reducible refine Y14 (b := .append) (xs := #[.tmp 76, .tmp 79]) rfl ?_); at_builtin; refine Kd.R_append k46 (w0 := w) w.heap.size rfl (.tmp 76) (.tmp 79) 36 46 (.agg #[(.int .i64 0), (.int .i64 0)]) 16 rfl Tryz.underlying36 Y4G rfl (by decide) (by omega) u13 pk (⟨x.c, x.d⟩ : S46) [.int .i64 x.c, .int .i64 x.d] (fun _ => True) (fun _ => False) rfl rfl ?aP (fun _ hk => hk.elim) ?aF ?aO ?aB ?aS ?aL ?_; (case aP => exact Y2l _ _ _ (⟨x.c, x.d⟩ : S46)); (case aB => exact (hU HB3.out)); (case aF => exact fun _ _ => trivial); (case aO => exact (Kd.rU HP3.out)); (case aS => exact (Ym (hU HB3.out))); (case aL => have := HPL.out; omega); intro v6 W5 ho hb hg hat; have HB5 := Y0.mk hb; have HP5 := Y0.mk ho; have OM5 := Y0.mk (OM3.out.kept hg (Y1C OM3.out HP3.out)); have HG5 := Y0.mk (Kd.R_grown2 HG3.out rfl hg (Y1I HP3.out HG3.out (by decide))); have HT5 := Y0.mk (Kd.R_grown2 HT3.out rfl hg (Y1I HP3.out HT3.out (by decide))); clear ho hb hg hat))
          go_roundg k1
          case measure => have := HK.out; omega
          case rel => exact ⟨i + 1, _, _, rfl, rfl, by first | (simp; done) | (simp; unfold wrap64; have := HI.out; have := HSL.out; have := HL.out; omega), ⟨by have := HK.out; omega⟩, OM5, HG5, ⟨by rw [HST.out]; exact HT5.out⟩, ⟨by rw [HST.out]; exact HP5.out⟩, HB5⟩
      · have HST : Y0 (stS l1 a2 a3 (isrt ltG (sgF l1 l1.length)) (i + 1) = (tk, pk ++ [⟨x.c, x.d⟩])) := ⟨by rw [HS0.out]; simp⟩
        go_wp2_with (first | ((with_reducible refine Y14 (b := .append) (xs := #[.tmp 76, .tmp 79]) rfl ?_); at_builtin; refine Kd.R_append k46 (w0 := w) w.heap.size rfl (.tmp 76) (.tmp 79) 36 46 (.agg #[(.int .i64 0), (.int .i64 0)]) 16 rfl Tryz.underlying36 Y4G rfl (by decide) (by omega) u13 pk (⟨x.c, x.d⟩ : S46) [.int .i64 x.c, .int .i64 x.d] (fun _ => True) (fun _ => False) rfl rfl ?aP (fun _ hk => hk.elim) ?aF ?aO ?aB ?aS ?aL ?_; (case aP => exact Y2l _ _ _ (⟨x.c, x.d⟩ : S46)); (case aB => exact (hU HB3.out)); (case aF => exact fun _ _ => trivial); (case aO => exact (Kd.rU HP3.out)); (case aS => exact (Ym (hU HB3.out))); (case aL => have := HPL.out; omega); intro v6 W5 ho hb hg hat; have HB5 := Y0.mk hb; have HP5 := Y0.mk ho; have OM5 := Y0.mk (OM3.out.kept hg (Y1C OM3.out HP3.out)); have HG5 := Y0.mk (Kd.R_grown2 HG3.out rfl hg (Y1I HP3.out HG3.out (by decide))); have HT5 := Y0.mk (Kd.R_grown2 HT3.out rfl hg (Y1I HP3.out HT3.out (by decide))); clear ho hb hg hat))
        go_roundg k1
        case measure => have := HK.out; omega
        case rel => exact ⟨i + 1, _, _, rfl, rfl, by first | (simp; done) | (simp; unfold wrap64; have := HI.out; have := HSL.out; have := HL.out; omega), ⟨by have := HK.out; omega⟩, OM5, HG5, ⟨by rw [HST.out]; exact HT5.out⟩, ⟨by rw [HST.out]; exact HP5.out⟩, HB5⟩
end Go.Proofs.YteopkkoblbmggaaGreat.P
end
