/- Texts of this claim in one: VMeet, VPValue; no condition. -/
import Derived.Test.YteopkkoblbmggaaGreatQZAE
import Derived.Test.YteopkkoblbmggaaGreatQZAF
import Derived.Test.YteopkkoblbmggaaGreatQZAM
import Derived.Test.YteopkkoblbmggaaGreatQZAC
import Derived.Test.YteopkkoblbmggaaGreatQZAH
import Derived.Test.YteopkkoblbmggaaGreatQZAL
import Derived.Test.YteopkkoblbmggaaGreatQZAK
import Derived.Test.YteopkkoblbmggaaGreatQZAJ
section
set_option linter.unusedVariables false
set_option linter.unusedSimpArgs false
namespace Go.Proofs.YteopkkoblbmggaaGreat.P
open Go.RowKit Go.Shelf Go.Lib Go.Proofs Go.Proofs.YteopkkoblbmggaaGreatW.PrintWords Go.Proofs.YteopkkoblbmggaaGreatW.PrintLast Go.Proofs.YteopkkoblbmggaaGreatW.PrintMore
attribute [local go_sem] YW YY Y19 Y1a YM YN YX YZ
def meet1 (s x : S42) : Bool := (x.f1 == s.f1 && decide (x.f2 < wrap64 (s.f2 + s.f3))) && decide (s.f2 < wrap64 (x.f2 + x.f3))
def meetP (l : List S42) (s : S42) : Bool := l.any (meet1 s)
set_option maxHeartbeats 8000000 in
set_option maxRecDepth 100000 in
theorem Y3A (x s : S42) (g : Nat) (w : World) (hs : w.heap[g]? = some (.cells #[.int .i64 s.f0, .int .i64 s.f1, .int .i64 s.f2, .int .i64 s.f3, .int .i64 s.f4, .int .i64 s.f5, .int .i64 s.f6] 42 (0, 0))) :
    Calls Tryz.prog 48 #[.agg #[.int .i64 x.f0, .int .i64 x.f1, .int .i64 x.f2, .int .i64 x.f3, .int .i64 x.f4, .int .i64 x.f5, .int .i64 x.f6], .pointer (some ⟨g, 0, none⟩)] w fun e w' => e = .returned (.bool (meet1 s x)) ∧ Below w.heap.size w w' := by
  have hu42 := Tryz.underlying42; have HB := Y0.mk (Below.refl w.heap.size w); have Bs := Y0.mk hs; clear hs; have hcs := Y2 Bs.out; have hfs := Y4 Bs.out; unfold meet1; obtain ⟨b1, h1⟩ : ∃ b, (x.f1 == s.f1) = b := ⟨_, rfl⟩; rw [h1]; cases b1
  · go_enter Tryz.func48, Tryz.ntmps48
    go_wp2_with (first | ((with_reducible refine Yf (N := 2) rfl ?_); refine Yi ?hg (N := 2) ?hd (cs := #[.int .i64 x.f0, .int .i64 x.f1, .int .i64 x.f2, .int .i64 x.f3, .int .i64 x.f4, .int .i64 x.f5, .int .i64 x.f6]) (t := 42) ?hr ?_; (case hd => rfl); (case hg => rfl); (case hr => first | (go_simp; done) | (go_simp; rfl)); intro ga hg wa hbox hb; have n0_ := Y0.mk (Y5 (hU HB.out) hb); have n1_ := Y0.mk (hbox); have ea := Y0.mk ((by rw [hg]; exact Ym (hU HB.out)) : w.heap.size ≤ ga); replace Bs := Y0.mk (Y3 (bU Bs.out) hb); clear HB; have HB := n0_; have Ba := n1_; clear n0_ n1_; clear hb hbox hg; have hcs_a := Y2 Bs.out; have hfs_a := Y4 Bs.out; have hca_a := Y2 Ba.out; have hfa_a := Y4 Ba.out))
    go_ret
    exact ⟨reS, hU HB.out⟩
  · obtain ⟨b2, h2⟩ : ∃ b, decide (x.f2 < wrap64 (s.f2 + s.f3)) = b := ⟨_, rfl⟩
    rw [h2]; cases b2
    · go_enter Tryz.func48, Tryz.ntmps48
      go_wp2_with (first | ((with_reducible refine Yf (N := 2) rfl ?_); refine Yi ?hg (N := 2) ?hd (cs := #[.int .i64 x.f0, .int .i64 x.f1, .int .i64 x.f2, .int .i64 x.f3, .int .i64 x.f4, .int .i64 x.f5, .int .i64 x.f6]) (t := 42) ?hr ?_; (case hd => rfl); (case hg => rfl); (case hr => first | (go_simp; done) | (go_simp; rfl)); intro ga hg wa hbox hb; have n0_ := Y0.mk (Y5 (hU HB.out) hb); have n1_ := Y0.mk (hbox); have ea := Y0.mk ((by rw [hg]; exact Ym (hU HB.out)) : w.heap.size ≤ ga); replace Bs := Y0.mk (Y3 (bU Bs.out) hb); clear HB; have HB := n0_; have Ba := n1_; clear n0_ n1_; clear hb hbox hg; have hcs_a := Y2 Bs.out; have hfs_a := Y4 Bs.out; have hca_a := Y2 Ba.out; have hfa_a := Y4 Ba.out))
      go_ret
      exact ⟨reS, hU HB.out⟩
    · go_enter Tryz.func48, Tryz.ntmps48
      go_wp2_with (first | ((with_reducible refine Yf (N := 2) rfl ?_); refine Yi ?hg (N := 2) ?hd (cs := #[.int .i64 x.f0, .int .i64 x.f1, .int .i64 x.f2, .int .i64 x.f3, .int .i64 x.f4, .int .i64 x.f5, .int .i64 x.f6]) (t := 42) ?hr ?_; (case hd => rfl); (case hg => rfl); (case hr => first | (go_simp; done) | (go_simp; rfl)); intro ga hg wa hbox hb; have n0_ := Y0.mk (Y5 (hU HB.out) hb); have n1_ := Y0.mk (hbox); have ea := Y0.mk ((by rw [hg]; exact Ym (hU HB.out)) : w.heap.size ≤ ga); replace Bs := Y0.mk (Y3 (bU Bs.out) hb); clear HB; have HB := n0_; have Ba := n1_; clear n0_ n1_; clear hb hbox hg; have hcs_a := Y2 Bs.out; have hfs_a := Y4 Bs.out; have hca_a := Y2 Ba.out; have hfa_a := Y4 Ba.out))
      go_ret
      exact ⟨reS, hU HB.out⟩
set_option maxHeartbeats 8000000 in
set_option maxRecDepth 100000 in
theorem Y46 (fv : Value) (w : World) : Calls Tryz.prog 61 #[.slice none 0 0, fv] w fun e w' => e = .returned (.int .i64 (-1)) ∧ Below w.heap.size w w' := by
  have HB := Y0.mk (Below.refl w.heap.size w); go_enter Tryz.func61, Tryz.ntmps61
  go_wp2
  go_loopg [5, 8] 0 (fun gg s5 s8 wr => s8 = .int .i64 0 ∧ Y0 (Below w.heap.size w wr))
  case atStart => exact ⟨rfl, HB⟩
  case round =>
    obtain ⟨rfl, HB2⟩ := hrel; go_wp2
    go_ret
    exact ⟨rfl, HB2.out⟩
set_option maxHeartbeats 8000000 in
set_option maxRecDepth 100000 in
theorem Y36 (fv : Value) (w : World) : Calls Tryz.prog 47 #[.slice none 0 0, fv] w fun e w' => e = .returned (.bool false) ∧ Below w.heap.size w w' := by
  have e6 : ∀ args w, (callFunc 61 args).run Tryz.prog w = .ok (.enter 61 args) w := enters_of Tryz.func61 (by kernel_rfl) rfl; go_enter Tryz.func47, Tryz.ntmps47
  go_wp2_with (go_at_call 61; refine (Y46 _ _).mono ?_; rintro e w' ⟨rfl, hb'⟩)
  go_ret
  exact ⟨rfl, hb'⟩
theorem Y2O {v : Value} {base e g : Nat} {ok : Nat → Prop} {w : World} {xs : List S42} (s : S42) (h : k42.R e w base ok v xs) (hs : w.heap[g]? = some (.cells #[.int .i64 s.f0, .int .i64 s.f1, .int .i64 s.f2, .int .i64 s.f3, .int .i64 s.f4, .int .i64 s.f5, .int .i64 s.f6] 42 (0, 0))) (hl : xs.length ≤ 1000000) :
    Calls Tryz.prog 47 #[v, .func (.func 48) #[] #[.pointer (some ⟨g, 0, none⟩)]] w fun r w' => r = .returned (.bool (meetP xs s)) ∧ Below w.heap.size w w' := by
  have eg : ∀ args w, (callFunc 48 args).run Tryz.prog w = .ok (.enter 48 args) w := enters_of Tryz.func48 (by kernel_rfl) rfl; have h0 := h; obtain ⟨_, inner, ho, hr⟩ := h0; rcases ho.2 with ⟨hv, hn⟩ | ⟨b, c, cur, hv, _⟩
  · subst hv
    have : xs = [] := List.length_eq_zero_iff.1 hn; subst this; exact Y36 _ _
  · subst hv
    obtain ⟨cur, hb, hlt, hg, hn, hm, hsz, ht⟩ := Y2e (enc := encY) (fun _ => rfl) (fun _ _ _ _ _ hp => Y24 hp) h; have hC := (Kd.R_reads' h).2.2; refine (AnyQ.slices_ContainsFunc Tryz.anyY 7 Tryz.isAgg42 Tryz.sizeOf42 encY (fun _ => rfl) (meet1 s) 48 #[.pointer (some ⟨g, 0, none⟩)] eg b 0 xs.length c xs w ?_ (Nat.le_refl _) (by omega) hlt ?_).mono ?_
    · intro W x hb
      refine (Y3A x s g W (Y3 hs hb)).mono ?_; rintro r w' ⟨rfl, hb'⟩; exact ⟨rfl, Y5 hb hb'⟩
    · intro j hj i v hi
      rcases hC with ⟨_, _, hc⟩
      obtain ⟨ad, he, hcell⟩ := hc (by omega); injection he with he
      subst he; obtain ⟨cs, _, hK, hcc⟩ := hcell j xs[j] (List.getElem?_eq_getElem hj); obtain rfl := Y3b hK; have hx : xs[j]! = xs[j] := getElem!_pos xs j hj; rw [hx] at hi; have := hcc i v hi; rw [Addr.add_lit, show 0 + (j * k42.sz + i) = 0 + j * 7 + i from by show 0 + (j * 7 + i) = _; omega] at this; exact this
    · rintro r w' ⟨rfl, hb'⟩
      refine ⟨?_, hb'⟩; rw [List.take_length]; rfl
set_option maxHeartbeats 8000000 in
set_option maxRecDepth 100000 in
theorem Y2C {v : Value} {base e : Nat} {ok : Nat → Prop} {w : World} {xs : List S42} (s : S42) (h : k42.R e w base ok v xs) (hl : xs.length ≤ 1000000) :
    Calls Tryz.prog 34 #[v, .agg #[.int .i64 s.f0, .int .i64 s.f1, .int .i64 s.f2, .int .i64 s.f3, .int .i64 s.f4, .int .i64 s.f5, .int .i64 s.f6]] w fun r w' => r = .returned (.bool (meetP xs s)) ∧ Below w.heap.size w w' := by
  have hu42 := Tryz.underlying42; have HB := Y0.mk (Below.refl w.heap.size w); have HO := Y0.mk h; have HL := Y0.mk hl; clear h hl; have hcon : Y0 (∀ W g, Below w.heap.size w W → W.heap[g]? = some (.cells #[.int .i64 s.f0, .int .i64 s.f1, .int .i64 s.f2, .int .i64 s.f3, .int .i64 s.f4, .int .i64 s.f5, .int .i64 s.f6] 42 (0, 0)) → Calls Tryz.prog 47 #[v, .func (.func 48) #[] #[.pointer (some ⟨g, 0, none⟩)]] W fun r w' => r = .returned (.bool (meetP xs s)) ∧ Below w.heap.size w w') := ⟨fun W g hb hs => (Y2O s (Kd.R_below HO.out hb) hs HL.out).mono fun _ _ ⟨he, hb'⟩ => ⟨he, Y5 hb hb'⟩⟩; generalize meetP xs s = r at hcon ⊢; clear HO HL; go_enter Tryz.func34, Tryz.ntmps34
  go_wp2_with (first | ((with_reducible refine Yf (N := 3) rfl ?_); refine Yi ?hg (N := 3) ?hd (cs := #[.int .i64 s.f0, .int .i64 s.f1, .int .i64 s.f2, .int .i64 s.f3, .int .i64 s.f4, .int .i64 s.f5, .int .i64 s.f6]) (t := 42) ?hr ?_; (case hd => rfl); (case hg => rfl); (case hr => first | (go_simp; done) | (go_simp; rfl)); intro ga hg wa hbox hb; have n0_ := Y0.mk (Y5 (hU HB.out) hb); have n1_ := Y0.mk (hbox); have ea := Y0.mk ((by rw [hg]; exact Ym (hU HB.out)) : w.heap.size ≤ ga); clear HB; have HB := n0_; have Ba := n1_; clear n0_ n1_; clear hb hbox hg; have hca_a := Y2 Ba.out; have hfa_a := Y4 Ba.out) | ((with_reducible refine Ye (f := 47) rfl ?_); refine YU (some 7) rfl rfl Tryz.func47 (by kernel_rfl) rfl #[v, .func (.func 48) #[] #[.pointer (some ⟨ga, 0, none⟩)]] rfl (by (try simp only [List.map_toArray, List.map_cons, List.map_nil]); first | done | rfl) ?_; (refine (hcon.out _ ga (hU HB.out) (bU Ba.out)).mono ?_); rintro e w2 ⟨rfl, hb⟩; refine ⟨_, rfl, ?_⟩; have HB2 := Y0.mk hb; clear hb))
  go_ret
  exact ⟨rfl, hU HB2.out⟩
end Go.Proofs.YteopkkoblbmggaaGreat.P
end
section
set_option linter.unusedVariables false
set_option linter.unusedSimpArgs false
namespace Go.Proofs.YteopkkoblbmggaaGreat.P
open Go.RowKit Go.Shelf Go.Maps Go.Proofs.YteopkkoblbmggaaGreatW.PrintWords Go.Proofs.YteopkkoblbmggaaGreatW.PrintLast Go.Proofs.YteopkkoblbmggaaGreatW.PrintMore
attribute [local go_sem] YW YY Y19 Y1a YM YN YX YZ
theorem Y2m (a : S46) : Y18 a a = false := by simp [Y18, lessP]
theorem Y2B {a b c : S46} (h : Y18 a b = true) (g : Y18 b c = true) : Y18 a c = true := by simp [Y18, lessP] at *; omega
theorem Y2n : ∀ {l : List S52}, ord52 l = true → l.Pairwise (fun x y => Y18 x.f0 y.f0 = true)
  | [], _ => List.Pairwise.nil
  | [x], _ => by simp
  | x :: z :: t, h => by
    have h2 : (Y18 x.f0 z.f0 && ord52 (z :: t)) = true := h; rw [Bool.and_eq_true] at h2; have ih := Y2n h2.2; refine List.pairwise_cons.2 ⟨fun e he => ?_, ih⟩; rcases List.mem_cons.1 he with rfl | he
    · exact h2.1
    · exact Y2B h2.1 ((List.pairwise_cons.1 ih).1 e he)
theorem Y4Q {l : List S52} (h : ord52 l = true) {x y : S52} (hx : x ∈ l) (hy : y ∈ l) (h0 : x.f0.f0 = y.f0.f0) (h1 : x.f0.f1 = y.f0.f1) : x = y := by
  have hp := List.pairwise_iff_getElem.1 (Y2n h); obtain ⟨i, hi, rfl⟩ := List.getElem_of_mem hx; obtain ⟨j, hj, rfl⟩ := List.getElem_of_mem hy; rcases Nat.lt_trichotomy i j with q | q | q
  · have := hp i j hi hj q
    simp [Y18, lessP, h0, h1] at this
  · subst q; rfl
  · have := hp j i hj hi q
    simp [Y18, lessP, h0, h1] at this
theorem Y2u {d : Int} {l : List S52} (h : rchkP d l = 0) : ord52 l = true ∧ ∀ e ∈ l, kno52 l e = true := by
  unfold rchkP at h
  split at h
  · cases h
  · split at h
    · cases h
    · split at h
      · split at h
        · rename_i ho
          split at h
          · rename_i hk
            exact ⟨ho, List.all_eq_true.1 hk⟩
          · cases h
        · cases h
      · rename_i hc
        exact absurd h hc
theorem Y2c {l : List S52} {s : SG} : ∀ {j : Nat}, s ∈ sgF l j → ∃ e ∈ l, s = ⟨e.f1, e.f2.f0, e.f2.f1⟩
  | 0, h => by simp [sgF] at h
  | j + 1, h => by
    unfold sgF at h
    split at h
    · rename_i hj
      split at h
      · exact Y2c h
      · rcases List.mem_append.1 h with h | h
        · exact Y2c h
        · exact ⟨l[j], List.getElem_mem hj, by simpa using h⟩
    · exact Y2c h
theorem Y2z {l : List S52} {e : S52} (h : kno52 l e = true) : ∃ x ∈ l, x.f3 = false ∧ x.f0.f0 = e.f2.f0 ∧ x.f0.f1 = e.f2.f1 ∧ x.f1 = e.f1 ∧ x.f2.f0 = e.f2.f0 ∧ x.f2.f1 = e.f2.f1 := by
  unfold kno52 fouB at h; obtain ⟨x, hx, hq⟩ := List.any_eq_true.1 h
  simp [fndsE] at hq
  obtain ⟨⟨q1, q2, q3⟩, q4, q5, q6⟩ := hq; exact ⟨x, hx, q1, by omega, by omega, q4.symm, q5.symm, q6.symm⟩
theorem oneS {d : Int} {l : List S52} (h : rchkP d l = 0) (j : Nat) : OneEq ltG (sgF l j) := by
  obtain ⟨ho, hk⟩ := Y2u h; intro a ha b hb h1 h2; obtain ⟨ea, ma, rfl⟩ := Y2c ha; obtain ⟨eb, mb, rfl⟩ := Y2c hb; obtain ⟨x, hx, _, x0, x1, x2, _, _⟩ := Y2z (hk ea ma); obtain ⟨y, hy, _, y0, y1, y2, _, _⟩ := Y2z (hk eb mb)
  simp [ltG, lessP] at h1 h2
  have e0 : ea.f2.f0 = eb.f2.f0 := by omega
  have e1 : ea.f2.f1 = eb.f2.f1 := by omega
  have := Y4Q ho hx hy (by omega) (by omega); subst this; rw [← x2, ← y2, e0, e1]
def valR (l : List S52) (p c d : Int) : Int × Int × Int × Int × Int × Int × Int × Bool × Int := match lasF l l.length p c d with
  | none => (0, 0, 0, 0, 0, 0, 0, false, 6)
  | some x => if x.f3 = true then (0, 0, 0, 0, 0, 0, 0, false, 0) else (x.f4.f0, x.f4.f1, x.f4.f2, x.f4.f3, x.f4.f4, x.f4.f5, x.f4.f6, true, 0)
def Y1g.f (a0 : Int) (l1 : List S52) (a2 a3 a4 : Int) : Option (Int × Int × Int × Int × Int × Int × Int × Bool × Int) :=
  if (∀ e ∈ l1, okE52 e) ∧ okN a2 ∧ okN a3 ∧ okN a4 then (if rchkP a0 l1 = 0 then some (valR l1 a2 a3 a4) else some (0, 0, 0, 0, 0, 0, 0, false, rchkP a0 l1)) else none
theorem Y3Q {w W : World} {g : Nat} {v0 v1 v2 v3 v4 v5 v6 : Value} (h : Below w.heap.size w W) (hg : w.heap.size ≤ g) :
    Below w.heap.size w (((((((W.setCell ⟨g, 0, none⟩ v0).setCell ⟨g, 1, none⟩ v1).setCell ⟨g, 2, none⟩ v2).setCell ⟨g, 3, none⟩ v3).setCell ⟨g, 4, none⟩ v4).setCell ⟨g, 5, none⟩ v5).setCell ⟨g, 6, none⟩ v6) :=
  ((((((h.setCell (p := ⟨g, 0, none⟩) hg _).setCell (p := ⟨g, 1, none⟩) hg _).setCell (p := ⟨g, 2, none⟩) hg _).setCell (p := ⟨g, 3, none⟩) hg _).setCell (p := ⟨g, 4, none⟩) hg _).setCell (p := ⟨g, 5, none⟩) hg _).setCell (p := ⟨g, 6, none⟩) hg _
theorem put7 {W : World} {g t : Nat} {a0 a1 a2 a3 a4 a5 a6 v0 v1 v2 v3 v4 v5 v6 : Value} (h : W.heap[g]? = some (.cells #[a0, a1, a2, a3, a4, a5, a6] t (0, 0))) :
    (((((((W.setCell ⟨g, 0, none⟩ v0).setCell ⟨g, 1, none⟩ v1).setCell ⟨g, 2, none⟩ v2).setCell ⟨g, 3, none⟩ v3).setCell ⟨g, 4, none⟩ v4).setCell ⟨g, 5, none⟩ v5).setCell ⟨g, 6, none⟩ v6).heap[g]? = some (.cells #[v0, v1, v2, v3, v4, v5, v6] t (0, 0)) := by
  refine Yt (cs := #[v0, v1, v2, v3, v4, v5, a6]) ?_ 6 _ rfl; refine Yt (cs := #[v0, v1, v2, v3, v4, a5, a6]) ?_ 5 _ rfl; refine Yt (cs := #[v0, v1, v2, v3, a4, a5, a6]) ?_ 4 _ rfl; refine Yt (cs := #[v0, v1, v2, a3, a4, a5, a6]) ?_ 3 _ rfl; refine Yt (cs := #[v0, v1, a2, a3, a4, a5, a6]) ?_ 2 _ rfl; refine Yt (cs := #[v0, a1, a2, a3, a4, a5, a6]) ?_ 1 _ rfl; exact Yt (cs := #[a0, a1, a2, a3, a4, a5, a6]) h 0 _ rfl
set_option maxHeartbeats 16000000 in
set_option maxRecDepth 100000 in
theorem Y1g.calls (a0 : Int) (A1 : Option Addr) (c1 : Nat) (l1 : List S52) (a2 a3 a4 : Int) (r0 r1 r2 r3 r4 r5 r6 : Int) (r7 : Bool) (r8 : Int) (w : World) (hr1 : Kd.C k52 w A1 l1.length l1) (hc1 : l1.length ≤ c1) (h : Y1g.f a0 l1 a2 a3 a4 = some (r0, r1, r2, r3, r4, r5, r6, r7, r8)) :
    Calls Tryz.prog 21 #[.agg #[.int .i64 a0, .slice A1 l1.length c1], .int .i64 a2, .agg #[.int .i64 a3, .int .i64 a4]] w fun e w' => e = .returned (.tuple #[.agg #[.int .i64 r0, .int .i64 r1, .int .i64 r2, .int .i64 r3, .int .i64 r4, .int .i64 r5, .int .i64 r6], .bool r7, .int .i64 r8]) ∧ Below w.heap.size w w' := by
  unfold Y1g.f at h; by_cases hv : (∀ e ∈ l1, okE52 e) ∧ okN a2 ∧ okN a3 ∧ okN a4
  rotate_left
  · rw [if_neg hv] at h; cases h
  rw [if_pos hv] at h; have HR := Y0.mk hr1; have HC := Y0.mk hc1; have HV := Y0.mk hv.1; have HN := Y0.mk hv.2; have HB := Y0.mk (Below.refl w.heap.size w); have hu24 := Tryz.underlying24; have hu46 := Tryz.underlying46; have hu42 := Tryz.underlying42; have hu52 := Tryz.underlying52; have huS := Tryz.underlying67; obtain ⟨cv, hcv⟩ : ∃ c, rchkP a0 l1 = c := ⟨_, rfl⟩; have HQ : Y0 (Yv.f a0 l1 = some cv) := ⟨by unfold Yv.f; rw [if_pos hv.1, hcv]⟩; rw [hcv] at h; by_cases hz : cv = 0
  rotate_left
  · rw [if_neg hz] at h
    simp only [Option.some.injEq, Prod.mk.injEq] at h; obtain ⟨rfl, rfl, rfl, rfl, rfl, rfl, rfl, rfl, rfl⟩ := h; have hz2 : (cv != 0) = true := by simp; exact hz
    clear hr1 hc1 hv hcv hz; go_enter Tryz.func21, Tryz.ntmps21
    go_wp2_with (first | ((with_reducible refine Yf (N := 3) rfl ?_); refine Yi ?hg (N := 3) ?hd (cs := #[.int .i64 a0, .slice A1 l1.length c1]) (t := 24) ?hr ?_; (case hd => rfl); (case hg => rfl); (case hr => first | (go_simp; done) | (go_simp; rfl)); intro g3 hg W3 hbox hb; have G3 := Y0.mk ((by rw [hg]; exact Ym (hU HB.out)) : w.heap.size ≤ g3); replace HB := Y0.mk (Y5 (hU HB.out) hb); have B3 := Y0.mk hbox; clear hb hbox hg) | ((with_reducible refine Yf (N := 5) rfl ?_); refine Yi ?hg (N := 5) ?hd (cs := #[.int .i64 a3, .int .i64 a4]) (t := 46) ?hr ?_; (case hd => rfl); (case hg => rfl); (case hr => first | (go_simp; done) | (go_simp; rfl)); intro g5 hg W5 hbox hb; have hne_ := Nat.ne_of_lt (Y1e (bU B3.out)); rw [← hg] at hne_; have N3_5 := Y0.mk hne_; clear hne_; have N5_3 := Y0.mk (Ne.symm N3_5.out); replace B3 := Y0.mk (Y3 (bU B3.out) hb); have G5 := Y0.mk ((by rw [hg]; exact Ym (hU HB.out)) : w.heap.size ≤ g5); replace HB := Y0.mk (Y5 (hU HB.out) hb); have B5 := Y0.mk hbox; clear hb hbox hg) | ((with_reducible refine Yf (N := 6) rfl ?_); refine Yi ?hg (N := 6) ?hd (cs := #[.int .i64 0, .int .i64 0, .int .i64 0, .int .i64 0, .int .i64 0, .int .i64 0, .int .i64 0]) (t := 42) ?hr ?_; (case hd => rfl); (case hg => rfl); (case hr => first | (go_simp; done) | (go_simp; rfl)); intro g6 hg W6 hbox hb; have hne_ := Nat.ne_of_lt (Y1e (bU B3.out)); rw [← hg] at hne_; have N3_6 := Y0.mk hne_; clear hne_; have N6_3 := Y0.mk (Ne.symm N3_6.out); replace B3 := Y0.mk (Y3 (bU B3.out) hb); have hne_ := Nat.ne_of_lt (Y1e (bU B5.out)); rw [← hg] at hne_; have N5_6 := Y0.mk hne_; clear hne_; have N6_5 := Y0.mk (Ne.symm N5_6.out); replace B5 := Y0.mk (Y3 (bU B5.out) hb); have G6 := Y0.mk ((by rw [hg]; exact Ym (hU HB.out)) : w.heap.size ≤ g6); replace HB := Y0.mk (Y5 (hU HB.out) hb); have B6 := Y0.mk hbox; clear hb hbox hg; have hc3 := Y2 B3.out; have hf3 := Y4 B3.out; have hc5 := Y2 B5.out; have hf5 := Y4 B5.out; have hc6 := Y2 B6.out; have hf6 := Y4 B6.out; have n36 := N3_6.out; have n63 := N6_3.out; have n56 := N5_6.out; have n65 := N6_5.out) | ((with_reducible refine Ye (f := 15) rfl ?_); refine YU (some 15) rfl rfl Tryz.func15 (by kernel_rfl) rfl #[.agg #[.int .i64 a0, .slice A1 l1.length c1]] rfl (by (try simp only [List.map_toArray, List.map_cons, List.map_nil]); first | done | (go_simp; done) | rfl) ?_; refine (Yv.calls a0 A1 c1 l1 _ _ (Kd.C_below HR.out (hU HB.out)) HC.out HQ.out).mono ?_; rintro e w2 ⟨rfl, hb⟩; refine ⟨_, rfl, ?_⟩; replace B3 := Y0.mk (Y3 (bU B3.out) hb); replace B5 := Y0.mk (Y3 (bU B5.out) hb); replace B6 := Y0.mk (Y3 (bU B6.out) hb); replace HB := Y0.mk (Y5 (hU HB.out) hb); clear hb; clear hc3 hf3; have hc3 := Y2 B3.out; have hf3 := Y4 B3.out; clear hc5 hf5; have hc5 := Y2 B5.out; have hf5 := Y4 B5.out; clear hc6 hf6; have hc6 := Y2 B6.out; have hf6 := Y4 B6.out))
    refine bodyPost_ret (Y22 rfl _ _ g6 42 #[.int .i64 0, .int .i64 0, .int .i64 0, .int .i64 0, .int .i64 0, .int .i64 0, .int .i64 0] (0, 0) _ rfl (by exact put7 B6.out) Tryz.underlying42 rfl (by kernel_rfl)) rfl ?_; exact ⟨rfl, Y3Q (hU HB.out) G6.out⟩
  subst hz; rw [if_pos rfl] at h; have HL := Y0.mk (show l1.length ≤ 1000000 from Nat.le_trans (Y3h hcv) (by omega)); have H1 := Y0.mk (oneS hcv l1.length); have h := Option.some.inj h; unfold valR at h; obtain ⟨y, hy⟩ : ∃ y, (lasF l1 l1.length a2 a3 a4).getD z52 = y := ⟨_, rfl⟩; have HYE := Y0.mk hy; obtain ⟨sb, hsb⟩ : ∃ s, (lasF l1 l1.length a2 a3 a4).isSome = s := ⟨_, rfl⟩; have HSB := Y0.mk hsb
  have hh : (if sb = true then (if y.f3 = true then (0, 0, 0, 0, 0, 0, 0, false, 0) else (y.f4.f0, y.f4.f1, y.f4.f2, y.f4.f3, y.f4.f4, y.f4.f5, y.f4.f6, true, 0)) else (0, 0, 0, 0, 0, 0, 0, false, 6)) = (r0, r1, r2, r3, r4, r5, r6, r7, r8) := by
    cases hq : lasF l1 l1.length a2 a3 a4 with
    | none => rw [hq] at h hsb; subst hsb; exact h
    | some x => rw [hq] at h hsb hy; subst hsb; subst hy; exact h
  clear h hy hsb hcv; clear hr1 hc1 hv; go_enter Tryz.func21, Tryz.ntmps21
  go_upto_region 6 with (first | ((with_reducible refine Yf (N := 3) rfl ?_); refine Yi ?hg (N := 3) ?hd (cs := #[.int .i64 a0, .slice A1 l1.length c1]) (t := 24) ?hr ?_; (case hd => rfl); (case hg => rfl); (case hr => first | (go_simp; done) | (go_simp; rfl)); intro g3 hg W3 hbox hb; have G3 := Y0.mk ((by rw [hg]; exact Ym (hU HB.out)) : w.heap.size ≤ g3); replace HB := Y0.mk (Y5 (hU HB.out) hb); have B3 := Y0.mk hbox; clear hb hbox hg) | ((with_reducible refine Yf (N := 5) rfl ?_); refine Yi ?hg (N := 5) ?hd (cs := #[.int .i64 a3, .int .i64 a4]) (t := 46) ?hr ?_; (case hd => rfl); (case hg => rfl); (case hr => first | (go_simp; done) | (go_simp; rfl)); intro g5 hg W5 hbox hb; have hne_ := Nat.ne_of_lt (Y1e (bU B3.out)); rw [← hg] at hne_; have N3_5 := Y0.mk hne_; clear hne_; have N5_3 := Y0.mk (Ne.symm N3_5.out); replace B3 := Y0.mk (Y3 (bU B3.out) hb); have G5 := Y0.mk ((by rw [hg]; exact Ym (hU HB.out)) : w.heap.size ≤ g5); replace HB := Y0.mk (Y5 (hU HB.out) hb); have B5 := Y0.mk hbox; clear hb hbox hg) | ((with_reducible refine Yf (N := 6) rfl ?_); refine Yi ?hg (N := 6) ?hd (cs := #[.int .i64 0, .int .i64 0, .int .i64 0, .int .i64 0, .int .i64 0, .int .i64 0, .int .i64 0]) (t := 42) ?hr ?_; (case hd => rfl); (case hg => rfl); (case hr => first | (go_simp; done) | (go_simp; rfl)); intro g6 hg W6 hbox hb; have hne_ := Nat.ne_of_lt (Y1e (bU B3.out)); rw [← hg] at hne_; have N3_6 := Y0.mk hne_; clear hne_; have N6_3 := Y0.mk (Ne.symm N3_6.out); replace B3 := Y0.mk (Y3 (bU B3.out) hb); have hne_ := Nat.ne_of_lt (Y1e (bU B5.out)); rw [← hg] at hne_; have N5_6 := Y0.mk hne_; clear hne_; have N6_5 := Y0.mk (Ne.symm N5_6.out); replace B5 := Y0.mk (Y3 (bU B5.out) hb); have G6 := Y0.mk ((by rw [hg]; exact Ym (hU HB.out)) : w.heap.size ≤ g6); replace HB := Y0.mk (Y5 (hU HB.out) hb); have B6 := Y0.mk hbox; clear hb hbox hg; have hc3 := Y2 B3.out; have hf3 := Y4 B3.out; have hc5 := Y2 B5.out; have hf5 := Y4 B5.out; have hc6 := Y2 B6.out; have hf6 := Y4 B6.out; have n36 := N3_6.out; have n63 := N6_3.out; have n56 := N5_6.out; have n65 := N6_5.out) | ((with_reducible refine Ye (f := 15) rfl ?_); refine YU (some 15) rfl rfl Tryz.func15 (by kernel_rfl) rfl #[.agg #[.int .i64 a0, .slice A1 l1.length c1]] rfl (by (try simp only [List.map_toArray, List.map_cons, List.map_nil]); first | done | (go_simp; done) | rfl) ?_; refine (Yv.calls a0 A1 c1 l1 _ _ (Kd.C_below HR.out (hU HB.out)) HC.out HQ.out).mono ?_; rintro e w2 ⟨rfl, hb⟩; refine ⟨_, rfl, ?_⟩; replace B3 := Y0.mk (Y3 (bU B3.out) hb); replace B5 := Y0.mk (Y3 (bU B5.out) hb); replace B6 := Y0.mk (Y3 (bU B6.out) hb); replace HB := Y0.mk (Y5 (hU HB.out) hb); clear hb; clear hc3 hf3; have hc3 := Y2 B3.out; have hf3 := Y4 B3.out; clear hc5 hf5; have hc5 := Y2 B5.out; have hf5 := Y4 B5.out; clear hc6 hf6; have hc6 := Y2 B6.out; have hf6 := Y4 B6.out) | ((with_reducible refine Ye (f := 33) rfl ?_); refine YU (some 22) rfl rfl Tryz.func33 (by kernel_rfl) rfl #[.agg #[.int .i64 a0, .slice A1 l1.length c1]] rfl (by (try simp only [List.map_toArray, List.map_cons, List.map_nil]); first | done | (go_simp; done) | rfl) ?_; refine (Y2Y a0 A1 c1 l1 _ (Kd.C_below HR.out (hU HB.out)) HC.out HL.out HV.out H1.out).mono ?_; rintro e w3 ⟨m, v, D, rfl, _, hom, hsy, _, hb⟩; refine ⟨_, rfl, ?_⟩; have OM := Y0.mk hom; have SY := Y0.mk hsy; clear hom hsy; replace B3 := Y0.mk (Y3 (bU B3.out) hb); replace B5 := Y0.mk (Y3 (bU B5.out) hb); replace B6 := Y0.mk (Y3 (bU B6.out) hb); replace HB := Y0.mk (Y5 (hU HB.out) hb); clear hb; clear hc3 hf3; have hc3 := Y2 B3.out; have hf3 := Y4 B3.out; clear hc5 hf5; have hc5 := Y2 B5.out; have hf5 := Y4 B5.out; clear hc6 hf6; have hc6 := Y2 B6.out; have hf6 := Y4 B6.out) | ((with_reducible refine Yf (N := 30) rfl ?_); refine Y20 _ rfl _ _ 62 rfl 67 52 lawS Tryz.underlying62 (zeroV _) m l1.length D rfl OM.out (.agg #[.int .i64 a2, .int .i64 a3, .int .i64 a4]) _ rfl (Y1D HN.out.1 HN.out.2.1 HN.out.2.2) y (by have := (SY.out _ _ _ HN.out.1 HN.out.2.1 HN.out.2.2).1; rw [HYE.out] at this; exact this) sb (by have := (SY.out _ _ _ HN.out.1 HN.out.2.1 HN.out.2.2).2; rw [HSB.out] at this; exact this) ?_; unfold vE))
  have HB9 : Y0 (Below w.heap.size w (w3.alloc (.cells #[.int .i64 y.f0.f0, .int .i64 y.f0.f1, .int .i64 y.f1, .int .i64 y.f2.f0, .int .i64 y.f2.f1, .bool y.f3, .int .i64 y.f4.f0, .int .i64 y.f4.f1, .int .i64 y.f4.f2, .int .i64 y.f4.f3, .int .i64 y.f4.f4, .int .i64 y.f4.f5, .int .i64 y.f4.f6] 52))) := ⟨YA HB.out _⟩; have B69 : Y0 ((w3.alloc (.cells #[.int .i64 y.f0.f0, .int .i64 y.f0.f1, .int .i64 y.f1, .int .i64 y.f2.f0, .int .i64 y.f2.f1, .bool y.f3, .int .i64 y.f4.f0, .int .i64 y.f4.f1, .int .i64 y.f4.f2, .int .i64 y.f4.f3, .int .i64 y.f4.f4, .int .i64 y.f4.f5, .int .i64 y.f4.f6] 52)).heap[g6]? = some (.cells #[.int .i64 0, .int .i64 0, .int .i64 0, .int .i64 0, .int .i64 0, .int .i64 0, .int .i64 0] 42 (0, 0))) := ⟨Y8 B6.out _⟩; have B9 : Y0 ((w3.alloc (.cells #[.int .i64 y.f0.f0, .int .i64 y.f0.f1, .int .i64 y.f1, .int .i64 y.f2.f0, .int .i64 y.f2.f1, .bool y.f3, .int .i64 y.f4.f0, .int .i64 y.f4.f1, .int .i64 y.f4.f2, .int .i64 y.f4.f3, .int .i64 y.f4.f4, .int .i64 y.f4.f5, .int .i64 y.f4.f6] 52)).heap[w3.heap.size]? = some (.cells #[.int .i64 y.f0.f0, .int .i64 y.f0.f1, .int .i64 y.f1, .int .i64 y.f2.f0, .int .i64 y.f2.f1, .bool y.f3, .int .i64 y.f4.f0, .int .i64 y.f4.f1, .int .i64 y.f4.f2, .int .i64 y.f4.f3, .int .i64 y.f4.f4, .int .i64 y.f4.f5, .int .i64 y.f4.f6] 52 (0, 0))) := ⟨Y1w _ _⟩; have N69 := Y0.mk (Nat.ne_of_lt (Y1e B6.out)); generalize (w3.alloc (.cells #[.int .i64 y.f0.f0, .int .i64 y.f0.f1, .int .i64 y.f1, .int .i64 y.f2.f0, .int .i64 y.f2.f1, .bool y.f3, .int .i64 y.f4.f0, .int .i64 y.f4.f1, .int .i64 y.f4.f2, .int .i64 y.f4.f3, .int .i64 y.f4.f4, .int .i64 y.f4.f5, .int .i64 y.f4.f6] 52)) = w4 at HB9 B69 B9 ⊢; generalize w3.heap.size = g9 at B9 N69 ⊢; clear HB B3 B5 B6 hc3 hf3 hc5 hf5 hc6 hf6 OM SY; have hc9 := Y2 B9.out; have hc6 := Y2 B69.out; have hf6 := Y4 B69.out; have n69 := N69.out; have n96 := Ne.symm N69.out; cases sb
  · simp only [Bool.false_eq_true, if_false, Prod.mk.injEq] at hh
    obtain ⟨rfl, rfl, rfl, rfl, rfl, rfl, rfl, rfl, rfl⟩ := hh; go_wp2
    refine bodyPost_ret (Y22 rfl _ _ g6 42 #[.int .i64 0, .int .i64 0, .int .i64 0, .int .i64 0, .int .i64 0, .int .i64 0, .int .i64 0] (0, 0) _ rfl (by exact put7 B69.out) Tryz.underlying42 rfl (by kernel_rfl)) rfl ?_; exact ⟨rfl, Y3Q HB9.out G6.out⟩
  · simp only [if_true] at hh
    obtain ⟨b, hb⟩ : ∃ b, y.f3 = b := ⟨_, rfl⟩; rw [hb] at hh; cases b
    · simp only [Bool.false_eq_true, if_false, Prod.mk.injEq] at hh
      obtain ⟨rfl, rfl, rfl, rfl, rfl, rfl, rfl, rfl, rfl⟩ := hh; go_wp2
      refine bodyPost_ret (Y22 rfl _ _ g6 42 #[.int .i64 y.f4.f0, .int .i64 y.f4.f1, .int .i64 y.f4.f2, .int .i64 y.f4.f3, .int .i64 y.f4.f4, .int .i64 y.f4.f5, .int .i64 y.f4.f6] (0, 0) _ rfl (by exact put7 B69.out) Tryz.underlying42 rfl (by kernel_rfl)) rfl ?_; exact ⟨rfl, Y3Q HB9.out G6.out⟩
    · simp only [if_true, Prod.mk.injEq] at hh
      obtain ⟨rfl, rfl, rfl, rfl, rfl, rfl, rfl, rfl, rfl⟩ := hh; go_wp2
      refine bodyPost_ret (Y22 rfl _ _ g6 42 #[.int .i64 0, .int .i64 0, .int .i64 0, .int .i64 0, .int .i64 0, .int .i64 0, .int .i64 0] (0, 0) _ rfl (by exact put7 B69.out) Tryz.underlying42 rfl (by kernel_rfl)) rfl ?_; exact ⟨rfl, Y3Q HB9.out G6.out⟩
end Go.Proofs.YteopkkoblbmggaaGreat.P
end
